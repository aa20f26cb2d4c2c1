/- For whatever news, cries, evenings, cry and stands, the law NewsMends returns true and changes no argument: the gaps that a further cry mends, and those that none does, are as the reference tells them. -/
import Derived.Test.YtppbomajegnkeaaGreatPc
import Derived.Test.YtppbomajegnkeaaGreatPa
import Derived.KernelRfl
import Derived.IntWalk
set_option linter.unusedVariables false
set_option linter.unusedSimpArgs false
set_option linter.unusedSectionVars false
namespace Go.Eng
open Go
section
variable {P:Program} {H:zBl} {w0 w:World} {U Φ0 Φ:Nat→Prop} {nt:Nat} {hv:Hid} {a:Act} {e e':Env} {rv:Nat→Value} {E:Nat→PV} {L:Nat→List Nat} {o:zAH}
theorem zVi (S:St w0 U Φ0 nt hv a w e Φ rv E L) {g:Nat} (hg:zAb≤g) {k:PV→PM} {k2:PM} (h:(zRo (E g) k k2).run o e=some e') :
  k2.run o e=some e'∨∃ e1 rv1 E1,(k (E1 g)).run o e1=some e'∧Worked w0 U Φ0 nt hv a w rv E g e1 rv1 E1:=by
 have hO:=S.conf.rep g
 have fin:∀ {r:Nat} {pre:zA0} {q root p':PV} (hr:r<zAb) (yF:(E r).unlock=E r) (hq:zAA (E r) pre=some q) (h1:q.oneCell=true) (hm:zAx (fun _=>some .bad) (E r) pre=some root),
   (E g).oneCell=true→p'.oneCell=true→(∀ nv Li,zAZ w (rv r) (E r) pre=some (nv,q)→Rep w Φ (zA8 w rv E) q nv Li→Li.Nodup→∃ Lg,Rep w Φ (zA8 w rv E) p' (rv g) Lg∧Lg.Nodup∧∀ b∈Lg,b∈Li) →
   (k p').run o (e.set r root)=some e'→∃ e1 rv1 E1,(k (E1 g)).run o e1=some e'∧Worked w0 U Φ0 nt hv a w rv E g e1 rv1 E1:=by
  intro r pre q root p' hr yF hq h1 hm uZ jj y7 hk
  obtain ⟨kk1,kk2⟩:=zBL (q' := .bad) rfl rfl hm
  obtain ⟨nv,Li,g1,g2,g3,g4,g5⟩:=S.taken hg hr yF hq h1 hm kk1 kk2
  obtain ⟨Lg,p1,p2,p3⟩:=y7 nv Li g1 g2 g3
  obtain ⟨L',S1,ve⟩:=g5 p' (rv g) Lg p1 p2 (fun b hb => .inl (p3 b hb))
  have jK:∀ s,upd rv g (rv g) s=rv s:=fun s=>by
   by_cases hs:s=g
   ·subst hs;rw [zAl]
   ·rw [zAi hs]
  refine ⟨_,_,_,by rw [zAl];exact hk,⟨⟨_,_,S1⟩,jK g,fun s _=>jK s,fun s hs hI=>⟨by rw [zAi hI,zAi (by omega)],jK s⟩,?_,?_⟩⟩
  ·rw [zAl,(zBm jj).2,(zBm uZ).2]
  ·rw [zAl,(zBm jj).1,(zBm uZ).1];rfl
 generalize hE:E g=p at h
 rw [hE] at hO
 simp only [zRo] at h
 split at h
 ·rename_i r pre z lo n
  obtain ⟨q,hq,h1⟩:=zBI h
  obtain ⟨_,hr,⟨b,cap,yG,_⟩,hn⟩:=hO
  split at h1
  ·rename_i sz xs
   cases hc:Nat.ble (lo+n) xs.length with
   | false=>rw [hc] at h1;exact .inl h1
   | true =>
    rw [hc] at h1;simp only [cond_true] at h1
    obtain ⟨root,hl,hm,h2⟩:=zBW h1
    have yF:=zBD hl
    rw [yF,← S.env r hr] at hq
    rw [← S.env r hr] at yF hm
    refine .inr (fin hr yF hq rfl hm (by rw [hE];rfl) rfl (fun nv Li hf u4 yS=>?_) h2)
    obtain ⟨s2,xs2,q1,q2,q3⟩:=hn nv _ (by rw [yF];exact hf) rfl
    cases q1;subst q2
    obtain ⟨Lg,p1,p2,p3⟩:=zID u4 (Nat.le_of_ble_eq_true hc) q3
    exact ⟨Lg,p1,p3 yS,p2⟩
  ·exact .inl h1
 ·rename_i r pre sh
  obtain ⟨q,hq,h1⟩:=zBI h
  obtain ⟨_,hr,b,yG,y4,hn⟩:=hO
  split at h1
  ·rename_i q
   obtain ⟨root,hl,hm,h2⟩:=zBW h1
   have yF:=zBD hl
   rw [yF,← S.env r hr] at hq
   rw [← S.env r hr] at yF hm
   refine .inr (fin hr yF hq rfl hm (by rw [hE];rfl) rfl (fun nv Li hf u4 yS=>?_) h2)
   refine ⟨Li,?_,yS,fun b hb=>hb⟩
   have hrp':=u4
   obtain ⟨x,c,u,L',h3,h4,h5,_⟩:=hrp'
   have h6:nv=rv g:=by
    rw [yG,h4]
    have:=hn nv _ (by rw [yF];exact hf) x (by rw [h4];cases x;simp_all [zBb,zAt])
    rw [this]
   rw [← h6];exact u4
  ·exact .inl h1
 ·rename_i r pre
  obtain ⟨q,hq,h1⟩:=zBI h
  obtain ⟨_,hr,⟨b,yG⟩,hn⟩:=hO
  split at h1
  ·rename_i es
   obtain ⟨root,hl,hm,h2⟩:=zBW h1
   have yF:=zBD hl
   rw [yF,← S.env r hr] at hq
   rw [← S.env r hr] at yF hm
   refine .inr (fin hr yF hq rfl hm (by rw [hE];rfl) rfl (fun nv Li hf u4 yS=>⟨Li,?_,yS,fun b hb=>hb⟩) h2)
   rw [hn nv _ (by rw [yF];exact hf) _ rfl];exact u4
  ·exact .inl h1
 ·exact .inl h
theorem zL2 (S:St w0 U Φ0 nt hv a w e Φ rv E L) {g:Nat} (hg:zAb≤g) {frz:Bool} {k:PV→PM} (h:(zFZ frz (E g) k).run o e=some e'):∃ e1 rv1 E1,(k (E1 g)).run o e1=some e'∧Worked w0 U Φ0 nt hv a w rv E g e1 rv1 E1:=by
 have iced:(zLR zAn zDw (E g) k).run o e=some e'→∃ e1 rv1 E1,(k (E1 g)).run o e1=some e'∧Worked w0 U Φ0 nt hv a w rv E g e1 rv1 E1:=by
  intro h
  obtain ⟨e1,Φ1,E1,L1,h1,S1,h2,h3,h4,h5,h6,h7⟩:=zJD (hb:=zAn) hg (by decide) zDw S h
  exact ⟨e1,rv,E1,h1,⟨⟨_,_,S1⟩,rfl,fun _ _=>rfl,fun s hs hI=>⟨h3 s hs hI,rfl⟩,h6,h7⟩⟩
 simp only [zFZ] at h
 cases hc:(frz||(E g).ways.any fun w=>Nat.ble zAn w.1) with
 | true=>rw [hc] at h;exact iced h
 | false =>
  rw [hc] at h;simp only [cond_false] at h
  rcases zVi S hg h with h | h
  ·exact iced h
  ·exact h
theorem zKf {frz:Bool}:∀ (ps:List PV) (i:Nat) {k:List PV→PM} {e:Env} {Φ:Nat→Prop} {rv:Nat→Value} {E:Nat→PV} {L:Nat→List Nat},St w0 U Φ0 nt hv a w e Φ rv E L→(∀ (j:Nat) (p:PV),ps[j]? = some p→E (zAb+i+j)=p)→(zCr frz ps k).run o e=some e' →
  ∃ e1 Φ1 rv1 E1 L1 qs,(k qs).run o e1=some e'∧St w0 U Φ0 nt hv a w e1 Φ1 rv1 E1 L1∧qs.length=ps.length∧(∀ (j:Nat) (q:PV),qs[j]? = some q→E1 (zAb+i+j)=q∧rv1 (zAb+i+j)=rv (zAb+i+j)) ∧
   (∀ s,s<zAb→rv1 s=rv s)∧∀ s,zAb≤s→(s<zAb+i∨zAb+i+ps.length≤s)→E1 s=E s∧rv1 s=rv s
 | [],i,k,e,Φ,rv,E,L,S,hp,h=>⟨e,Φ,rv,E,L,[],h,S,rfl,by simp,fun _ _=>rfl,fun _ _ _=>⟨rfl,rfl⟩⟩
 | p :: ps,i,k,e,Φ,rv,E,L,S,hp,h=>by
  simp only [zCr] at h
  have hE:=hp 0 p rfl
  simp only [Nat.add_zero] at hE
  rw [← hE] at h
  obtain ⟨e1,rv1,E1,h1,W⟩:=zL2 S (g:=zAb+i) (by omega) h
  obtain ⟨Φ1,L1,S1⟩:=W.st
  obtain ⟨e2,Φ2,rv2,E2,L2,qs,h2,S2,h3,h4,h5,h6⟩:=zKf ps (i+1) S1 (fun j q hq=>by
   rw [(W.rest _ (by omega) (by omega)).1,show zAb+(i+1)+j=zAb+i+(j+1) by omega];exact hp (j+1) q (by simpa using hq)) h1
  refine ⟨e2,Φ2,rv2,E2,L2,E1 (zAb+i)::qs,h2,S2,by simp [h3],fun j q hq=>?_,fun s hs=>(h5 s hs).trans (W.low s hs),fun s hs ju=>?_⟩
  ·cases j with
   | zero =>
    simp at hq;subst hq
    obtain ⟨k1,k2⟩:=h6 (zAb+i) (by omega) (.inl (by omega))
    simp only [Nat.add_zero]
    exact ⟨k1,k2.trans W.val⟩
   | succ j =>
    obtain ⟨k1,k2⟩:=h4 j q (by simpa using hq)
    rw [show zAb+(i+1)+j=zAb+i+(j+1) by omega] at k1 k2
    exact ⟨k1,k2.trans (W.rest _ (by omega) (by omega)).2⟩
  ·obtain ⟨k1,k2⟩:=h6 s hs (by simp at ju;omega)
   obtain ⟨k3,k4⟩:=W.rest s hs (by simp at ju;omega)
   exact ⟨k1.trans k3,k2.trans k4⟩
theorem zKy (C:Conf w0 U Φ0 w Φ rv E L):∀ (qs:List PV) (vs:List Value) (i:Nat),vs.length=qs.length→(∀ (j:Nat) (q:PV) (v:Value),qs[j]? = some q→vs[j]? = some v→E (i+j)=q∧rv (i+j)=v) →
  ∃ Lp,zA6 w Φ (zA8 w rv E) qs vs Lp∧Lp.Nodup∧∀ b∈Lp,∃ t,i≤t∧t<i+qs.length∧b∈L t
 | [],vs,i,hl,h=>by
  have:vs=[]:=List.eq_nil_of_length_eq_zero (by simpa using hl)
  subst this;exact ⟨[],⟨rfl,rfl⟩,List.nodup_nil,by simp⟩
 | q :: qs,vs,i,hl,h=>by
  match vs,hl,h with
  | v :: vs,hl,h =>
   obtain ⟨h1,h2⟩:=h 0 q v rfl rfl
   simp only [Nat.add_zero] at h1 h2
   obtain ⟨Lp,k1,k2,k3⟩:=zKy C qs vs (i+1) (by simpa using hl) fun j q' v' hq hv=>by
    rw [show i+1+j=i+(j+1) by omega];exact h (j+1) q' v' (by simpa using hq) (by simpa using hv)
   have hr:=C.rep i
   rw [h1,h2] at hr
   refine ⟨L i++Lp,⟨v,vs,_,_,rfl,rfl,hr,k1⟩,?_,fun b hb=>?_⟩
   ·rw [List.nodup_append]
    refine ⟨C.nodup i,k2,fun x hx y hy e=>?_⟩
    obtain ⟨t,k4,k5,k6⟩:=k3 y hy
    exact C.disj i t (by omega) x hx (e▸k6)
   ·rcases List.mem_append.1 hb with hb | hb
    ·exact ⟨i,Nat.le_refl _,by simp,hb⟩
    ·obtain ⟨t,k4,k5,k6⟩:=k3 b hb
     exact ⟨t,by omega,by simp;omega,k6⟩
theorem zMu (S:St w0 U Φ0 nt hv a w e Φ rv E L) {j g:Nat} (hj:j<1000) (hg:zAb≤g) (hb:∀ s,zAb≤s→s≠g→E s = .bad) {k:PM} (h:(lay (zAB+j) (E g) k).run o e=some e') :
  ∃ e1 E1 L1,k.run o e1=some e'∧St w0 U Φ0 nt hv a w e1 Φ (upd rv (zAB+j) (rv g)) E1 L1∧zBp E1:=by
 have hh:zAn=50000000:=rfl
 have ho:zAB=60000000:=rfl
 have wU:zAb=1000000000:=rfl
 have jk:=S.small
 obtain ⟨e1,E1,L1,h1,C,h2,h3,h4,h5,h6⟩:=zSc S (d:=zAB+j) (by omega) hg h
 have ue:∀ d ps,d≠zAB+j→d<zAb→E1 d = .tup ps→∃ ps',E d = .tup ps'∧ps'.length=ps.length:=by
  intro d ps hd um hp
  rcases h3 d hd um with h7 | h7
  ·exact ⟨ps,by rw [← h7,hp],rfl⟩
  ·rw [h7] at hp;exact zEa (zIr _ _) hp
 refine ⟨e1,E1,L1,h1,⟨C,h2,S.size,S.small,fun t ht=>?_,fun d ps i hd hp hi=>?_,fun s h7 h8=>?_,S.dfr⟩,fun s hs=>?_⟩
 ·rw [zAi (by omega)];exact S.tmps t ht
 ·obtain ⟨ps',h7,h8⟩:=ue d ps (by omega) (by omega) hp
  obtain ⟨h9,vs,jS,vK⟩:=S.parts d ps' i hd h7 (by omega)
  refine ⟨h9,vs,by rw [zAi (by omega)];exact jS,?_⟩
  rw [zAi (by simp only [zBu];omega)];exact vK
 ·rw [zAi (by omega)];exact S.hid s h7 h8
 ·by_cases ya:s=g
  ·subst ya;exact h5
  ·rcases h6 s hs ya with h7 | h7
   ·rw [h7];exact hb s hs ya
   ·rw [h7,hb s hs ya];rfl
theorem zWU (S:St w0 U Φ0 nt hv a w e Φ rv E L) (hb:zBp E) {frz:Bool} {j:Nat} (hj:j<1000) {p:PV} {v:Value} (hp:Rep w Φ (zA8 w rv E) p v []) {k:PM} (h:(zGF frz p fun q=>lay (zAB+j) q k).run o e=some e') :
  ∃ e1 Φ1 rv1 E1 L1,k.run o e1=some e'∧St w0 U Φ0 nt hv a w e1 Φ1 rv1 E1 L1∧zBp E1∧rv1 (zAB+j)=v∧∀ s,s<zAb→s≠zAB+j→rv1 s=rv s:=by
 have ho:zAB=60000000:=rfl
 have wU:zAb=1000000000:=rfl
 have single:(zFZ frz p fun q=>lay (zAB+j) q k).run o e=some e'→∃ e1 Φ1 rv1 E1 L1,k.run o e1=some e'∧St w0 U Φ0 nt hv a w e1 Φ1 rv1 E1 L1∧zBp E1∧rv1 (zAB+j)=v∧∀ s,s<zAb→s≠zAB+j→rv1 s=rv s:=by
  intro h
  have S1:=S.hold (g:=zAb) (Nat.le_refl _) hp
  obtain ⟨e1,rv1,E1,h1,W⟩:=zL2 S1 (g:=zAb) (Nat.le_refl _) (by rw [zAl];exact h)
  obtain ⟨Φ1,L1,S2⟩:=W.st
  obtain ⟨e2,E2,L2,h2,S3,qb⟩:=zMu S2 hj (Nat.le_refl zAb) (fun s hs hI=>by rw [(W.rest s hs hI).1,zAi hI];exact hb s hs) h1
  refine ⟨e2,Φ1,_,E2,L2,h2,S3,qb,?_,fun s hs hI=>?_⟩
  ·rw [zAl,W.val,zAl]
  ·rw [zAi hI,W.low s hs,zAi (by omega)]
 simp only [zGF] at h
 split at h
 ·rename_i cs
  obtain ⟨vs,rfl,hr⟩:=hp
  obtain ⟨rv1,E1,L1,S1,k1,k2,k3⟩:=zKR cs vs.toList 1 S hr
  have yN:=hr.length
  have yW:∀ (j:Nat) (p:PV),cs[j]? = some p→∃ v,vs.toList[j]? = some v:=fun j p hj=>⟨_,List.getElem?_eq_getElem (by have:=(List.getElem?_eq_some_iff.1 hj).1;omega)⟩
  obtain ⟨e2,Φ2,rv2,E2,L2,qs,h2,S2,h3,h4,h5,h6⟩:=zKf cs 1 S1 (fun j p hjp=>by
   obtain ⟨v,yG⟩:=yW j p hjp
   exact (k2 j p v hjp yG).1) h
  have vM:∀ s,zAb≤s→(s<zAb+1∨zAb+1+cs.length≤s)→E2 s = .bad:=fun s hs ju=>by
   rw [(h6 s hs ju).1,(k3 s hs ju).1];exact hb s hs
  have gV:∀ (j:Nat) (q:PV) (v:Value),qs[j]? = some q→vs.toList[j]? = some v→E2 (zAb+1+j)=q∧rv2 (zAb+1+j)=v:=fun j q v hq yG=>by
   obtain ⟨m1,m2⟩:=h4 j q hq
   have yz:j<cs.length:=by have:=(List.getElem?_eq_some_iff.1 hq).1;omega
   have:=k2 j _ v (List.getElem?_eq_getElem yz) yG
   exact ⟨m1,m2.trans this.2.1⟩
  obtain ⟨Lp,r1,r2,r3⟩:=zKy S2.conf qs vs.toList (zAb+1) (by omega) gV
  have hG:∀ s,decide (zAb+1≤s∧s<zAb+1+cs.length)=true↔zAb+1≤s∧s<zAb+1+cs.length:=fun s=>decide_eq_true_iff
  have hc:=S2.conf.make (w':=w) (fun s=>decide (zAb+1≤s∧s<zAb+1+cs.length)) (fun s hs=>by have:=(hG s).1 hs;omega) (g:=zAb) (Nat.le_refl _) (p := .agg qs) (v := .agg vs) (Lp:=Lp)
   (fun A hA=>⟨vs,rfl,r1.mono zDq.refl hA (fun _ _=>rfl)⟩) r2 (fun b hb=>by
    obtain ⟨t,q1,q2,q3⟩:=r3 b hb
    exact .inl ⟨t,q3,(hG t).2 ⟨q1,by omega⟩⟩) (Nat.le_refl _) (fun _ _ _=>rfl) ⟨rfl,rfl,rfl⟩
  have yt:∀ s,s<zAb→decide (zAb+1≤s∧s<zAb+1+cs.length)=false:=fun s hs=>decide_eq_false (by omega)
  have S3:=S2.turn (e':=e2) hc (fun s hs=>by
   rw [zAi (by omega)]
   simp only [yt s hs,Bool.false_eq_true,if_false];exact S2.env s hs) (fun s hs=>zAi (by omega)) (fun d ps hd hp=>by
   rw [zAi (by omega)] at hp
   simp only [yt d (by omega),Bool.false_eq_true,if_false] at hp;exact ⟨ps,hp,rfl⟩)
  obtain ⟨e4,E4,L4,m1,S4,m2⟩:=zMu S3 hj (Nat.le_refl zAb) (fun s hs hI=>by
   rw [zAi hI]
   by_cases h7:s<zAb+1+cs.length
   ·simp only [(hG s).2 ⟨by omega,h7⟩,if_true]
   ·have:decide (zAb+1≤s∧s<zAb+1+cs.length)=false:=decide_eq_false (by omega)
    simp only [this,Bool.false_eq_true,if_false];exact vM s hs (by omega)) (by rw [zAl];exact h2)
  refine ⟨e4,Φ2,_,E4,L4,m1,S4,m2,?_,fun s hs hI=>?_⟩
  ·rw [zAl,zAl]
  ·rw [zAi hI,zAi (by omega),h5 s hs,(k1 s hs).2]
 ·exact single h
def zW0 (nt:Nat):ResultVar→Bool
 | .tmp t=>Nat.blt t nt
 | .cell t _=>Nat.blt t nt
def zHp (a:Act):ResultVar→Sem Value
 | .tmp t=>pure (a.tmps.getD t undef)
 | .cell t ty=>do loadVar ty (← asAddr (a.tmps.getD t undef))
theorem zMN {frz:Bool}:∀ (rs:List ResultVar) (j:Nat) {e:Env} {Φ:Nat→Prop} {rv:Nat→Value} {E:Nat→PV} {L:Nat→List Nat},St w0 U Φ0 nt hv a w e Φ rv E L→zBp E→j+rs.length≤1000→(∀ x∈rs,zW0 nt x=true)→(zCK P frz j rs).run o e=some e' →
  ∃ Φ1 rv1 E1 L1,St w0 U Φ0 nt hv a w e' Φ1 rv1 E1 L1∧zBp E1∧(∀ s,s<zAB+j→rv1 s=rv s)∧∀ (i:Nat) (x:ResultVar),rs[i]? = some x→(zHp a x).run P w = .ok (rv1 (zAB+j+i)) w
 | [],j,e,Φ,rv,E,L,S,hb,hj,hr,h=>by
  simp only [zCK,PM.run,Option.some.injEq] at h;subst h
  exact ⟨Φ,rv,E,L,S,hb,fun _ _=>rfl,by simp⟩
 | x :: rs,j,e,Φ,rv,E,L,S,hb,hj,hr,h=>by
  have ho:zAB=60000000:=rfl
  have wU:zAb=1000000000:=rfl
  simp only [List.length_cons] at hj
  have hx:=hr x (by simp)
  have fin:∀ {p:PV} {v:Value},Rep w Φ (zA8 w rv E) p v []→(zHp a x).run P w = .ok v w→(zGF frz p fun q=>lay (zAB+j) q (zCK P frz (j+1) rs)).run o e=some e' →
    ∃ Φ1 rv1 E1 L1,St w0 U Φ0 nt hv a w e' Φ1 rv1 E1 L1∧zBp E1∧(∀ s,s<zAB+j→rv1 s=rv s)∧∀ (i:Nat) (y:ResultVar),(x::rs)[i]? = some y→(zHp a y).run P w = .ok (rv1 (zAB+j+i)) w:=by
   intro p v hp yG h
   obtain ⟨e1,Φ1,rv1,E1,L1,h1,S1,y6,h2,h3⟩:=zWU S hb (by omega) hp h
   obtain ⟨Φ2,rv2,E2,L2,S2,j3,h4,h5⟩:=zMN rs (j+1) S1 y6 (by omega) (fun y hy=>hr y (by simp [hy])) h1
   refine ⟨Φ2,rv2,E2,L2,S2,j3,fun s hs=>(h4 s (by omega)).trans (h3 s (by omega) (by omega)),fun i y hy=>?_⟩
   cases i with
   | zero =>
    simp at hy;subst hy
    rw [Nat.add_zero,h4 _ (by omega),h2];exact yG
   | succ i =>
    rw [show zAB+j+(i+1)=zAB+(j+1)+i by omega]
    exact h5 i y (by simpa using hy)
  cases x with
  | tmp t =>
   have uS:t<nt:=zB2 hx
   have yf:t<zAb:=Nat.lt_of_lt_of_le uS (Nat.le_trans S.small (by decide))
   simp only [zCK,PM.run] at h
   rw [← S.env t yf] at h
   exact fin (S.conf.view yf) (by simp only [zHp,Sem.run_pure];rw [S.tmps t uS]) h
  | cell t ty =>
   have uS:t<nt:=zB2 hx
   have yf:t<zAb:=Nat.lt_of_lt_of_le uS (Nat.le_trans S.small (by decide))
   simp only [zCK] at h
   obtain ⟨sh,j4,h1⟩:=zBG h
   simp only [PM.run] at h1
   rw [← S.env t yf] at h1
   have yG:=S.conf.view yf
   split at h1
   ·rename_i r pre i c s' ud
    rw [ud] at yG
    obtain ⟨b,u,q,q1,q2,q3,q4⟩:=zLO (P:=P) S j4 yG h1
    exact fin q4 (by simp only [zHp,Sem.run_bind];rw [S.tmps t uS,q1];simp [asAddr,q2]) q3
   ·cases h1
end
end Go.Eng
namespace Go.Eng
open Go
def zUV (P:Program) (fn:Func):Bool :=
 match fn.body with
 | none=>true
 | some c=>zCE P fn.ntmps c&&fn.results.toList.all (zW0 fn.ntmps)&&Nat.ble fn.ntmps 2000000&&Nat.ble fn.results.size 1000
section
variable {P:Program} {H:zBl} {w:World} {orc:zAH} {yo:zCO}
theorem zJy {α β:Type} {f:α→Sem β}:∀ (l:List α) (vs:List β),l.length=vs.length→(∀ (i:Nat) (x:α) (v:β),l[i]? = some x→vs[i]? = some v→(f x).run P w = .ok v w)→(l.mapM f).run P w = .ok vs w
 | [],[],_,_=>rfl
 | [],_::_,h,_=>by cases h
 | _::_,[],h,_=>by cases h
 | x::l,v::vs,h,hf=>by
  simp only [List.mapM_cons,Sem.run_bind,hf 0 x v rfl rfl,Result.andThen_ok,zJy l vs (by simpa using h) (fun i y u hy hu=>hf (i+1) y u (by simpa using hy) (by simpa using hu)),Sem.run_pure]
theorem zNS {fn:Func} {a:Act} {vs:List Value} (hl:fn.results.size=vs.length) (h:∀ (i:Nat) (x:ResultVar) (v:Value),fn.results.toList[i]? = some x→vs[i]? = some v→(zHp a x).run P w = .ok v w) :
  (results fn a.tmps).run P w = .ok (if h:vs.toArray.size=1 then vs.toArray[0] else .tuple vs.toArray) w:=by
 have h1:=zJy (P:=P) (w:=w) (f:=zHp a) fn.results.toList vs (by simpa using hl) h
 have h2:(fn.results.mapM (zHp a)).run P w = .ok vs.toArray w:=by
  rw [Array.mapM_eq_mapM_toList]
  simp only [Sem.run_map,h1,Result.andThen_ok]
 have h3:(fun | .tmp t=>pure (a.tmps.getD t undef) | .cell t ty=>do loadVar ty (← asAddr (a.tmps.getD t undef)):ResultVar→Sem Value)=zHp a:=by
  funext x;cases x<;>rfl
 simp only [results,Sem.run_bind]
 have h4:(fn.results.mapM (fun | .tmp t=>pure (a.tmps.getD t undef) | .cell t ty=>do loadVar ty (← asAddr (a.tmps.getD t undef)):ResultVar→Sem Value)).run P w = .ok vs.toArray w:=by rw [h3];exact h2
 erw [h4]
 rfl
theorem zJQ {fn:Func} {tmps:Array Value} {R:Ending→World→Prop}:∀ (ds:List Deferred) (w:World),(∀ d∈ds,∃ D,d.target = .collected D∧w.heap[D]? = some (.deferred (some [])))→ds.Pairwise (fun d d'=>∀ D D',d.target = .collected D→d'.target = .collected D'→D≠D') →
  (∀ w',w'.heap.size=w.heap.size→(∀ b,(∀ d∈ds,d.target ≠ .collected b)→w'.heap[b]? = w.heap[b]?)→(w'.os=w.os∧w'.tape=w.tape∧w'.output=w.output)→LeavesIn (FF none) 0 P fn tmps R [] .returning w')→LeavesInM (FF none) 0 P fn tmps R ds .returning w
 | [],w,_,_,h=>h w rfl (fun _ _=>rfl) ⟨rfl,rfl,rfl⟩
 | d :: ds,w,h1,h2,h=>by
  obtain ⟨D,q1,q2⟩:=h1 d (by simp)
  obtain ⟨p1,p2⟩:=List.pairwise_cons.1 h2
  refine ⟨by simp,.inl ⟨D,_,q1,run_takeDeferred q2,zJQ ds _ (fun d' hd=>?_) p2 fun w' g1 g2 g3=>?_⟩⟩
  ·obtain ⟨D',r1,r2⟩:=h1 d' (by simp [hd])
   exact ⟨D',r1,(World.putObj_heap_other (Ne.symm (p1 d' hd D D' q1 r1))).trans r2⟩
  ·refine h w' (g1.trans (by simp)) (fun b hb=>(g2 b fun d' hd=>hb d' (by simp [hd])).trans (World.putObj_heap_other fun e=>hb d (by simp) (e▸q1))) g3
theorem zVy (zEX:P.follows .mixedOrders=true) (jI:zGn P orc) (hnm:zEI P) (qk:zMw P yo) {f:FuncId} {fn:Func} {body:Code} {n:Nat} {args hid hZ:List PV} {v:PV} (hf:P.funcs[f]? = some fn) (yY:fn.body=some body) (hwf:zUV P fn=true) (h:zJf P H orc yo zCd n f fn body args hid=some (v,hZ)) :
    zFv P f args hid v hZ:=by
  have ho:zAB=60000000:=rfl
  have hh:zAn=50000000:=rfl
  have wU:zAb=1000000000:=rfl
  simp only [zUV,yY,Bool.and_eq_true] at hwf
  obtain ⟨⟨⟨jM,y8⟩,ub⟩,jW⟩:=hwf
  have ub:=Nat.le_of_ble_eq_true ub
  have jW:=Nat.le_of_ble_eq_true jW
  simp only [zJf] at h
  cases hc:(Nat.ble args.length fn.ntmps&&Nat.ble hid.length 1000&&args.all fun p => !p.isTup) with
  | false=>rw [hc] at h;cases h
  | true =>
    rw [hc] at h;simp only [cond_true] at h
    simp only [Bool.and_eq_true] at hc
    obtain ⟨⟨yL,ua⟩,ue⟩:=hc
    have yL:=Nat.le_of_ble_eq_true yL
    have ua:=Nat.le_of_ble_eq_true ua
    have key : ∀ x e1,exec P H orc yo zCd fn.ntmps (H f) n body (zBc args hid) none=some (x,e1,none)→(x = .norm∨x = .ret)→∀ e',(zCK P (H f).frz 0 fn.results.toList).run orc e1=some e' →
        (bif Nat.beq fn.results.size 1&&(e'.get zAB).isTup then none else some (zVB e' fn.results.size,(List.range hid.length).map fun j=>e'.get (zAn+j)))=some (v,hZ)→zFv P f args hid v hZ:=by
      intro x e1 hx gR e' wG ye w Φ rv E L vs hE kh C yI yp jd
      refine callsIn_wide.1 (callsIn_of_wp_marks (n:=0) hf yY trivial ?_)
      have hntm:vs.size+(fn.ntmps-vs.size)=fn.ntmps:=by omega
      have S:St w (fun b=>∃ s,b∈L s) Φ fn.ntmps ⟨rv,[]⟩ {tmps:=vs++Array.replicate (fn.ntmps-vs.size) undef,defers:=[]} w (zBc args hid) Φ rv E L:=by
        refine ⟨C,hE,by simp;omega,ub,fun t ht=>?_,fun d ps i hd hp hi=>?_,fun _ _ _=>rfl,rfl⟩
        · simp only [Array.getD_eq_getD_getElem?,Array.getElem?_append]
          by_cases h1:t<vs.size
          · rw [if_pos h1,yp t (by omega)];rfl
          · rw [if_neg h1,Array.getElem?_replicate,if_pos (by omega),jd t (by omega) (by omega)];rfl
        · rw [hE d (by omega),zDr (by omega)] at hp
          split at hp
          · rename_i vb
            have:(args.getD d .bad)∈args:=by
              simp only [List.getD,List.getElem?_eq_getElem vb,Option.getD_some];exact List.getElem_mem vb
            have:=List.all_eq_true.1 ue _ this
            rw [hp] at this;cases this
          · split at hp
            · omega
            · cases hp
      have hw:=zHR (zWx jI hnm) zEX n body (.inr (zWN zEX jI hnm qk)) jM (fun _ _=>trivial) rfl (⟨rfl,w,_,Φ,[],Rel.refl,⟨fun _ h=>(by cases h),.nil⟩,Φ,rv,E,L,S,kh⟩:GB w (fun b=>∃ s,b∈L s) Φ fn.ntmps rv _ w _ none) hx
      refine wpIn_mono hw fun ex a' w1 ⟨gS,_,wz,Uz,Φz,ds,qB,wV,Φ1,rv1,E1,L1,Sz,y6⟩=>?_
      have uf:LeavesInM (FF none) 0 P fn a'.tmps (fun e w'=>∃ u Φ' rv' E' L',e = .returned u∧Conf w (fun b=>∃ s,b∈L s) Φ w' Φ' rv' E' L'∧hZ.length=hid.length ∧
          (∀ j,j<hid.length→E' (zAn+j)=hZ.getD j .bad∧rv' (zAn+j)=rv (zAn+j))∧Gave v u rv' E') a'.defers .returning w1:=by
       rw [Sz.dfr]
       have gW:∀ d∈ds,∀ D,d.target = .collected D→(∀ s,D∉L1 s)∧¬ Φ1 D∧w.heap.size≤D:=by
         intro d hd D hD
         obtain ⟨D',q1,q0,q2,q3,q4,q5⟩:=wV.each d hd
         rw [q1] at hD;cases hD
         refine ⟨fun s hs=>?_,fun h=>?_,q0⟩
         · rcases (Sz.conf.own s D hs).2.2 with h | h
           · exact q4 h
           · omega
         · rcases (Sz.conf.frz D h).2 with h | h | h
           · exact q5 h
           · exact q4 h
           · omega
       refine zJQ ds w1 (fun d hd=>?_) wV.apart fun w' m1 m2 m3=>?_
       · obtain ⟨D,q1,_,q2,q3,q4,_⟩:=wV.each d hd
         exact ⟨D,q1,(Sz.conf.kept D q2 q4).trans q3⟩
       have C1:Conf w (fun b=>∃ s,b∈L s) Φ w' Φ1 rv1 E1 L1:=(Sz.conf.rebase qB).moved (by omega) (fun s b hb=>m2 b fun d hd h=>(gW d hd b h).1 s hb) (fun b hb=>m2 b fun d hd h=>(gW d hd b h).2.1 hb) (fun b hb _=>m2 b fun d hd h=>by have:=(gW d hd b h).2.2;omega) m3
       have S1:St w (fun b=>∃ s,b∈L s) Φ fn.ntmps ⟨rv,ds⟩ a' w' e1 Φ1 rv1 E1 L1:=Sz.with C1
       obtain ⟨Φ2,rv2,E2,L2,S2,j3,_,h3⟩:=zMN fn.results.toList 0 S1 y6 (by simpa using jW) (fun y hy=>List.all_eq_true.1 y8 y hy) wG
       let us:List Value:=(List.range fn.results.size).map fun i=>rv2 (zAB+i)
       have yA:=zNS (P:=P) (w:=w') (fn:=fn) (a:=a') (vs:=us) (by simp [us]) (fun i y u hy hu=>by
         have:=h3 i y hy
         rw [Nat.add_zero] at this
         rw [this]
         have hi:i<fn.results.size:=by have:=(List.getElem?_eq_some_iff.1 hy).1;simpa using this
         simp only [us,List.getElem?_map,List.getElem?_range hi,Option.map_some,Option.some.injEq] at hu
         rw [hu])
       refine ⟨_,yA,_,Φ2,rv2,E2,L2,rfl,S2.conf,?_⟩
       have hv:v=zVB e' fn.results.size∧hZ=(List.range hid.length).map fun j=>e'.get (zAn+j):=by
         revert ye
         cases (Nat.beq fn.results.size 1&&(e'.get zAB).isTup) with
         | true=>intro h;cases h
         | false=>intro h;simp only [cond_false,Option.some.injEq,Prod.mk.injEq] at h;exact ⟨h.1.symm,h.2.symm⟩
       obtain ⟨uv,ko⟩:=hv
       refine ⟨by rw [ko];simp,fun j hj=>⟨?_,S2.hid _ (by omega) (by omega)⟩,?_⟩
       · rw [S2.env _ (by omega),ko]
         simp [List.getD,hj]
       · by_cases h1:fn.results.size=1
         · have ub:(e'.get zAB).isTup=false:=by
             revert ye
             cases hb:(e'.get zAB).isTup with
             | true=>simp [h1]
             | false=>intro _;rfl
           have hv3:v=e'.get zAB:=by rw [uv,zVB,if_pos h1]
           have wR:us=[rv2 zAB]:=by simp only [us,h1];rfl
           refine ⟨fun _=>⟨by rw [S2.env _ (by omega),hv3],?_⟩,fun ps yc=>?_⟩
           · rw [wR];rfl
           · rw [hv3] at yc;rw [yc] at ub;cases ub
         · have hv3:v = .tup ((List.range fn.results.size).map fun j=>e'.get (zAB+j)):=by rw [uv,zVB,if_neg h1]
           refine ⟨fun h=>absurd hv3 (h _),fun ps yc=>?_⟩
           rw [hv3] at yc
           simp only [PV.tup.injEq] at yc
           subst yc
           refine ⟨us.toArray,?_,by simp [us],fun j p hj=>?_⟩
           · rw [dif_neg (by simpa [us] using h1)]
           · simp only [List.getElem?_map] at hj
             cases hr:(List.range fn.results.size)[j]? with
             | none=>rw [hr] at hj;cases hj
             | some k =>
               rw [hr] at hj;simp only [Option.map_some,Option.some.injEq] at hj
               obtain ⟨jL,uk⟩:=List.getElem?_eq_some_iff.1 hr
               simp only [List.getElem_range] at uk
               subst uk
               simp only [List.length_range] at jL
               exact ⟨by rw [S2.env _ (by omega)];exact hj,by simp [us,jL]⟩
      subst gS
      rcases gR with rfl | rfl<;>exact uf
    revert h
    cases hx:exec P H orc yo zCd fn.ntmps (H f) n body (zBc args hid) none with
    | none=>intro h;cases h
    | some r =>
      obtain ⟨x,e1,lg⟩:=r
      intro h
      cases x with
      | ex id=>cases lg<;>cases h
      | norm =>
        cases lg with
        | some g=>cases h
        | none =>
          cases wG:(zCK P (H f).frz 0 fn.results.toList).run orc e1 with
          | none=>simp only [wG] at h;cases h
          | some e'=>simp only [wG] at h;exact key .norm e1 hx (.inl rfl) e' wG h
      | ret =>
        cases lg with
        | some g=>cases h
        | none =>
          cases wG:(zCK P (H f).frz 0 fn.results.toList).run orc e1 with
          | none=>simp only [wG] at h;cases h
          | some e'=>simp only [wG] at h;exact key .ret e1 hx (.inr rfl) e' wG h
def zEL (P:Program) (H:zBl):Prop:=∀ (f:FuncId) (fn:Func) (args hid:List PV) (v:PV) (hZ:List PV),P.funcs[f]? = some fn→(H f).intr≠0→zDY P fn (H f).intr args hid=some (v,hZ)→zCx P f∧zFv P f args hid v hZ
def Fit (P:Program) (H:zBl):Prop:=∀ (f:FuncId) (fn:Func),P.funcs[f]? = some fn→(H f).intr=0→zUV P fn=true
def zUp (P:Program) (g:FuncId) (first:List PV) (i:Nat) (caps:List PV) (k:Int) (plan:List (List PV)):Prop :=
  ∀ (J:List (List PV)→World→(Nat→Prop)→Prop) (Jx:World→Prop) (Ψ:Nat→Prop),Client P i plan k Ψ J Jx→∀ (w:World) (Φ:Nat→Prop) (rv:Nat→Value) (E:Nat→PV) (L:Nat→List Nat) (vs:Array Value) (B:Nat→Prop),
   (∀ s,s<zAb→E s=(zBc (first++PV.yld i::caps) []).get s)→(∀ s,zAb≤s→E s = .bad)→Conf w (fun b=>∃ s,b∈L s) Φ w Φ rv E L→vs.size=(first++PV.yld i::caps).length→(∀ j,j<(first++PV.yld i::caps).length→vs[j]? = some (rv j)) →
   (∀ s,(first++PV.yld i::caps).length≤s→s<zAn→rv s=undef)→J [] w B→(∀ b,B b→∀ s,b∉L s)→(∀ b,Φ b→Ψ b∨¬ B b) →
   CallsIn (FF none) 0 P g vs w fun en w'=>(∃ v,en = .returned v)∧((k-plan.length≠0∧∃ B',J plan w' B')∨(k-plan.length=0∧Jx w'))
theorem zQk (zEX:P.follows .mixedOrders=true) (jI:zGn P orc) (hnm:zEI P) (zMo:Fit P H) {n:Nat} {g:FuncId} {first caps:List PV} {i:Nat} {k:Int} {plan:List (List PV)} (h:zXh P H orc yo zCd n g first i caps k=some plan):zCx P g∧(first++PV.yld i::caps).length≤zAn∧zUp P g first i caps k plan:=by
 have hh:zAn=50000000:=rfl
 simp only [zXh] at h
 split at h
 ·rename_i fn hf
  split at h
  ·rename_i body yY
   rcases zBk h with ⟨hc,h⟩ | ⟨_,h⟩
   ·simp only [Bool.and_eq_true] at hc
    obtain ⟨⟨⟨⟨h1,h2⟩,h3⟩,h4⟩,hint⟩:=hc
    have hint:=Nat.eq_of_beq_eq_true hint
    have h1:=Nat.le_of_ble_eq_true h1
    have hwf:=zMo g fn hf hint
    simp only [zUV,yY,Bool.and_eq_true] at hwf
    obtain ⟨⟨⟨jM,y8⟩,ub⟩,jW⟩:=hwf
    have ub:=Nat.le_of_ble_eq_true ub
    have ue:(first++PV.yld i::caps).all (fun p => !p.isTup)=true:=by
     rw [List.all_append,List.all_cons,Bool.and_eq_true] 
     rw [List.all_append,Bool.and_eq_true] at h3
     exact ⟨h3.1,by rw [h3.2];rfl⟩
    have hk:k≠0:=by simpa using h4
    refine ⟨⟨fn,hf,by rw [yY];rfl⟩,by omega,?_⟩
    have key:∀ {x:X} {e1:Env} {l:Log},exec P H orc yo zCd fn.ntmps (H g) n body (zBc (first++PV.yld i::caps) []) (some ⟨[],k,i⟩)=some (x,e1,some l)→(x = .norm∨x = .ret)→l.xs=plan→zUp P g first i caps k plan:=fun hx gR hg J Jx Ψ hC w Φ rv E L vs B hE kh C yI yp jd hJ hBL hBΦ =>
     zU7 zEX jI hnm hC hf yY jM ub h1 ue h2 hx gR hg hk hE kh C yI yp jd hJ hBL hBΦ
    split at h
    ·rename_i e1 l hx
     simp only [Option.some.injEq] at h
     exact key hx (.inl rfl) h
    ·rename_i e1 l hx
     simp only [Option.some.injEq] at h
     exact key hx (.inr rfl) h
    ·cases h
   ·cases h
  ·cases h
 ·cases h
theorem zFi [Yo] (zEX:P.follows .mixedOrders=true) (hnm:zEI P) (zMo:Fit P H) (hin:zEL P H) (qk:zMw P Yo.yo):∀ n,zGn P (zCX P H n)
 | 0=>by intro f args hid v hZ h;cases h
 | n + 1 => by
  have jI:=zFi zEX hnm zMo hin qk n
  intro f args hid v hZ h
  have h:zIO P H (zCX P H n) Yo.yo zCd (n+1) f args hid=some (v,hZ):=h
  simp only [zIO] at h
  split at h
  ·rename_i fn hf
   split at h
   ·rename_i hi
    exact hin f fn args hid v hZ hf hi h
   ·rename_i hi
    split at h
    ·rename_i body yY
     exact ⟨⟨fn,hf,by rw [yY];rfl⟩,zVy zEX jI hnm qk hf yY (zMo f fn hf (by simpa using hi)) h⟩
    ·cases h
  ·cases h
abbrev yo0:Yo:=⟨fun _ _ _ _ _=>none⟩
noncomputable def zTv (P:Program) (H:zBl) (n:Nat):zCO:=fun g first i caps k=>zXh P H (@zCX P H yo0 n) yo0.yo zCd (n+1) g first i caps k
open Classical in
noncomputable def zW8 (P:Program) (H:zBl):zCO:=fun g first i caps k=>if h:∃ xs n0,∀ n,n0≤n→zTv P H n g first i caps k=some xs then some (Classical.choose h) else none
noncomputable abbrev yo1 (P:Program) (H:zBl):Yo:=⟨zW8 P H⟩
theorem zUL {g:FuncId} {first:List PV} {i:Nat} {caps:List PV} {k:Int} {xs:List (List PV)} {n0:Nat} (h:∀ n,n0≤n→zTv P H n g first i caps k=some xs):zW8 P H g first i caps k=some xs:=by
 have h':∃ xs n0,∀ n,n0≤n→zTv P H n g first i caps k=some xs:=⟨xs,n0,h⟩
 simp only [zW8,dif_pos h']
 obtain ⟨n1,h1⟩:=Classical.choose_spec h'
 have h2:=h1 (max n0 n1) (by omega)
 rw [h (max n0 n1) (by omega)] at h2
 exact h2.symm
theorem zPL (zEX:P.follows .mixedOrders=true) (hnm:zEI P) (zMo:Fit P H) (hin:zEL P H):zMw P (zW8 P H):=by
 intro g first i caps k plan h
 simp only [zW8] at h
 split at h
 ·rename_i h'
  simp only [Option.some.injEq] at h;subst h
  obtain ⟨n1,h1⟩:=Classical.choose_spec h'
  exact zQk zEX (@zFi P H yo0 zEX hnm zMo hin (fun g first i caps k plan h=>by cases h) n1) hnm zMo (h1 n1 (by omega))
 ·cases h
end
end Go.Eng
namespace Go.Eng
open Go
def zHw:zAH:=fun _ _ _=>none
def zV9:zCO:=fun _ _ _ _ _=>none
def zGX:All:=fun _=>none
theorem zFB {o:zAH}:∀ {p:PM} {e e1:Env},p.run zHw e=some e1→p.run o e=some e1:=by
 intro p
 induction p with
 | ok=>intro e e1 h;exact h
 | fail=>intro e e1 h;cases h
 | view s k ih=>intro e e1 h;exact ih _ h
 | get s k ih=>intro e e1 h;simp only [PM.run] at h ⊢;split at h<;>first | (cases h;done) | exact ih _ h
 | set s q k ih=>intro e e1 h;exact ih h
 | cells r pre i c n k ih=>intro e e1 h;simp only [PM.run] at h ⊢;split at h<;>first | (cases h;done) | exact ih _ _ h
 | deep r pre k ih=>intro e e1 h;simp only [PM.run] at h ⊢;split at h<;>first | (cases h;done) | exact ih _ h
 | wcells r pre i c qs k ih=>intro e e1 h;simp only [PM.run] at h ⊢;split at h<;>first | (cases h;done) | exact ih h
 | wnode r pre q k ih =>
  intro e e1 h
  simp only [PM.run] at h ⊢
  rcases zBk h with ⟨_,h⟩ | ⟨hl,h⟩
  ·cases h
  ·rw [hl];simp only [cond_false]
   split at h
   ·exact ih h
   ·cases h
 | kill r pre k ih=>intro e e1 h;exact ih h
 | frz r pre k ih=>intro e e1 h;simp only [PM.run] at h ⊢;split at h<;>first | (cases h;done) | exact ih h
 | killEx r pre k ih=>intro e e1 h;exact ih h
 | forget r k ih=>intro e e1 h;exact ih h
 | call f args hid k ih=>intro e e1 h;cases h
theorem zAp {α β:Type} {x y:Option α} {f:α→β} {r:β} (h:x.map f=some r) (g:∀ a,x=some a→y=some a):y.map f=some r:=by
 obtain ⟨a,h1,h2⟩:=Option.map_eq_some_iff.1 h
 rw [g a h1];simp [h2]
theorem zIF {o:zAH}:∀ {p:PM} {e:Env} {r:Env×Tok},p.runT zHw e=some r→p.runT o e=some r:=by
 intro p
 induction p with
 | ok=>intro e e1 h;exact h
 | fail=>intro e e1 h;cases h
 | view s k ih=>intro e e1 h;exact zAp h fun a h=>ih _ h
 | get s k ih=>intro e e1 h;simp only [PM.runT] at h ⊢;split at h<;>first | (cases h;done) | exact zAp h fun a h=>ih _ h
 | set s q k ih=>intro e e1 h;exact zAp h fun a h=>ih h
 | cells r pre i c n k ih=>intro e e1 h;simp only [PM.runT] at h ⊢;split at h<;>first | (cases h;done) | exact zAp h fun a h=>ih _ _ h
 | deep r pre k ih=>intro e e1 h;simp only [PM.runT] at h ⊢;split at h<;>first | (cases h;done) | exact zAp h fun a h=>ih _ h
 | wcells r pre i c qs k ih=>intro e e1 h;simp only [PM.runT] at h ⊢;split at h<;>first | (cases h;done) | exact zAp h fun a h=>ih h
 | wnode r pre q k ih =>
  intro e e1 h
  simp only [PM.runT] at h ⊢
  rcases zBk h with ⟨_,h⟩ | ⟨hl,h⟩
  ·cases h
  ·rw [hl];simp only [cond_false]
   split at h
   ·exact zAp h fun a h=>ih h
   ·cases h
 | kill r pre k ih=>intro e e1 h;exact zAp h fun a h=>ih h
 | frz r pre k ih=>intro e e1 h;simp only [PM.runT] at h ⊢;split at h<;>first | (cases h;done) | exact zAp h fun a h=>ih h
 | killEx r pre k ih=>intro e e1 h;exact zAp h fun a h=>ih h
 | forget r k ih=>intro e e1 h;exact zAp h fun a h=>ih h
 | call f args hid k ih=>intro e e1 h;cases h
section
variable {P:Program} {H:zBl} {o:zAH} {fz tk nl:Bool} {fzs tks:List Nat} {ops:Array Oper} {nt:Nat} {hh:FHint} {yo:zCO} {al:All}
theorem zHV {x:Oper} {h0:Nat} {args:List PV} {l:Log} {e:Env} {r:Env×Option Log} (h:zBR zHw ops x h0 args l e=some r):zBR o ops x h0 args l e=some r:=by
 simp only [zBR] at h ⊢
 split at h
 ·rcases zBk h with ⟨hc,h⟩ | ⟨_,h⟩
  ·rw [hc];simp only [cond_true]
   refine zAp h fun a h=>?_
   rcases zBk h with ⟨hk,h⟩ | ⟨hk,h⟩<;>rw [hk]
   ·exact zFB h
   ·exact zFB h
  ·cases h
 ·exact zAp h fun a h=>zFB h
 ·cases h
theorem zQy {x:Oper} {e:Env} {lg:Option Log} {r:Env×Option Log} (h:zCQ P H zHw fz tk nl ops x e lg=some r):zCQ P H o fz tk nl ops x e lg=some r:=by
 simp only [zCQ] at h ⊢
 split at h
 ·exact zAp h fun a h=>zFB h
 ·split at h
  ·exact zHV h
  ·exact zAp h fun a h=>zFB h
theorem zMD {x:Oper} {e:Env} {lg:Option Log} {r:Env×Option Log×Tok} (h:zEp P H zHw fz tk nl ops x e lg=some r):zEp P H o fz tk nl ops x e lg=some r:=by
 simp only [zEp] at h ⊢
 split at h
 ·exact zAp h fun a h=>zIF h
 ·split at h
  ·exact zAp h fun a h=>zHV h
  ·exact zAp h fun a h=>zIF h
theorem zHe:∀ {l:List Oper} {i:Nat} {e:Env} {lg:Option Log} {r:Env×Option Log},zBe P H zHw fzs tks nl ops l i e lg=some r→zBe P H o fzs tks nl ops l i e lg=some r
 | [],_,_,_,_,h=>h
 | x::l,i,e,lg,r,h=>by
  simp only [zBe] at h ⊢
  cases hs:zCQ P H zHw (fzs.contains i) (tks.contains i) nl ops x e lg with
  | none=>rw [hs] at h;cases h
  | some q=>rw [hs] at h;rw [zQy hs];exact zHe h
theorem zJ0:∀ {l:List Oper} {i:Nat} {acc:List Nat} {ts:List Tok} {e:Env} {lg:Option Log} {r:Env×Option Log},zCt P H zHw fzs tks nl ops l i acc ts e lg=some r→zCt P H o fzs tks nl ops l i acc ts e lg=some r
 | [],_,_,_,_,_,_,h=>h
 | x :: l,i,acc,ts,e,lg,r,h=>by
  simp only [zCt] at h ⊢
  cases hs:zEp P H zHw (fzs.contains i) (tks.contains i) nl ops x e lg with
  | none=>rw [hs] at h;cases h
  | some q =>
   rw [hs] at h;rw [zMD hs]
   simp only at h ⊢
   rcases zBk h with ⟨hc,h⟩ | ⟨_,h⟩
   ·rw [hc];exact zJ0 h
   ·cases h
theorem zOZ:∀ {m:Nat} {c:Code} {e:Env} {lg:Option Log} {r:X×Env×Option Log},exec P H zHw zV9 zGX nt hh m c e lg=some r→∀ {m':Nat},m≤m'→exec P H o yo al nt hh m' c e lg=some r
 | 0,_,_,_,_,h,_,_=>by cases h
 | m + 1,c,e,lg,r,h,m',hm=>by
  obtain ⟨m',rfl⟩:∃ k,m'=k+1:=⟨m'-1,by omega⟩
  have ih:∀ {c:Code} {e:Env} {lg:Option Log} {r:X×Env×Option Log},exec P H zHw zV9 zGX nt hh m c e lg=some r→exec P H o yo al nt hh m' c e lg=some r:=fun h=>zOZ h (by omega)
  cases c with
  | region id ops draw =>
   simp only [exec] at h ⊢
   split at h
   ·rename_i e1 lg1 h1
    have:(if draw=true then zCt P H o (hh.frzs id) (hh.take id) hh.nils ops ops.toList 0 [] [] e lg else zBe P H o (hh.frzs id) (hh.take id) hh.nils ops ops.toList 0 e lg)=some (e1,lg1):=by
     cases draw with
     | true=>exact zJ0 h1
     | false=>exact zHe h1
    rw [this];exact h
   ·cases h
  | seq a b =>
   simp only [exec] at h ⊢
   cases h1:exec P H zHw zV9 zGX nt hh m a e lg with
   | none=>rw [h1] at h;cases h
   | some q =>
    rw [h1] at h;rw [ih h1]
    obtain ⟨x,e1,lg1⟩:=q
    cases x with
    | norm=>exact ih h
    | ex id=>exact h
    | ret=>exact h
  | cond c a b =>
   cases c with
   | tmp t =>
    simp only [exec] at h ⊢
    revert h
    cases e.get t with
    | bool v=>intro h;cases v<;>exact ih h
    | _=>intro h;cases h
   | const v =>
    simp only [exec] at h ⊢
    revert h
    cases v with
    | bool v=>intro h;cases v<;>exact ih h
    | _=>intro h;cases h
   | _=>cases h
  | block id b =>
   simp only [exec] at h ⊢
   cases h1:exec P H zHw zV9 zGX nt hh m b e lg with
   | none=>rw [h1] at h;cases h
   | some q =>
    rw [h1] at h;rw [ih h1];exact h
  | loop b =>
   simp only [exec] at h ⊢
   cases h1:exec P H zHw zV9 zGX nt hh m b (e.drop (hh.loopDrop (zAX b))) lg with
   | none=>rw [h1] at h;cases h
   | some q =>
    rw [h1] at h;rw [ih h1]
    obtain ⟨x,e1,lg1⟩:=q
    cases x with
    | norm=>exact ih h
    | ex id=>exact h
    | ret=>exact h
  | scope b=>exact ih h
  | rangeFunc x ps ca cb =>
   cases x with
   | tmp t =>
    simp only [exec] at h
    cases lg with
    | none =>
     simp only at h
     obtain ⟨q,h1,_⟩:=Option.map_eq_some_iff.1 h
     simp only [zHo] at h1
     split at h1
     ·cases h1
     ·cases h1
    | some _=>cases h
   | _=>cases h
  | skip=>exact h
  | exit id=>exact h
  | ret=>exact h
  | label l=>exact h
  | _=>cases h
end
def cl:Code→Code
 | .seq a _=>a
 | .cond _ a _=>a
 | .block _ b=>b
 | .loop b=>b
 | .scope b=>b
 | c=>c
def cr:Code→Code
 | .seq _ b=>b
 | .cond _ _ b=>b
 | c=>c
def zVq:Code→Bool
 | .seq .. => true
 | _=>false
def zO7:Code→Bool
 | .loop _=>true
 | _=>false
def zRQ:Code→Bool
 | .scope _=>true
 | _=>false
def zQ6:Code→Option Nat
 | .block n _=>some n
 | _=>none
def zRc:Code→Option Nat
 | .cond (.tmp t) _ _=>some t
 | _=>none
def zUd:Code→Option Nat
 | .exit n=>some n
 | _=>none
def zXd:Code→Bool
 | .ret=>true
 | _=>false
def zUm:Code→Bool
 | .skip=>true
 | _=>false
def zUZ:Code→Bool
 | .region .. => true
 | _=>false
def rid:Code→Nat
 | .region n _ _=>n
 | _=>0
def zFr:Code→Array Oper
 | .region _ o _=>o
 | _=>#[]
def zRa:Code→Bool
 | .region _ _ d=>d
 | _=>false
def zD4 (c : Code) (i : Nat) : Oper := (zFr c)[i]?.getD { dst := none, op := .move (.const .nilIface), type := 0, pos := "", after := #[], guard := none }
theorem zT7 {c:Code} (h:zVq c=true):c = .seq (cl c) (cr c):=by cases c<;>first | rfl | cases h
theorem zMJ {c:Code} (h:zO7 c=true):c = .loop (cl c):=by cases c<;>first | rfl | cases h
theorem zQl {c:Code} (h:zRQ c=true):c = .scope (cl c):=by cases c<;>first | rfl | cases h
theorem zTT {c:Code} (h:zXd c=true):c = .ret:=by cases c<;>first | rfl | cases h
theorem zRr {c:Code} (h:zUm c=true):c = .skip:=by cases c<;>first | rfl | cases h
theorem zS2 {c:Code} (h:zUZ c=true):c = .region (rid c) (zFr c) (zRa c):=by cases c<;>first | rfl | cases h
theorem zPK {c:Code} {n:Nat} (h:zQ6 c=some n):c = .block n (cl c):=by cases c<;>first | (cases h;rfl) | cases h
theorem zRE {c:Code} {n:Nat} (h:zUd c=some n):c = .exit n:=by cases c<;>first | (cases h;rfl) | cases h
theorem zPW {c:Code} {t:Nat} (h:zRc c=some t):c = .cond (.tmp t) (cl c) (cr c):=by
 cases c<;>try (cases h;done)
 rename_i x a b
 cases x<;>first | (cases h;rfl) | cases h
section
variable [Yo] (P:Program) (H:zBl)
def zDs (f:FuncId) (args hid:List PV) (v:PV) (hZ:List PV):Prop:=∃ n0,∀ n,n0≤n→zCX P H n f args hid=some (v,hZ)
def W (f:FuncId) (nt:Nat) (c:Code) (e:Env) (lg:Option Log) (K:X→Env→Option Log→Prop):Prop :=
 ∃ n0 x e' lg',(∀ n m,n0≤n→n0≤m→exec P H (zCX P H n) Yo.yo zCd nt (H f) m c e lg=some (x,e',lg'))∧K x e' lg'
def zFo (dr:Option (List Nat×List Tok)) (i:Nat) (o:Oper) (t:Tok):Option (Option (List Nat×List Tok)) :=
 match dr with
 | none=>some none
 | some (acc,ts)=>bif o.after.toList.all (fun e => !Region.binds .any e||Nat.blt e.on i)&&zF6 (zId acc o) t 0 ts then some (some (acc++[zId acc o],ts++[t])) else none
def zVQ (orc:zAH) (fzs tks:List Nat) (nl:Bool) (ops:Array Oper) (dr:Option (List Nat×List Tok)) (l:List Oper) (i:Nat) (e:Env) (lg:Option Log):Option (Env×Option Log) :=
 match dr with
 | none=>zBe P H orc fzs tks nl ops l i e lg
 | some (acc,ts)=>zCt P H orc fzs tks nl ops l i acc ts e lg
def WR (f:FuncId) (id:Nat) (ops:Array Oper) (dr:Option (List Nat×List Tok)) (i:Nat) (e:Env) (lg:Option Log) (K:Env→Option Log→Prop):Prop :=
 ∃ n0 eN lg',(∀ n,n0≤n→∃ e',zVQ P H (zCX P H n) ((H f).frzs id) ((H f).take id) (H f).nils ops dr (ops.toList.drop i) i e lg=some (e',lg')∧(e'.drop ((H f).drop id)).norm=eN)∧K eN lg'
end
section
variable [Yo] {P:Program} {H:zBl} {f:FuncId} {nt:Nat} {e e':Env} {lg:Option Log} {K:X→Env→Option Log→Prop}
def zXQ (P:Program) (H:zBl) (f:FuncId) (nt:Nat) (b:Code) (K:X→Env→Option Log→Prop):X→Env→Option Log→Prop
 | .norm,e,lg=>W P H f nt b e lg K
 | x,e,lg=>K x e lg
theorem zY2 {a b:Code} (h:W P H f nt a e lg (zXQ P H f nt b K)):W P H f nt (.seq a b) e lg K:=by
 obtain ⟨n0,x,e1,lg1,h1,h2⟩:=h
 cases x with
 | norm =>
  obtain ⟨n2,x,e2,lg2,h3,h4⟩:=h2
  refine ⟨max n0 n2+1,x,e2,lg2,fun n m hn hm=>?_,h4⟩
  obtain ⟨m,rfl⟩:∃ k,m=k+1:=⟨m-1,by omega⟩
  simp only [exec,h1 n m (by omega) (by omega),h3 n m (by omega) (by omega)]
 | ex id =>
  refine ⟨n0+1,_,e1,lg1,fun n m hn hm=>?_,h2⟩
  obtain ⟨m,rfl⟩:∃ k,m=k+1:=⟨m-1,by omega⟩
  simp only [exec,h1 n m (by omega) (by omega)]
 | ret =>
  refine ⟨n0+1,_,e1,lg1,fun n m hn hm=>?_,h2⟩
  obtain ⟨m,rfl⟩:∃ k,m=k+1:=⟨m-1,by omega⟩
  simp only [exec,h1 n m (by omega) (by omega)]
theorem zTK (m:Nat) {c:Code} {x:X} {e1:Env} {lg1:Option Log} (h:exec P H zHw zV9 zGX nt (H f) m c e lg=some (x,e1,lg1)) (hk:K x e1 lg1):W P H f nt c e lg K :=
 ⟨m,x,e1,lg1,fun _ _ _ hm=>zOZ h hm,hk⟩
theorem zT9 {c:Code} {K':X→Env→Option Log→Prop} (h:W P H f nt c e lg K) (hk:∀ x e lg,K x e lg→K' x e lg):W P H f nt c e lg K':=by
 obtain ⟨n0,x,e1,lg1,h1,h2⟩:=h
 exact ⟨n0,x,e1,lg1,h1,hk _ _ _ h2⟩
theorem zZa (h:K .ret e lg):W P H f nt .ret e lg K:=zTK 1 rfl h
theorem zWH (h:K .norm e lg):W P H f nt .skip e lg K:=zTK 1 rfl h
theorem zWR {id:Nat} (h:K (.ex id) (zWg ((H f).ices id) e) lg):W P H f nt (.exit id) e lg K:=zTK 1 rfl h
theorem zVx {b:Code} (h:W P H f nt b e lg K):W P H f nt (.scope b) e lg K:=by
 obtain ⟨n0,x,e1,lg1,h1,h2⟩:=h
 refine ⟨n0+1,x,e1,lg1,fun n m hn hm=>?_,h2⟩
 obtain ⟨m,rfl⟩:∃ k,m=k+1:=⟨m-1,by omega⟩
 exact h1 n m (by omega) (by omega)
def Blk (id:Nat) (K:X→Env→Option Log→Prop):X→Env→Option Log→Prop
 | .ex id',e,lg=>bif Nat.beq id' id then K .norm e lg else K (.ex id') e lg
 | x,e,lg=>K x e lg
theorem zVR {id:Nat} {b:Code} (h:W P H f nt b e lg (Blk id K)):W P H f nt (.block id b) e lg K:=by
 obtain ⟨n0,x,e1,lg1,h1,h2⟩:=h
 cases x with
 | ex id' =>
  by_cases hid:id'=id
  ·subst hid
   simp only [Blk,Nat.beq_refl,cond_true] at h2
   refine ⟨n0+1,.norm,e1,lg1,fun n m hn hm=>?_,h2⟩
   obtain ⟨m,rfl⟩:∃ k,m=k+1:=⟨m-1,by omega⟩
   simp only [exec,h1 n m (by omega) (by omega),if_true]
  ·have hb:Nat.beq id' id=false:=by
    cases hc:Nat.beq id' id with
    | false=>rfl
    | true=>exact (hid (Nat.eq_of_beq_eq_true hc)).elim
   simp only [Blk,hb,cond_false] at h2
   refine ⟨n0+1,.ex id',e1,lg1,fun n m hn hm=>?_,h2⟩
   obtain ⟨m,rfl⟩:∃ k,m=k+1:=⟨m-1,by omega⟩
   simp only [exec,h1 n m (by omega) (by omega),if_neg hid]
 | norm =>
  refine ⟨n0+1,_,e1,lg1,fun n m hn hm=>?_,h2⟩
  obtain ⟨m,rfl⟩:∃ k,m=k+1:=⟨m-1,by omega⟩
  simp only [exec,h1 n m (by omega) (by omega)]
 | ret =>
  refine ⟨n0+1,_,e1,lg1,fun n m hn hm=>?_,h2⟩
  obtain ⟨m,rfl⟩:∃ k,m=k+1:=⟨m-1,by omega⟩
  simp only [exec,h1 n m (by omega) (by omega)]
theorem zXv {t:Nat} {a b:Code} {c:Bool} (ht:e.get t = .bool c) (h1:c=true→W P H f nt a e lg K) (h2:c=false→W P H f nt b e lg K):W P H f nt (.cond (.tmp t) a b) e lg K:=by
 cases c with
 | true =>
  obtain ⟨n0,x,e1,lg1,h3,h4⟩:=h1 rfl
  refine ⟨n0+1,_,_,lg1,fun n m hn hm=>?_,h4⟩
  obtain ⟨m,rfl⟩:∃ k,m=k+1:=⟨m-1,by omega⟩
  simp only [exec,ht];exact h3 n m (by omega) (by omega)
 | false =>
  obtain ⟨n0,x,e1,lg1,h3,h4⟩:=h2 rfl
  refine ⟨n0+1,_,_,lg1,fun n m hn hm=>?_,h4⟩
  obtain ⟨m,rfl⟩:∃ k,m=k+1:=⟨m-1,by omega⟩
  simp only [exec,ht];exact h3 n m (by omega) (by omega)
theorem zXg {σ:Type} (Inv:σ→Prop) (I:σ→Env) (μ:σ→Nat) {b:Code} (h:∀ s,Inv s→W P H f nt b (I s) lg fun x e lg'=>match x with
   | .norm=>∃ s',Inv s'∧μ s'<μ s∧e.drop ((H f).loopDrop (zAX b))=I s'∧lg'=lg
   | x=>K x e lg'):∀ (n:Nat) (s:σ) (e:Env),μ s≤n→Inv s→e.drop ((H f).loopDrop (zAX b))=I s→W P H f nt (.loop b) e lg K:=by
 intro n
 induction n with
 | zero =>
  intro s e hs hi he
  obtain ⟨n0,x,e1,lg1,h1,h2⟩:=h s hi
  cases x with
  | norm=>obtain ⟨s',_,h3,_⟩:=h2;omega
  | ex id =>
   refine ⟨n0+1,_,e1,lg1,fun n m hn hm=>?_,h2⟩
   obtain ⟨m,rfl⟩:∃ k,m=k+1:=⟨m-1,by omega⟩
   simp only [exec,he,h1 n m (by omega) (by omega)]
  | ret =>
   refine ⟨n0+1,_,e1,lg1,fun n m hn hm=>?_,h2⟩
   obtain ⟨m,rfl⟩:∃ k,m=k+1:=⟨m-1,by omega⟩
   simp only [exec,he,h1 n m (by omega) (by omega)]
 | succ n ih =>
  intro s e hs hi he
  obtain ⟨n0,x,e1,lg1,h1,h2⟩:=h s hi
  cases x with
  | norm =>
   obtain ⟨s',h3,h4,h7,rfl⟩:=h2
   obtain ⟨n2,x,e2,lg2,h5,h6⟩:=ih s' e1 (by omega) h3 h7
   refine ⟨max n0 n2+1,x,e2,lg2,fun n m hn hm=>?_,h6⟩
   obtain ⟨m,rfl⟩:∃ k,m=k+1:=⟨m-1,by omega⟩
   simp only [exec,he,h1 n m (by omega) (by omega),h5 n m (by omega) (by omega)]
  | ex id =>
   refine ⟨n0+1,_,e1,lg1,fun n m hn hm=>?_,h2⟩
   obtain ⟨m,rfl⟩:∃ k,m=k+1:=⟨m-1,by omega⟩
   simp only [exec,he,h1 n m (by omega) (by omega)]
  | ret =>
   refine ⟨n0+1,_,e1,lg1,fun n m hn hm=>?_,h2⟩
   obtain ⟨m,rfl⟩:∃ k,m=k+1:=⟨m-1,by omega⟩
   simp only [exec,he,h1 n m (by omega) (by omega)]
theorem zAg {c:Code} (h:W P H f nt (cl c) e lg (zXQ P H f nt (cr c) K)) (hc:zVq c=true:=by kernel_rfl):W P H f nt c e lg K:=by rw [zT7 hc];exact zY2 h
theorem zAm {c:Code} (h:K .ret e lg) (hc:zXd c=true:=by kernel_rfl):W P H f nt c e lg K:=by rw [zTT hc];exact zZa h
theorem zAj {c:Code} (h:K .norm e lg) (hc:zUm c=true:=by kernel_rfl):W P H f nt c e lg K:=by rw [zRr hc];exact zWH h
theorem zAs {c:Code} (n:Nat) (h:K (.ex n) (zWg ((H f).ices n) e) lg) (hc:zUd c=some n:=by kernel_rfl):W P H f nt c e lg K:=by rw [zRE hc];exact zWR h
theorem zVa {c:Code} (h:W P H f nt (cl c) e lg K) (hc:zRQ c=true:=by kernel_rfl):W P H f nt c e lg K:=by rw [zQl hc];exact zVx h
theorem zAh {c:Code} (n:Nat) (h:W P H f nt (cl c) e lg (Blk n K)) (hc:zQ6 c=some n:=by kernel_rfl):W P H f nt c e lg K:=by rw [zPK hc];exact zVR h
def zEF (c:Code) (e:Env):Option Bool :=
 match zRc c with
 | some t=>match e.get t with
  | .bool b=>some b
  | _=>none
 | none=>none
theorem zDf (b:Bool) {c:Code} (h1:b=true→W P H f nt (cl c) e lg K) (h2:b=false→W P H f nt (cr c) e lg K) (hc:zEF c e=some b:=by kernel_rfl):W P H f nt c e lg K:=by
 simp only [zEF] at hc
 split at hc
 ·rename_i t ht
  rw [zPW ht]
  split at hc
  ·rename_i b' hb
   simp only [Option.some.injEq] at hc;subst hc
   exact zXv hb h1 h2
  ·cases hc
 ·cases hc
theorem zBM {c:Code} (h:W P H f nt (cl c) e lg K) (hc:zEF c e=some true:=by kernel_rfl):W P H f nt c e lg K:=zDf true (fun _=>h) (fun h=>by cases h) hc
theorem zAW {c:Code} (h:W P H f nt (cr c) e lg K) (hc:zEF c e=some false:=by kernel_rfl):W P H f nt c e lg K:=zDf false (fun h=>by cases h) (fun _=>h) hc
theorem zW9 {σ:Type} {c:Code} (Inv:σ→Prop) (I:σ→Env) (μ:σ→Nat) (s:σ) (hi:Inv s) (h:∀ s,Inv s→W P H f nt (cl c) (I s) lg fun x e lg'=>match x with
   | .norm=>∃ s',Inv s'∧μ s'<μ s∧e.drop ((H f).loopDrop (zAX (cl c)))=I s'∧lg'=lg
   | x=>K x e lg') (hs:e.drop ((H f).loopDrop (zAX (cl c)))=I s:=by kernel_rfl) (hc:zO7 c=true:=by kernel_rfl):W P H f nt c e lg K:=by
 rw [zMJ hc];exact zXg Inv I μ h (μ s) s e (Nat.le_refl _) hi hs
def zL3 (o:Option Env):Env :=
 match o with
 | some e=>e
 | none=>[]
structure RS where
 dr:Option (List Nat×List Tok)
 e:Env
 lg:Option Log
def noY (lg:Option Log) (e:Env) (o:Oper):Bool :=
 match lg with
 | none=>true
 | some _=>(zCf e o).isNone
def WS (P:Program) (H:zBl) (f:FuncId) (c:Code) (i:Nat) (s:RS) (R:Env→Option Log→Prop):Prop:=WR P H f (rid c) (zFr c) s.dr i s.e s.lg R
def zVT (P:Program) (H:zBl) (f:FuncId) (c:Code) (i:Nat) (s:RS):Option RS :=
 match zEp P H zHw (((H f).frzs (rid c)).contains i) (((H f).take (rid c)).contains i) (H f).nils (zFr c) (zD4 c i) s.e s.lg with
 | some (e',lg',t)=>(zFo s.dr i (zD4 c i) t).map fun dr=>⟨dr,e',lg'⟩
 | none=>none
def zHY (P:Program) (H:zBl) (f:FuncId) (c:Code):Nat→Nat→RS→Option RS
 | 0,_,s=>some s
 | m+1,i,s=>match zVT P H f c i s with
  | some s'=>zHY P H f c m (i+1) s'
  | none=>none
variable {i:Nat} {c:Code} {s s':RS} {R:Env→Option Log→Prop}
abbrev zW2 (P:Program) (H:zBl) (f:FuncId) (c:Code) (i:Nat):PM:=opM P H (((H f).frzs (rid c)).contains i) (((H f).take (rid c)).contains i) (H f).nils (zD4 c i)
def zWi (o:Option RS):RS :=
 match o with
 | some s=>s
 | none=>⟨none,[],none⟩
theorem zLT {o:Option RS} (h:o.isSome=true):o=some (zWi o):=by cases o<;>first | rfl | cases h
theorem zAe (h:WS P H f c 0 ⟨bif zRa c then some ([],[]) else none,e,lg⟩ (K .norm)) (hc:zUZ c=true:=by kernel_rfl):W P H f nt c e lg K:=by
 obtain ⟨n0,e1,lg1,h1,h2⟩:=h
 rw [zS2 hc]
 refine ⟨n0+1,_,_,lg1,fun n m hn hm=>?_,h2⟩
 obtain ⟨m,rfl⟩:∃ k,m=k+1:=⟨m-1,by omega⟩
 obtain ⟨e2,this,h3⟩:=h1 n (by omega)
 cases hd:zRa c with
 | true=>simp only [hd,cond_true,zVQ,List.drop_zero] at this;simp only [exec,this,if_true,h3]
 | false=>simp only [hd,cond_false,zVQ,List.drop_zero] at this;simp only [exec,this,← h3];rfl
theorem zXs (e1:Env) (h:R e1 s.lg) (he:(s.e.drop ((H f).drop (rid c))).norm=e1:=by kernel_rfl) (hi:Nat.ble (zFr c).size i=true:=by kernel_rfl):WS P H f c i s R:=by
 have hi:=Nat.le_of_ble_eq_true hi
 refine ⟨0,e1,s.lg,fun n _=>⟨s.e,?_,he⟩,h⟩
 rw [List.drop_eq_nil_of_le (by simpa using hi)]
 cases s.dr<;>rfl
theorem zAa (h:R ((s.e.drop ((H f).drop (rid c))).norm) s.lg) (hi:Nat.ble (zFr c).size i=true:=by kernel_rfl):WS P H f c i s R:=zXs _ h rfl hi
theorem zU4 (h:Nat.blt i (zFr c).size=true):(zFr c)[i]? = some (zD4 c i):=by
 have:i<(zFr c).size:=by simpa using h
 simp [zD4,this]
theorem zQU (h:Nat.blt i (zFr c).size=true):(zFr c).toList.drop i=zD4 c i::(zFr c).toList.drop (i+1):=by
 have h1:(zFr c).toList[i]? = some (zD4 c i):=by rw [Array.getElem?_toList];exact zU4 h
 obtain ⟨h2,h3⟩:=List.getElem?_eq_some_iff.1 h1
 rw [← h3];exact (List.drop_eq_getElem_cons h2)
theorem zKb {orc:zAH} {fz tk nl:Bool} {ops:Array Oper} {o:Oper} {lg':Option Log} {t:Tok} (h:zEp P H orc fz tk nl ops o e lg=some (e',lg',t)):zCQ P H orc fz tk nl ops o e lg=some (e',lg'):=by
 simp only [zEp] at h
 simp only [zCQ]
 split at h
 ·obtain ⟨a,h1,h2⟩:=Option.map_eq_some_iff.1 h
  cases h2
  rw [zEg h1];rfl
 ·split at h
  ·obtain ⟨a,h1,h2⟩:=Option.map_eq_some_iff.1 h
   cases h2
   rw [h1]
  ·obtain ⟨a,h1,h2⟩:=Option.map_eq_some_iff.1 h
   cases h2
   rw [zEg h1];rfl
theorem zK8 {t:Tok} {dr':Option (List Nat×List Tok)} {lg':Option Log} (hi:Nat.blt i (zFr c).size=true) (hT:∃ n0,∀ n,n0≤n→zEp P H (zCX P H n) (((H f).frzs (rid c)).contains i) (((H f).take (rid c)).contains i) (H f).nils (zFr c) (zD4 c i) s.e s.lg=some (e',lg',t))
  (hd:zFo s.dr i (zD4 c i) t=some dr') (h:WS P H f c (i+1) ⟨dr',e',lg'⟩ R):WS P H f c i s R:=by
 obtain ⟨n0,hT⟩:=hT
 obtain ⟨n2,e2,lg2,h1,h2⟩:=h
 obtain ⟨dr,e,lg⟩:=s
 refine ⟨max n0 n2,e2,lg2,fun n hn=>?_,h2⟩
 have hs:=hT n (by omega)
 obtain ⟨e3,h1,h3⟩:=h1 n (by omega)
 refine ⟨e3,?_,h3⟩
 rw [zQU hi]
 cases dr with
 | none =>
  simp only [zFo,Option.some.injEq] at hd;subst hd
  simp only [zVQ] at h1 ⊢
  simp only [zBe,zKb hs];exact h1
 | some d =>
  obtain ⟨acc,ts⟩:=d
  simp only [zFo] at hd
  rcases zBk hd with ⟨hc,hd⟩ | ⟨_,hd⟩
  ·simp only [Option.some.injEq] at hd;subst hd
   simp only [zVQ] at h1 ⊢
   simp only [zCt,hs,hc,cond_true];exact h1
  ·cases hd
theorem zRt {orc:zAH} {fz tk nl:Bool} {ops:Array Oper} {o:Oper} {t:Tok} (hy:noY lg e o=true) (h:(zFT P H ops fz tk nl o).runT orc e=some (e',t)):zEp P H orc fz tk nl ops o e lg=some (e',lg,t):=by
 cases lg with
 | none=>simp only [zEp,h];rfl
 | some l =>
  simp only [noY,Option.isNone_iff_eq_none] at hy
  simp only [zEp,hy,h];rfl
theorem zXp {t:Tok} {dr':Option (List Nat×List Tok)} (hi:Nat.blt i (zFr c).size=true) (hT:∃ n0,∀ n,n0≤n→(zFT P H (zFr c) (((H f).frzs (rid c)).contains i) (((H f).take (rid c)).contains i) (H f).nils (zD4 c i)).runT (zCX P H n) s.e=some (e',t))
  (hd:zFo s.dr i (zD4 c i) t=some dr') (h:WS P H f c (i+1) ⟨dr',e',s.lg⟩ R) (hy:noY s.lg s.e (zD4 c i)=true):WS P H f c i s R:=by
 obtain ⟨n0,hT⟩:=hT
 exact zK8 hi ⟨n0,fun n hn=>zRt hy (hT n hn)⟩ hd h
theorem zST (hi:Nat.blt i (zFr c).size=true) (hs:zVT P H f c i s=some s') (h:WS P H f c (i+1) s' R):WS P H f c i s R:=by
 simp only [zVT] at hs
 split at hs
 ·rename_i e1 lg1 t ht
  obtain ⟨dr,hd,rfl⟩:=Option.map_eq_some_iff.1 hs
  exact zK8 hi ⟨0,fun n _=>zMD ht⟩ hd h
 ·cases hs
theorem zNa:∀ (m:Nat) {i:Nat} {s s':RS},Nat.ble (i+m) (zFr c).size=true→zHY P H f c m i s=some s'→WS P H f c (i+m) s' R→WS P H f c i s R
 | 0,i,s,s',_,hs,h=>by simp only [zHY,Option.some.injEq] at hs;subst hs;exact h
 | m + 1,i,s,s',hi,hs,h=>by
  have gA:=Nat.le_of_ble_eq_true hi
  simp only [zHY] at hs
  split at hs
  ·rename_i s1 h1
   refine zST (by simp;omega) h1 (zNa m ?_ hs ?_)
   ·rw [show i+1+m=i+(m+1) by omega];exact hi
   ·rw [show i+1+m=i+(m+1) by omega];exact h
  ·cases hs
theorem zAc (m:Nat) (h:WS P H f c (i+m) (zWi (zHY P H f c m i s)) R) (hs:(zHY P H f c m i s).isSome=true:=by kernel_rfl) (hi:Nat.ble (i+m) (zFr c).size=true:=by kernel_rfl):WS P H f c i s R :=
 zNa m hi (zLT hs) h
def zLe (c:Code) (i:Nat) (e:Env):Bool :=
 match (zD4 c i).guard with
 | none=>true
 | some (j,want)=>match ((zFr c)[j]?).bind (·.dst) with
  | some t=>match e.get t with
   | .bool b=>b==want
   | _=>false
  | none=>false
theorem zXb {e':Env} (hm:∃ n0,∀ n,n0≤n→(zW2 P H f c i).run (zCX P H n) s.e=some e') (h:WS P H f c (i+1) ⟨none,e',s.lg⟩ R) (jl:s.dr=none:=by kernel_rfl) (hy:noY s.lg s.e (zD4 c i)=true:=by kernel_rfl) (hg:zLe c i s.e=true:=by kernel_rfl) (hi:Nat.blt i (zFr c).size=true:=by kernel_rfl):WS P H f c i s R:=by
 obtain ⟨n0,hm⟩:=hm
 obtain ⟨n2,e2,lg2,h1,h2⟩:=h
 obtain ⟨dr,e,lg⟩:=s
 simp only at jl hg hm hy;subst jl
 refine ⟨max n0 n2,e2,lg2,fun n hn=>?_,h2⟩
 obtain ⟨e3,h1,h3⟩:=h1 n (by omega)
 refine ⟨e3,?_,h3⟩
 have hr:(zFT P H (zFr c) (((H f).frzs (rid c)).contains i) (((H f).take (rid c)).contains i) (H f).nils (zD4 c i)).run (zCX P H n) e=some e':=by
  have hm:=hm n (by omega)
  revert hg
  simp only [zLe]
  cases qc:(zD4 c i).guard with
  | none=>intro _;simp only [zFT,qc];exact hm
  | some w =>
   obtain ⟨j,want⟩:=w
   intro hg
   simp only at hg
   cases hj:((zFr c)[j]?).bind (·.dst) with
   | none=>rw [hj] at hg;cases hg
   | some u =>
    rw [hj] at hg;simp only at hg
    cases hv:e.get u<;>rw [hv] at hg<;>try (cases hg;done)
    have hb:=eq_of_beq hg
    simp only [zFT,qc,hj,PM.run,hv,hb,if_true]
    exact hm
 rw [zQU hi]
 simp only [zVQ] at h1 ⊢
 have hs:zCQ P H (zCX P H n) (((H f).frzs (rid c)).contains i) (((H f).take (rid c)).contains i) (H f).nils (zFr c) (zD4 c i) e lg=some (e',lg):=by
  cases lg with
  | none=>simp only [zCQ,hr,Option.map_some]
  | some l =>
   simp only [noY,Option.isNone_iff_eq_none] at hy
   simp only [zCQ,hy,hr,Option.map_some]
 simp only [zBe,hs];exact h1
end
end Go.Eng
namespace Go.Eng
open Go
section
variable {P:Program} {H:zBl} {f:FuncId} {e e':Env} {i:Nat} {c:Code} {fz tk nl:Bool} {orc:zAH}
def zXz (e:Env):Operand→PV
 | .tmp t=>view t (e.get t)
 | .const v=>zEB v
 | .func f => .func f [] []
 | .global _ => .bad
theorem zP6 {α β:Type} {f:β→α→β} {b:β} {l:List α} {i:Nat} (h:i<l.length):(l.take (i+1)).foldl f b=f ((l.take i).foldl f b) l[i]:=by
 rw [List.take_add_one,List.getElem?_eq_getElem h]
 simp only [Option.toList,List.foldl_append,List.foldl]
def two (o:Oper) (r:PV):PM :=
 match o.op with
 | .binOp _ _ x y _=>opd x fun _=>opd y fun _=>put o.dst r
 | .indexAddr _ x y=>opd x fun _=>opd y fun _=>put o.dst r
 | .index _ x y=>opd x fun _=>opd y fun _=>put o.dst r
 | _ => .fail
theorem zWA {a:Int} (h : -9223372036854775808≤a∧a<9223372036854775808):IntKind.i64.wrap a=a:=by
 rw [IntKind.wrap_i64];omega
end
end Go.Eng
namespace Go.Eng
open Go
section
variable [Yo] {P:Program} {H:zBl} {f:FuncId} {e e':Env} {i:Nat} {c:Code} {s:RS} {R:Env→Option Log→Prop} {fz tk nl:Bool} {orc:zAH}
def zZI (e:Env) (p q:PV) (l:List (Nat×zA0)):Prop:=∀ (orc:zAH) (k:PV→List (Nat×zA0)→PM),(zPN p k).run orc e=(k q l).run orc e
inductive SeenAll (e:Env):List Nat→List PV→List Arg→Prop where
 | nil {ms}:SeenAll e ms [] []
 | ref {ms ps as p}:Nat.beq (ms.headD 0) 1=true→SeenAll e ms.tail ps as→SeenAll e ms (p::ps) ({p:=p,byref:=true}::as)
 | one {ms ps as p q l}:Nat.beq (ms.headD 0) 1=false→zZI e p q l→SeenAll e ms.tail ps as→SeenAll e ms (p::ps) ({p:=q,shared:=l}::as)
theorem zKA {o o':zAH} (ho:∀ g a h r,o g a h=some r→o' g a h=some r):∀ {p:PM} {e e1:Env},p.run o e=some e1→p.run o' e=some e1:=by
 intro p
 induction p with
 | ok=>intro e e1 h;exact h
 | fail=>intro e e1 h;cases h
 | view s k ih=>intro e e1 h;exact ih _ h
 | get s k ih=>intro e e1 h;simp only [PM.run] at h ⊢;split at h<;>first | (cases h;done) | exact ih _ h
 | set s q k ih=>intro e e1 h;exact ih h
 | cells r pre i c n k ih=>intro e e1 h;simp only [PM.run] at h ⊢;split at h<;>first | (cases h;done) | exact ih _ _ h
 | deep r pre k ih=>intro e e1 h;simp only [PM.run] at h ⊢;split at h<;>first | (cases h;done) | exact ih _ h
 | wcells r pre i c qs k ih=>intro e e1 h;simp only [PM.run] at h ⊢;split at h<;>first | (cases h;done) | exact ih h
 | wnode r pre q k ih =>
  intro e e1 h
  simp only [PM.run] at h ⊢
  rcases zBk h with ⟨_,h⟩ | ⟨hl,h⟩
  ·cases h
  ·rw [hl];simp only [cond_false]
   split at h
   ·exact ih h
   ·cases h
 | kill r pre k ih=>intro e e1 h;exact ih h
 | frz r pre k ih=>intro e e1 h;simp only [PM.run] at h ⊢;split at h<;>first | (cases h;done) | exact ih h
 | killEx r pre k ih=>intro e e1 h;exact ih h
 | forget r k ih=>intro e e1 h;exact ih h
 | call f args hid k ih =>
  intro e e1 h
  simp only [PM.run] at h ⊢
  split at h
  ·rename_i v hZ hq
   rw [ho _ _ _ _ hq];exact ih _ _ h
  ·cases h
end
end Go.Eng
namespace Go.Eng
open Go
section
variable [Yo] {P:Program} {H:zBl} {f:FuncId} {e e':Env} {i:Nat} {c:Code} {s:RS} {R:Env→Option Log→Prop} {fz tk nl:Bool} {orc:zAH}
def zRP (c:Code) (i:Nat) (s:RS) (e':Env) (t:Tok):Option RS :=
 bif noY s.lg s.e (zD4 c i) then match (match (zD4 c i).guard with
  | none=>some t
  | some (j,want)=>match ((zFr c)[j]?).bind (·.dst) with
   | some u=>match s.e.get u with
    | .bool b=>bif b==want then some (Tok.join {rd:=[u]} t) else none
    | _=>none
   | none=>none) with
 | some t=>(zFo s.dr i (zD4 c i) t).map fun dr=>⟨dr,e',s.lg⟩
 | none=>none else none
theorem zYC {m:Option (Env×Tok)} (hm:∃ n0,∀ n,n0≤n→(zW2 P H f c i).runT (zCX P H n) s.e=m) (h:WS P H f c (i+1) (zWi (m.bind fun r=>zRP c i s r.1 r.2)) R) (hs:(m.bind fun r=>zRP c i s r.1 r.2).isSome=true:=by kernel_rfl) (hi:Nat.blt i (zFr c).size=true:=by kernel_rfl):WS P H f c i s R:=by
 cases m with
 | none=>cases hs
 | some r =>
 obtain ⟨e',t⟩:=r
 have yy:=zLT hs
 revert h
 generalize zWi ((some (e',t)).bind fun r=>zRP c i s r.1 r.2)=s' at yy
 intro h
 obtain ⟨n0,hm⟩:=hm
 simp only [Option.bind_some,zRP] at yy
 rcases zBk yy with ⟨hy,yy⟩ | ⟨_,yy⟩
 case inr=>cases yy
 split at yy
 ·rename_i t' ht
  obtain ⟨dr,hd,rfl⟩:=Option.map_eq_some_iff.1 yy
  refine zXp hi ⟨n0,fun n hn=>?_⟩ hd h hy
  revert ht
  cases hg:(zD4 c i).guard with
  | none=>intro ht;simp only [Option.some.injEq] at ht;subst ht;simp only [zFT,hg];exact hm n hn
  | some w =>
   obtain ⟨j,want⟩:=w
   intro ht
   simp only at ht
   cases hj:((zFr c)[j]?).bind (·.dst) with
   | none=>rw [hj] at ht;cases ht
   | some u =>
    rw [hj] at ht;simp only at ht
    cases hv:s.e.get u<;>rw [hv] at ht<;>try (cases ht;done)
    rcases zBk ht with ⟨hb,ht⟩ | ⟨_,ht⟩
    ·have hb:=eq_of_beq hb
     simp only [Option.some.injEq] at ht;subst ht
     simp only [zFT,hg,hj,PM.runT,hv,hb,if_true]
     rw [hm n hn];rfl
    ·cases ht
 ·cases yy
theorem zN8 {x:Operand} {p:PV} {k:PV→PM} (hx:zXz e x=p) (hp:p ≠ .bad):(opd x k).run orc e=(k p).run orc e:=by
 subst hx
 cases x with
 | tmp t=>rfl
 | const v=>rfl
 | func g=>rfl
 | global g=>exact (hp rfl).elim
theorem zNT {v:PV} (hh:v.heavy=false):v.cells.all (fun q => !q.heavy)=true:=by
 cases v<;>simp only [PV.cells,List.all_cons,List.all_nil,Bool.and_true,hh,Bool.not_false]
 rename_i cs
 simp only [PV.heavy] at hh
 refine List.all_eq_true.2 fun q hq=>?_
 obtain ⟨i,hi⟩:=List.getElem?_of_mem hq
 rw [zEv hh hi];rfl
theorem zLY:∀ {ps:List PV},ps.all (fun q=>q.ways.isEmpty)=true→zBt ps=[]
 | [],_=>rfl
 | p::ps,h=>by
  simp only [List.all_cons,Bool.and_eq_true,List.isEmpty_iff] at h
  simp only [zBt,h.1,List.nil_append,zLY h.2]
end
end Go.Eng
namespace Go.Eng
open Go
section
variable [Yo] {P:Program} {H:zBl} {f:FuncId} {e e':Env} {i:Nat} {c:Code} {s:RS} {R:Env→Option Log→Prop} {fz tk nl:Bool} {orc:zAH}
theorem zHJ {x:Option Env} (h:x.isSome=true):x=some (zL3 x):=by cases x<;>first | rfl | cases h
theorem zTr {α:Type} {xs ys:List α} {y:α} {j:Nat} (h:j+(ys.length+1)≤xs.length):(xs.set j y).take (j+1)++ys++(xs.set j y).drop (j+1+ys.length)=xs.take j++(y::ys)++xs.drop (j+(ys.length+1)):=by
 obtain ⟨A, x, B, rfl, rfl⟩ : ∃ A x B, xs = A ++ x :: B ∧ A.length = j := ⟨xs.take j, xs[j]'(by omega), xs.drop (j + 1), by rw [← List.drop_eq_getElem_cons (by omega), List.take_append_drop], by simp; omega⟩
 have h1:(A++x::B).set A.length y=A++y::B:=by simp
 have h2:(A++y::B).take (A.length+1)=A++[y]:=by rw [List.take_append,List.take_of_length_le (by omega)];simp
 have h3:(A++y::B).drop (A.length+1+ys.length)=B.drop ys.length:=by
  rw [List.drop_append,List.drop_eq_nil_of_le (by omega)]
  simp [show A.length+1+ys.length-A.length=ys.length+1 by omega]
 have h4:(A++x::B).drop (A.length+(ys.length+1))=B.drop ys.length:=by
  rw [List.drop_append,List.drop_eq_nil_of_le (by omega)]
  simp
 have h5:(A++x::B).take A.length=A:=by simp
 rw [h1,h2,h3,h4,h5];simp
end
end Go.Eng
namespace Go.Eng
open Go
def Srt (e:Env):Prop:=e.Pairwise (fun a b=>a.1<b.1)∧∀ x∈e,x.2 ≠ .bad
theorem zMH:∀ {e:Env} {k:Nat},(∀ x∈e,k<x.1)→e.get k = .bad
 | [],_,_=>rfl
 | (k',v)::e,k,h=>by
  have h1:k<k':=h (k',v) (by simp)
  have:Nat.beq k' k=false:=by
   cases hb:Nat.beq k' k with
   | false=>rfl
   | true=>have:=Nat.eq_of_beq_eq_true hb;omega
  simp only [Env.get,this,cond_false]
  exact zMH fun x hx=>h x (by simp [hx])
theorem Srt.eq:∀ {e e':Env},Srt e→Srt e'→(∀ s,e.get s=e'.get s)→e=e'
 | [],[],_,_,_=>rfl
 | [],(k,v)::e',_,h2,h=>by
  have:=h k
  simp only [Env.get,Nat.beq_refl,cond_true] at this
  exact (h2.2 (k,v) (by simp) this.symm).elim
 | (k,v)::e,[],h1,_,h=>by
  have:=h k
  simp only [Env.get,Nat.beq_refl,cond_true] at this
  exact (h1.2 (k,v) (by simp) this).elim
 | (k, v)::e,(k',v')::e',h1,h2,h=>by
  obtain ⟨p1,q1⟩:=h1
  obtain ⟨p2,q2⟩:=h2
  obtain ⟨a1,b1⟩:=List.pairwise_cons.1 p1
  obtain ⟨a2,b2⟩:=List.pairwise_cons.1 p2
  have hk:k=k':=by
   rcases Nat.lt_trichotomy k k' with yJ | ud | yJ
   ·have:=h k
    rw [zMH (e:=(k',v')::e') (k:=k) (fun x hx=>by
     rcases List.mem_cons.1 hx with rfl | hx
     ·exact yJ
     ·exact Nat.lt_trans yJ (a2 x hx))] at this
    simp only [Env.get,Nat.beq_refl,cond_true] at this
    exact (q1 (k,v) (by simp) this).elim
   ·exact ud
   ·have:=h k'
    rw [zMH (e:=(k,v)::e) (k:=k') (fun x hx=>by
     rcases List.mem_cons.1 hx with rfl | hx
     ·exact yJ
     ·exact Nat.lt_trans yJ (a1 x hx))] at this
    simp only [Env.get,Nat.beq_refl,cond_true] at this
    exact (q2 (k',v') (by simp) this.symm).elim
  subst hk
  have hv:=h k
  simp only [Env.get,Nat.beq_refl,cond_true] at hv
  subst hv
  congr 1
  refine Srt.eq ⟨b1,fun x hx=>q1 x (by simp [hx])⟩ ⟨b2,fun x hx=>q2 x (by simp [hx])⟩ fun s=>?_
  have hs:=h s
  simp only [Env.get] at hs
  cases hb:Nat.beq k s with
  | false=>rw [hb] at hs;exact hs
  | true =>
   have:=Nat.eq_of_beq_eq_true hb;subst this
   rw [zMH a1,zMH a2]
theorem zLo:∀ {e:Env} {k:Nat} {v:PV} {x:Nat×PV},x∈e.set k v→x=(k,v)∨x∈e
 | [],k,v,x,h=>by simp only [Env.set,List.mem_singleton] at h;exact .inl h
 | (k',v')::e,k,v,x,h=>by
  simp only [Env.set] at h
  cases hb:Nat.beq k' k with
  | true=>rw [hb] at h;simp only [cond_true,List.mem_cons] at h;rcases h with h | h<;>simp [h]
  | false =>
   rw [hb] at h;simp only [cond_false] at h
   cases hl:Nat.ble k k' with
   | true=>rw [hl] at h;simp only [cond_true,List.mem_cons] at h;rcases h with h | h | h<;>simp [h]
   | false =>
    rw [hl] at h;simp only [cond_false,List.mem_cons] at h
    rcases h with h | h
    ·simp [h]
    ·rcases zLo h with h | h<;>simp [h]
theorem Srt.set:∀ {e:Env} {k:Nat} {v:PV},Srt e→v ≠ .bad→Srt (e.set k v)
 | [],k,v,_,hv=>⟨by simp [Env.set],by simp [Env.set,hv]⟩
 | (k',v')::e,k,v,h,hv=>by
  obtain ⟨p,q⟩:=h
  obtain ⟨a,b⟩:=List.pairwise_cons.1 p
  refine ⟨?_,fun x hx=>by
   rcases zLo hx with rfl | hx
   ·exact hv
   ·exact q x hx⟩
  simp only [Env.set]
  cases hb:Nat.beq k' k with
  | true =>
   have:=Nat.eq_of_beq_eq_true hb;subst this
   exact List.pairwise_cons.2 ⟨a,b⟩
  | false =>
   have hI:k'≠k:=by intro h;subst h;rw [Nat.beq_refl] at hb;cases hb
   cases hl:Nat.ble k k' with
   | true =>
    have:=Nat.le_of_ble_eq_true hl
    exact List.pairwise_cons.2 ⟨fun x hx=>by
     rcases List.mem_cons.1 hx with rfl | hx
     ·show k<k';omega
     ·have:k'<x.1:=a x hx
      show k<x.1;omega,p⟩
   | false =>
    have yJ:k'<k:=by
     have:¬ k≤k':=fun hh=>by rw [← Nat.ble_eq] at hh;rw [hh] at hl;cases hl
     omega
    refine List.pairwise_cons.2 ⟨fun x hx=>?_,(Srt.set ⟨b,fun x hx=>q x (by simp [hx])⟩ hv).1⟩
    rcases zLo hx with rfl | hx
    ·exact yJ
    ·exact a x hx
theorem Srt.norm:∀ (e:Env),Srt e.norm
 | []=>⟨by simp [Env.norm],by simp [Env.norm]⟩
 | (k,v)::e=>by
  have ih:=Srt.norm e
  simp only [Env.norm,Env.put]
  split
  ·exact ⟨ih.1.filter _,fun x hx=>ih.2 x (List.mem_filter.1 hx).1⟩
  ·rename_i hv;exact ih.set (fun h=>hv h)
theorem zVl {e e':Env} (h:∀ s,e.get s=e'.get s):e.norm=e'.norm:=(Srt.norm e).eq (Srt.norm e') fun s=>by rw [zIG,zIG];exact h s
section
variable [Yo] {P:Program} {H:zBl} {f:FuncId} {i:Nat} {c:Code} {R:Env→Option Log→Prop}
theorem zFE {o:zAH} {fzs tks:List Nat} {nl:Bool} {ops:Array Oper}:∀ {l:List Oper} {i:Nat} {e g:Env} {r:Env×Option Log},g.get=e.get→zBe P H o fzs tks nl ops l i e none=some r→∃ g1,zBe P H o fzs tks nl ops l i g none=some (g1,r.2)∧g1.get=r.1.get
 | [],_,e,g,r,he,h=>by simp only [zBe,Option.some.injEq] at h;subst h;exact ⟨g,rfl,he⟩
 | x :: l,i,e,g,r,he,h=>by
  simp only [zBe,zCQ] at h ⊢
  cases hs:(zFT P H ops (fzs.contains i) (tks.contains i) nl x).run o e with
  | none=>rw [hs] at h;cases h
  | some e1 =>
   rw [hs] at h
   obtain ⟨g1,h1,h2⟩:=zFx he hs
   rw [h1]
   exact zFE h2 h
theorem zUE {e e':Env} (h:WS P H f c i ⟨none,e',none⟩ R) (he:∀ s,e.get s=e'.get s):WS P H f c i ⟨none,e,none⟩ R:=by
 obtain ⟨n0,eN,lg',h1,h2⟩:=h
 refine ⟨n0,eN,lg',fun n hn=>?_,h2⟩
 obtain ⟨e1,h3,h4⟩:=h1 n hn
 simp only [zVQ] at h3
 obtain ⟨g1,h5,h6⟩:=zFE (funext he) h3
 refine ⟨g1,h5,?_⟩
 rw [← h4]
 refine zVl fun s=>?_
 rw [Env.get_drop,Env.get_drop,h6]
def zUr (P:Program) (e:Env) (o:Oper):Option (Nat×PV×PV) :=
 match o.op with
 | .call c=>match c.callee,c.args.toList,c.argTypes.toList with
  | .builtin .copy,[x,y],t::_=>match (zBS P t).bind (szT P) with
   | some s=>some (s,zXz e x,zXz e y)
   | none=>none
  | _,_,_=>none
 | _=>none
def zXw (s:Nat) (x y:PV):Prop:=y.plain=true∧y.cells.length=s∧y.heavy=false∧y.cells.all (fun q=>q.ways.isEmpty)=true∧y.cells.length≤x.cells.length∧zAC x 0 y.cells=y
end
end Go.Eng
namespace Go.Eng
open Go
def Le (o o':zAH):Prop:=∀ g a h r,o g a h=some r→o' g a h=some r
theorem zRG {o0 o:zAH} (ho:Le o0 o):∀ {p:PM} {e:Env} {r:Env×Tok},p.runT o0 e=some r→p.runT o e=some r:=by
 intro p
 induction p with
 | ok=>intro e e1 h;exact h
 | fail=>intro e e1 h;cases h
 | view s k ih=>intro e e1 h;exact zAp h fun a h=>ih _ h
 | get s k ih=>intro e e1 h;simp only [PM.runT] at h ⊢;split at h<;>first | (cases h;done) | exact zAp h fun a h=>ih _ h
 | set s q k ih=>intro e e1 h;exact zAp h fun a h=>ih h
 | cells r pre i c n k ih=>intro e e1 h;simp only [PM.runT] at h ⊢;split at h<;>first | (cases h;done) | exact zAp h fun a h=>ih _ _ h
 | deep r pre k ih=>intro e e1 h;simp only [PM.runT] at h ⊢;split at h<;>first | (cases h;done) | exact zAp h fun a h=>ih _ h
 | wcells r pre i c qs k ih=>intro e e1 h;simp only [PM.runT] at h ⊢;split at h<;>first | (cases h;done) | exact zAp h fun a h=>ih h
 | wnode r pre q k ih =>
  intro e e1 h
  simp only [PM.runT] at h ⊢
  rcases zBk h with ⟨_,h⟩ | ⟨hl,h⟩
  ·cases h
  ·rw [hl];simp only [cond_false]
   split at h
   ·exact zAp h fun a h=>ih h
   ·cases h
 | kill r pre k ih=>intro e e1 h;exact zAp h fun a h=>ih h
 | frz r pre k ih=>intro e e1 h;simp only [PM.runT] at h ⊢;split at h<;>first | (cases h;done) | exact zAp h fun a h=>ih h
 | killEx r pre k ih=>intro e e1 h;exact zAp h fun a h=>ih h
 | forget r k ih=>intro e e1 h;exact zAp h fun a h=>ih h
 | call f args hid k ih =>
  intro e e1 h
  simp only [PM.runT] at h ⊢
  split at h
  ·rename_i v hZ hq
   rw [ho _ _ _ _ hq];exact ih _ _ h
  ·cases h
section
variable [Yo] {P:Program} {H:zBl} {o0 o:zAH} (ho:Le o0 o) {fz tk nl:Bool} {fzs tks:List Nat} {ops:Array Oper} {nt:Nat} {hh:FHint} {yo0 yo:zCO} {al:All}
include ho in
theorem zJh {x:Oper} {h0:Nat} {args:List PV} {l:Log} {e:Env} {r:Env×Option Log} (h:zBR o0 ops x h0 args l e=some r):zBR o ops x h0 args l e=some r:=by
 simp only [zBR] at h ⊢
 split at h
 ·rcases zBk h with ⟨hc,h⟩ | ⟨_,h⟩
  ·rw [hc];simp only [cond_true]
   refine zAp h fun a h=>?_
   rcases zBk h with ⟨hk,h⟩ | ⟨hk,h⟩<;>rw [hk]
   ·exact zKA ho h
   ·exact zKA ho h
  ·cases h
 ·exact zAp h fun a h=>zKA ho h
 ·cases h
include ho in
theorem zTk {x:Oper} {e:Env} {lg:Option Log} {r:Env×Option Log} (h:zCQ P H o0 fz tk nl ops x e lg=some r):zCQ P H o fz tk nl ops x e lg=some r:=by
 simp only [zCQ] at h ⊢
 split at h
 ·exact zAp h fun a h=>zKA ho h
 ·split at h
  ·exact zJh ho h
  ·exact zAp h fun a h=>zKA ho h
include ho in
theorem zTh {x:Oper} {e:Env} {lg:Option Log} {r:Env×Option Log×Tok} (h:zEp P H o0 fz tk nl ops x e lg=some r):zEp P H o fz tk nl ops x e lg=some r:=by
 simp only [zEp] at h ⊢
 split at h
 ·exact zAp h fun a h=>zRG ho h
 ·split at h
  ·exact zAp h fun a h=>zJh ho h
  ·exact zAp h fun a h=>zRG ho h
include ho in
theorem zIb:∀ {l:List Oper} {i:Nat} {e:Env} {lg:Option Log} {r:Env×Option Log},zBe P H o0 fzs tks nl ops l i e lg=some r→zBe P H o fzs tks nl ops l i e lg=some r
 | [],_,_,_,_,h=>h
 | x::l,i,e,lg,r,h=>by
  simp only [zBe] at h ⊢
  cases hs:zCQ P H o0 (fzs.contains i) (tks.contains i) nl ops x e lg with
  | none=>rw [hs] at h;cases h
  | some q=>rw [hs] at h;rw [zTk ho hs];exact zIb h
include ho in
theorem zKG:∀ {l:List Oper} {i:Nat} {acc:List Nat} {ts:List Tok} {e:Env} {lg:Option Log} {r:Env×Option Log},zCt P H o0 fzs tks nl ops l i acc ts e lg=some r→zCt P H o fzs tks nl ops l i acc ts e lg=some r
 | [],_,_,_,_,_,_,h=>h
 | x :: l,i,acc,ts,e,lg,r,h=>by
  simp only [zCt] at h ⊢
  cases hs:zEp P H o0 (fzs.contains i) (tks.contains i) nl ops x e lg with
  | none=>rw [hs] at h;cases h
  | some q =>
   rw [hs] at h;rw [zTh ho hs]
   simp only at h ⊢
   rcases zBk h with ⟨hc,h⟩ | ⟨_,h⟩
   ·rw [hc];exact zKG h
   ·cases h
include ho in
theorem zR1:∀ {m:Nat} {c:Code} {e:Env} {lg:Option Log} {r:X×Env×Option Log},exec P H o0 yo0 zGX nt hh m c e lg=some r→∀ {m':Nat},m≤m'→exec P H o yo al nt hh m' c e lg=some r
 | 0,_,_,_,_,h,_,_=>by cases h
 | m + 1,c,e,lg,r,h,m',hm=>by
  obtain ⟨m',rfl⟩:∃ k,m'=k+1:=⟨m'-1,by omega⟩
  have ih:∀ {c:Code} {e:Env} {lg:Option Log} {r:X×Env×Option Log},exec P H o0 yo0 zGX nt hh m c e lg=some r→exec P H o yo al nt hh m' c e lg=some r:=fun h=>zR1 h (by omega)
  cases c with
  | region id ops draw =>
   simp only [exec] at h ⊢
   split at h
   ·rename_i e1 lg1 h1
    have:(if draw=true then zCt P H o (hh.frzs id) (hh.take id) hh.nils ops ops.toList 0 [] [] e lg else zBe P H o (hh.frzs id) (hh.take id) hh.nils ops ops.toList 0 e lg)=some (e1,lg1):=by
     cases draw with
     | true=>exact zKG ho h1
     | false=>exact zIb ho h1
    rw [this];exact h
   ·cases h
  | seq a b =>
   simp only [exec] at h ⊢
   cases h1:exec P H o0 yo0 zGX nt hh m a e lg with
   | none=>rw [h1] at h;cases h
   | some q =>
    rw [h1] at h;rw [ih h1]
    obtain ⟨x,e1,lg1⟩:=q
    cases x with
    | norm=>exact ih h
    | ex id=>exact h
    | ret=>exact h
  | cond c a b =>
   cases c with
   | tmp t =>
    simp only [exec] at h ⊢
    revert h
    cases e.get t with
    | bool v=>intro h;cases v<;>exact ih h
    | _=>intro h;cases h
   | const v =>
    simp only [exec] at h ⊢
    revert h
    cases v with
    | bool v=>intro h;cases v<;>exact ih h
    | _=>intro h;cases h
   | _=>cases h
  | block id b =>
   simp only [exec] at h ⊢
   cases h1:exec P H o0 yo0 zGX nt hh m b e lg with
   | none=>rw [h1] at h;cases h
   | some q =>
    rw [h1] at h;rw [ih h1];exact h
  | loop b =>
   simp only [exec] at h ⊢
   cases h1:exec P H o0 yo0 zGX nt hh m b (e.drop (hh.loopDrop (zAX b))) lg with
   | none=>rw [h1] at h;cases h
   | some q =>
    rw [h1] at h;rw [ih h1]
    obtain ⟨x,e1,lg1⟩:=q
    cases x with
    | norm=>exact ih h
    | ex id=>exact h
    | ret=>exact h
  | scope b=>exact ih h
  | rangeFunc x ps ca cb =>
   cases x with
   | tmp t =>
    simp only [exec] at h
    cases lg with
    | none =>
     simp only at h
     obtain ⟨q,h1,_⟩:=Option.map_eq_some_iff.1 h
     simp only [zHo] at h1
     split at h1
     ·cases h1
     ·cases h1
    | some _=>cases h
   | _=>cases h
  | skip=>exact h
  | exit id=>exact h
  | ret=>exact h
  | label l=>exact h
  | _=>cases h
end
section
variable [Yo] {P:Program} {H:zBl}
theorem zT6 {o0 o:zAH} (ho:Le o0 o) {yo0 yo:zCO} {al:All} {n n':Nat} (hn:n≤n') {f:FuncId} {args hid:List PV} {r:PV×List PV} (h:zIO P H o0 yo0 zGX n f args hid=some r):zIO P H o yo al n' f args hid=some r:=by
 simp only [zIO] at h ⊢
 cases hf:P.funcs[f]? with
 | none=>rw [hf] at h;cases h
 | some fn =>
  rw [hf] at h
  simp only at h ⊢
  by_cases hi:(H f).intr≠0
  ·rw [if_pos hi] at h ⊢;exact h
  ·rw [if_neg hi] at h ⊢
   cases hb:fn.body with
   | none=>rw [hb] at h;cases h
   | some body =>
    rw [hb] at h
    simp only [zJf] at h ⊢
    rcases zBk h with ⟨hc,h⟩ | ⟨_,h⟩
    ·rw [hc];simp only [cond_true]
     cases hx:exec P H o0 yo0 zGX fn.ntmps (H f) n body (zBc args hid) none with
     | none=>rw [hx] at h;cases h
     | some q =>
      rw [hx] at h;rw [zR1 ho hx hn]
      obtain ⟨x,e1,lg⟩:=q
      cases x<;>cases lg<;>simp only at h ⊢ <;> try (cases h;done)
      all_goals
       cases hr:(zCK P (H f).frz 0 fn.results.toList).run o0 e1 with
       | none=>rw [hr] at h;cases h
       | some e2=>rw [hr] at h;rw [zKA ho hr];exact h
    ·cases h
abbrev zWC (P:Program) (H:zBl) (n:Nat):zAH:=(zQv P H zGX n).1
theorem zO4:∀ (n n':Nat),n≤n'→Le (zWC P H n) (zCX P H n')
 | 0,_,_=>fun g a h r hh=>by cases hh
 | n+1,n',hn=>by
  obtain ⟨k,rfl⟩:∃ k,n'=k+1:=⟨n'-1,by omega⟩
  intro g a h r hh
  exact zT6 (zO4 n k (by omega)) (by omega) hh
theorem zDs.closed {f:FuncId} {args hid hZ:List PV} {v:PV} (n:Nat) (h:zWC P H n f args hid=some (v,hZ):=by kernel_rfl):zDs P H f args hid v hZ:=⟨n,fun n' hn=>zO4 n n' hn _ _ _ _ h⟩
end
end Go.Eng
namespace Go.Eng
open Go
section
variable {P:Program} {H:zBl}
theorem zRz (zEX:P.follows .mixedOrders=true) (hnm:zEI P) (zMo:Fit P H) (hin:zEL P H) {f:FuncId} {args:List PV} (hg:@zDs (yo1 P H) P H f args [] (.bool true) []) {w:World} {Φ:Nat→Prop} {vs:Array Value} (hΦ:∀ b,Φ b→b<w.heap.size) (hr:zA6 w Φ zCc args vs.toList []) (u3:args.length≤zAn) :
  Calls P f vs w fun e w'=>e = .returned (.bool true)∧w.heap.size≤w'.heap.size∧(∀ b,b<w.heap.size→w'.heap[b]? = w.heap[b]?)∧w'.os=w.os∧w'.tape=w.tape∧w'.output=w.output:=by
 have wU:zAb=1000000000:=rfl
 have hhh:zAn=50000000:=rfl
 obtain ⟨n0,hg⟩:=hg
 obtain ⟨_,hm⟩:=@zFi P H (yo1 P H) zEX hnm zMo hin (zPL zEX hnm zMo hin) n0 f args [] (.bool true) [] (hg n0 (Nat.le_refl _))
 obtain ⟨hX,jp⟩:=zKT hr
 have hvz:vs.size=args.length:=by rw [← hX];simp
 have p2:Conf w (fun b=>∃ s,b∈((fun _=>[]):Nat→List Nat) s) Φ w Φ (fun s=>(vs[s]?).getD undef) (fun s=>(zBc args []).get s) (fun _=>[]):=by
  refine ⟨fun s=>?_,fun _=>List.nodup_nil,fun _ _ _ _ h=>(by cases h),fun _ _ h=>(by cases h),fun b hb=>⟨hΦ b hb,.inl hb⟩,fun _ h=>h,Nat.le_refl _,fun _ _ _=>rfl,rfl,rfl,rfl⟩
  show Rep _ _ _ ((zBc args []).get s) _ _
  rw [zDr (by omega)]
  by_cases h1:s<args.length
  ·rw [if_pos h1]
   obtain ⟨v,uv,ko⟩:=jp s args[s] (List.getElem?_eq_getElem h1)
   have:vs[s]? = some v:=by rw [← Array.getElem?_toList];exact uv
   rw [this]
   simp only [List.getD,List.getElem?_eq_getElem h1,Option.getD_some]
   exact ko.mono (fun b hb=>⟨hb,rfl⟩) (fun _ _ _ h=>h.elim) (by simp)
  ·rw [if_neg h1,if_neg (by simp only [List.length_nil];omega)]
   rfl
 have hc:=hm w Φ (fun s=>(vs[s]?).getD undef) (fun s=>(zBc args []).get s) (fun _=>[]) vs (fun _ _=>rfl) (fun s hs=>by
   rw [zDr (by omega),if_neg (by omega),if_neg (by simp only [List.length_nil];omega)]) p2 hvz (fun j hj=>by rw [Array.getElem?_eq_getElem (by omega)];rfl) (fun s hs _=>by rw [Array.getElem?_eq_none (by omega)];rfl)
 refine hc.mono fun e w' ⟨u,Φ',rv',E',L',he,C,_,_,vB⟩=>?_
 obtain ⟨h1,h2⟩:=vB.one (fun ps h=>by cases h)
 have hO:=C.rep zAB
 rw [h1] at hO
 have hu:u = .bool true:=by rw [← h2];exact hO.1
 refine ⟨by rw [he,hu],C.size,fun b hb=>C.kept b hb (fun ⟨s,hs⟩=>by cases hs),C.os,C.tape,C.output⟩
end
end Go.Eng
namespace Go.Eng
open Go
section
variable [Yo] {P:Program} {H:zBl} {f:FuncId} {nt:Nat} {e e':Env} {lg:Option Log} {K:X→Env→Option Log→Prop} {i:Nat} {c:Code} {s:RS} {R:Env→Option Log→Prop} {fz tk nl:Bool} {orc:zAH}
theorem zBZ (p:Prop) [Decidable p] (h1:p→W P H f nt (cl c) e lg K) (h2:¬p→W P H f nt (cr c) e lg K) (hc:zEF c e=some (decide p):=by kernel_rfl):W P H f nt c e lg K :=
 zDf (decide p) (fun h=>h1 (of_decide_eq_true h)) (fun h=>h2 (of_decide_eq_false h)) hc
theorem zAJ (p:Prop) [Decidable p] (hp:p) (h1:W P H f nt (cl c) e lg K) (hc:zEF c e=some (decide p):=by kernel_rfl):W P H f nt c e lg K :=
 zDf (decide p) (fun _=>h1) (fun h=>absurd hp (of_decide_eq_false h)) hc
theorem zAK (p:Prop) [Decidable p] (hp:¬p) (h2:W P H f nt (cr c) e lg K) (hc:zEF c e=some (decide p):=by kernel_rfl):W P H f nt c e lg K :=
 zDf (decide p) (fun h=>absurd (of_decide_eq_true h) hp) (fun _=>h2) hc
theorem zDk (p:Prop) [Decidable p] (h1:¬p→W P H f nt (cl c) e lg K) (h2:p→W P H f nt (cr c) e lg K) (hc:zEF c e=some (!decide p):=by kernel_rfl):W P H f nt c e lg K :=
 zDf (!decide p) (fun h=>h1 (by simpa using h)) (fun h=>h2 (by simpa using h)) hc
theorem zCH (p:Prop) [Decidable p] (hp:¬p) (h1:W P H f nt (cl c) e lg K) (hc:zEF c e=some (!decide p):=by kernel_rfl):W P H f nt c e lg K :=
 zDk p (fun _=>h1) (fun h=>absurd h hp) hc
theorem zFF (p:Prop) [Decidable p] (hp:p) (h1:W P H f nt (cr c) e lg K) (hc:zEF c e=some (!decide p):=by kernel_rfl):W P H f nt c e lg K :=
 zDk p (fun h=>absurd hp h) (fun _=>h1) hc
theorem zDt (t:Nat) (b:Bool) (h1:b=true→WS P H f c i ⟨s.dr,s.e.set t (.bool true),s.lg⟩ R) (h2:b=false→WS P H f c i ⟨s.dr,s.e.set t (.bool false),s.lg⟩ R) (hb:s.e.set t (.bool b)=s.e:=by kernel_rfl):WS P H f c i s R:=by
 obtain ⟨dr,e,lg⟩:=s
 simp only at h1 h2 hb
 rw [← hb]
 cases b with
 | true=>exact h1 rfl
 | false=>exact h2 rfl
theorem zDa (t:Nat) (p:Prop) [Decidable p] (h1:p→WS P H f c i ⟨s.dr,s.e.set t (.bool true),s.lg⟩ R) (h2:¬p→WS P H f c i ⟨s.dr,s.e.set t (.bool false),s.lg⟩ R) (hb:s.e.set t (.bool (decide p))=s.e:=by kernel_rfl):WS P H f c i s R :=
 zDt t (decide p) (fun h=>h1 (of_decide_eq_true h)) (fun h=>h2 (of_decide_eq_false h)) hb
theorem zFP (t:Nat) (p:Prop) [Decidable p] (hp:p) (h1:WS P H f c i ⟨s.dr,s.e.set t (.bool true),s.lg⟩ R) (hb:s.e.set t (.bool (decide p))=s.e:=by kernel_rfl):WS P H f c i s R :=
 zDa t p (fun _=>h1) (fun h=>absurd hp h) hb
theorem zUi (t:Nat) (p:Prop) [Decidable p] (hp:¬p) (h1:WS P H f c i ⟨s.dr,s.e.set t (.bool false),s.lg⟩ R) (hb:s.e.set t (.bool (decide p))=s.e:=by kernel_rfl):WS P H f c i s R :=
 zDa t p (fun h=>absurd h hp) (fun _=>h1) hb
theorem zUj (t:Nat) (p:Prop) [Decidable p] (h1:¬p→WS P H f c i ⟨s.dr,s.e.set t (.bool true),s.lg⟩ R) (h2:p→WS P H f c i ⟨s.dr,s.e.set t (.bool false),s.lg⟩ R) (hb:s.e.set t (.bool (!decide p))=s.e:=by kernel_rfl):WS P H f c i s R :=
 zDt t (!decide p) (fun h=>h1 (by simpa using h)) (fun h=>h2 (by simpa using h)) hb
theorem zU0 (t:Nat) (p:Prop) [Decidable p] (hp:p) (h1:WS P H f c i ⟨s.dr,s.e.set t (.bool false),s.lg⟩ R) (hb:s.e.set t (.bool (!decide p))=s.e:=by kernel_rfl):WS P H f c i s R :=
 zUj t p (fun h=>absurd hp h) (fun _=>h1) hb
theorem get_map {α β:Type} {g:α→β} {l:List α} {i:Nat} {d:α} (h:i<l.length):(l.map g)[i]? = some (g (l.getD i d)):=by
 simp [List.getD,List.getElem?_eq_getElem h]
def zY9 (e:Env) (p q:PV) (l:List (Nat×zA0)) (t:Tok):Prop:=∀ (orc:zAH) (k:PV→List (Nat×zA0)→PM),(zPN p k).runT orc e=((k q l).runT orc e).map fun y=>(y.1,Tok.join t y.2)
inductive SeenAllT (e:Env):List Nat→List PV→List Arg→List Tok→Prop where
 | nil {ms}:SeenAllT e ms [] [] []
 | ref {ms ps as ts p}:SeenAllT e ms.tail ps as ts→(hb:Nat.beq (ms.headD 0) 1=true:=by kernel_rfl)→SeenAllT e ms (p::ps) ({p:=p,byref:=true}::as) ts
 | one {ms ps as ts p q l t}:zY9 e p q l t→SeenAllT e ms.tail ps as ts→(hb:Nat.beq (ms.headD 0) 1=false:=by kernel_rfl)→SeenAllT e ms (p::ps) ({p:=q,shared:=l}::as) (t::ts)
def zNg:List (Nat×PV)→Env→Env
 | [],e=>e
 | (k,v)::l,e=>zNg l (e.set k v)
theorem zAo {σ:Type} {c:Code} (Inv:σ→Prop) (upd:σ→List (Nat×PV)) (μ:σ→Nat) (s:σ) (hi:Inv s) (h:∀ s,Inv s→W P H f nt (cl c) (zNg (upd s) (e.drop ((H f).loopDrop (zAX (cl c))))) lg fun x e' lg'=>match x with
   | .norm=>∃ s',Inv s'∧μ s'<μ s∧e'.drop ((H f).loopDrop (zAX (cl c)))=zNg (upd s') (e.drop ((H f).loopDrop (zAX (cl c))))∧lg'=lg
   | x=>K x e' lg') (hs:e.drop ((H f).loopDrop (zAX (cl c)))=zNg (upd s) (e.drop ((H f).loopDrop (zAX (cl c)))):=by kernel_rfl) (hc:zO7 c=true:=by kernel_rfl):W P H f nt c e lg K :=
 zW9 Inv (fun s=>zNg (upd s) (e.drop ((H f).loopDrop (zAX (cl c))))) μ s hi h hs hc
end
end Go.Eng
namespace Go.Eng
open Go
theorem zJn {x:Nat→Option (List (List PV))} {r:List (List PV)} (h:∀ i,x i=some r):zCd x=some r:=by
 have h':∃ r,∀ i,x i=some r:=⟨r,h⟩
 simp only [zCd,dif_pos h']
 have:=(Classical.choose_spec h') 0
 rw [h 0] at this
 exact this.symm
section
def zTI [Yo] (g:FuncId) (first caps:List PV) (k:Int) (xs:List (List PV)):Prop:=∀ i,Yo.yo g first i caps k=some xs
def zF5 [Yo] (g:FuncId) (first caps:List PV) (xs:List (List PV)):Prop:=zTI g first caps (-1) xs∧∀ j:Nat,1≤j→j≤xs.length→zTI g first caps j (xs.take j)
variable [Yo] (P:Program) (H:zBl)
def zLF (f:FuncId) (nt:Nat) (ps:List Tmp) (assign body:Code) (x:List PV) (e:Env) (K:X→Env→Prop):Prop :=
 ∃ e1,zCu ps x e=some e1∧W P H f nt assign e1 none fun y e2 lg=>y = .norm∧lg=none∧W P H f nt body e2 none fun y e3 lg=>lg=none∧K y e3
def Rg (f:FuncId) (nt:Nat) (ps:List Tmp) (assign body:Code) (R ds:List Nat) (K:X→Env→Option Log→Prop):List (List PV)→Env→Prop
 | [],e=>K .norm e none
 | x :: xs,e=>zLF P H f nt ps assign body x e fun y e3=>match y with
  | .norm=>match R with
   | []=>Rg f nt ps assign body R ds K xs (after nt [] ds e e3)
   | r::R'=>zGg e (zCR e (r::R'))=true∧∃ e1,zEr (zCR e (r::R')) e=some e1∧zLF P H f nt ps assign body x e1 fun y e3=>y = .norm∧Rg f nt ps assign body R ds K xs (after nt (zCR e (r::R')) ds e e3)
  | y=>K y (after nt [] ds e e3) none
end
section
variable [Yo] {P:Program} {H:zBl} {f:FuncId} {nt:Nat} {e e':Env} {lg:Option Log} {K:X→Env→Option Log→Prop}
noncomputable abbrev zNr (P:Program) (H:zBl) (f:FuncId) (nt n m:Nat):Code→Env→Option (X×Env):=fun c e=>match exec P H (zCX P H n) Yo.yo zCd nt (H f) m c e none with | some (x,e',none)=>some (x,e') | _=>none
def zOE (run:Code→Env→Option (X×Env)) (ps:List Tmp) (assign body:Code) (x:List PV) (e:Env):Option (X×Env):=match zCu ps x e with
 | some e1=>match run assign e1 with
  | some (.norm,e2)=>run body e2
  | _=>none
 | none=>none
theorem zBJ {run:Code→Env→Option (X×Env)} {ps:List Tmp} {assign body:Code} {R ds:List Nat} {x:List PV} {xs:List (List PV)} {j:Nat}:zC5 nt run ps assign body R ds (x::xs) e j=(match zOE run ps assign body x e with
  | some (.norm,e3)=>match R with
   | []=>zC5 nt run ps assign body R ds xs (after nt [] ds e e3) (j+1)
   | r :: R=>match (bif zGg e (zCR e (r::R)) then zEr (zCR e (r::R)) e else none) with
    | some e1=>match zOE run ps assign body x e1 with
     | some (.norm,e3)=>zC5 nt run ps assign body (r::R) ds xs (after nt (zCR e (r::R)) ds e e3) (j+1)
     | _=>none
    | none=>none
  | some (r,e3)=>some (some (j+1,r),after nt [] ds e e3)
  | none=>none):=by
 cases R<;>rfl
theorem zLF.run {ps:List Tmp} {assign body:Code} {x:List PV} {K:X→Env→Prop} (h:zLF P H f nt ps assign body x e K):∃ n0 y e3,(∀ n m,n0≤n→n0≤m→zOE (zNr P H f nt n m) ps assign body x e=some (y,e3))∧K y e3:=by
 obtain ⟨e1,h1,n1,y,e2,lg,h2,rfl,rfl,n2,z,e3,lg,h3,rfl,h4⟩:=h
 refine ⟨max n1 n2,z,e3,fun n m hn hm=>?_,h4⟩
 simp only [zOE,h1,zNr,h2 n m (by omega) (by omega),h3 n m (by omega) (by omega)]
theorem Rg.run {ps:List Tmp} {assign body:Code} {R ds:List Nat}:∀ {xs:List (List PV)} {e:Env},Rg P H f nt ps assign body R ds K xs e→∃ n0,
  (∃ e',(∀ n m j,n0≤n→n0≤m→zC5 nt (zNr P H f nt n m) ps assign body R ds xs e j=some (none,e'))∧K .norm e' none) ∨
  (∃ i y e',i<xs.length∧y ≠ .norm∧(∀ n m j,n0≤n→n0≤m→zC5 nt (zNr P H f nt n m) ps assign body R ds xs e j=some (some (j+i+1,y),e')) ∧
   (∀ n m j,n0≤n→n0≤m→zC5 nt (zNr P H f nt n m) ps assign body R ds (xs.take (i+1)) e j=some (some (j+i+1,y),e'))∧K y e' none)
 | [],e,h=>⟨0,.inl ⟨e,fun _ _ _ _ _=>rfl,h⟩⟩
 | x :: xs,e,h=>by
  obtain ⟨n1,y,e3,h1,h2⟩:=zLF.run h
  cases y with
  | norm =>
   cases R with
   | nil =>
    simp only at h2
    obtain ⟨n2,h3⟩:=Rg.run h2
    refine ⟨max n1 n2,?_⟩
    rcases h3 with ⟨e',h3,h4⟩ | ⟨i,y,e',hi,hy,h3,h4,h5⟩
    ·exact .inl ⟨e',fun n m j hn hm=>by rw [zBJ,h1 n m (by omega) (by omega)];exact h3 n m _ (by omega) (by omega),h4⟩
    ·refine .inr ⟨i+1,y,e',by simp;omega,hy,fun n m j hn hm=>?_,fun n m j hn hm=>?_,h5⟩
     ·rw [zBJ,h1 n m (by omega) (by omega)];simp only;rw [h3 n m _ (by omega) (by omega)];simp only [Option.some.injEq,Prod.mk.injEq,and_true];omega
     ·rw [List.take_succ_cons,zBJ,h1 n m (by omega) (by omega)];simp only;rw [h4 n m _ (by omega) (by omega)];simp only [Option.some.injEq,Prod.mk.injEq,and_true];omega
   | cons r R' =>
    simp only at h2
    obtain ⟨hc,e1,hf,hr⟩:=h2
    obtain ⟨n3,z,e4,h6,rfl,h7⟩:=zLF.run hr
    obtain ⟨n2,h3⟩:=Rg.run h7
    refine ⟨max n1 (max n2 n3),?_⟩
    rcases h3 with ⟨e',h3,h4⟩ | ⟨i,y,e',hi,hy,h3,h4,h5⟩
    ·exact .inl ⟨e',fun n m j hn hm=>by rw [zBJ,h1 n m (by omega) (by omega)];simp only [hc,cond_true,hf,h6 n m (by omega) (by omega)];exact h3 n m _ (by omega) (by omega),h4⟩
    ·refine .inr ⟨i+1,y,e',by simp;omega,hy,fun n m j hn hm=>?_,fun n m j hn hm=>?_,h5⟩
     ·rw [zBJ,h1 n m (by omega) (by omega)];simp only [hc,cond_true,hf,h6 n m (by omega) (by omega)];rw [h3 n m _ (by omega) (by omega)];simp only [Option.some.injEq,Prod.mk.injEq,and_true];omega
     ·rw [List.take_succ_cons,zBJ,h1 n m (by omega) (by omega)];simp only [hc,cond_true,hf,h6 n m (by omega) (by omega)];rw [h4 n m _ (by omega) (by omega)];simp only [Option.some.injEq,Prod.mk.injEq,and_true];omega
  | ex id =>
   refine ⟨n1,.inr ⟨0,.ex id,_,by simp,by simp,fun n m j hn hm=>?_,fun n m j hn hm=>?_,h2⟩⟩
   ·rw [zBJ,h1 n m (by omega) (by omega)]
   ·rw [List.take_succ_cons,zBJ,h1 n m (by omega) (by omega)]
  | ret =>
   refine ⟨n1,.inr ⟨0,.ret,_,by simp,by simp,fun n m j hn hm=>?_,fun n m j hn hm=>?_,h2⟩⟩
   ·rw [zBJ,h1 n m (by omega) (by omega)]
   ·rw [List.take_succ_cons,zBJ,h1 n m (by omega) (by omega)]
def rgT:Code→Option Nat
 | .rangeFunc (.tmp t) _ _ _=>some t
 | _=>none
def zWX:Code→List Tmp
 | .rangeFunc _ ps _ _=>ps.toList
 | _=>[]
def rgA:Code→Code
 | .rangeFunc _ _ a _=>a
 | c=>c
def rgB:Code→Code
 | .rangeFunc _ _ _ b=>b
 | c=>c
def zWh (c:Code):List Nat:=zWX c++zBQ (rgA c)++zBQ (rgB c)
theorem zVm {t:Tmp} {ps:Array Tmp} {assign body:Code} {g:FuncId} {first caps:List PV} {R:List Nat} {xs:List (List PV)} (yN:zDP e t=some (g,first,caps,R)) (hY:zF5 g first caps xs)
  (h:Rg P H f nt ps.toList assign body R (ps.toList++zBQ assign++zBQ body) K xs e):W P H f nt (.rangeFunc (.tmp t) ps assign body) e none K:=by
 obtain ⟨hY1,hY2⟩:=hY
 obtain ⟨n2,hr⟩:=Rg.run h
 rcases hr with ⟨e',h3,h4⟩ | ⟨i,y,e',hi,hy,h3,h4,h5⟩
 ·refine ⟨n2+1,.norm,e',none,fun n m hn hm=>?_,h4⟩
  obtain ⟨m,rfl⟩:∃ k,m=k+1:=⟨m-1,by omega⟩
  show (zHo nt Yo.yo zCd (zNr P H f nt n m) t ps.toList assign body e).map (fun x=>(x.1,x.2,none))=_
  simp only [zHo,yN,zJn (fun i=>hY1 i),h3 n m 0 (by omega) (by omega),Option.map_some]
 ·have hY2:=hY2 (i+1) (by omega) (by omega)
  refine ⟨n2+1,y,e',none,fun n m hn hm=>?_,h5⟩
  obtain ⟨m,rfl⟩:∃ k,m=k+1:=⟨m-1,by omega⟩
  show (zHo nt Yo.yo zCd (zNr P H f nt n m) t ps.toList assign body e).map (fun x=>(x.1,x.2,none))=_
  simp only [zHo,yN,zJn (fun i=>hY1 i),h3 n m 0 (by omega) (by omega)]
  have hcast:((0+i+1:Nat):Int)=((i+1:Nat):Int):=by omega
  rw [hcast,zJn (fun i=>hY2 i)]
  simp only [h4 n m 0 (by omega) (by omega),List.length_take]
  rw [if_pos ⟨trivial,by omega⟩]
  rfl
theorem zQx {c:Code} {t g:Nat} {first caps:List PV} {R:List Nat} {xs:List (List PV)} (hY:zF5 g first caps xs) (h:Rg P H f nt (zWX c) (rgA c) (rgB c) R (zWh c) K xs e) (yN:zDP e t=some (g,first,caps,R):=by kernel_rfl) (hc:rgT c=some t:=by kernel_rfl) (hl:lg=none:=by kernel_rfl):W P H f nt c e lg K:=by
 subst hl
 cases c<;>try (cases hc;done)
 rename_i x ps a b
 cases x<;>try (cases hc;done)
 rename_i u
 simp only [rgT,Option.some.injEq] at hc;subst hc
 exact zVm yN hY h
theorem zVP {σ:Type} {c:Code} {t g:Nat} {first caps:List PV} {xs:List (List PV)} (hY:zF5 g first caps xs) (Inv:Nat→σ→Prop) (I:σ→Env) (s:σ) (hi:Inv 0 s)
  (h:∀ j x s,xs[j]? = some x→Inv j s→zLF P H f nt (zWX c) (rgA c) (rgB c) x (I s) fun y e3=>match y with
   | .norm=>∃ s',Inv (j+1) s'∧after nt [] (zWh c) (I s) e3=I s'
   | y=>K y (after nt [] (zWh c) (I s) e3) none) (hK:∀ s,Inv xs.length s→K .norm (I s) none) (hs:e=I s:=by kernel_rfl) (yN:zDP e t=some (g,first,caps,[]):=by kernel_rfl) (hc:rgT c=some t:=by kernel_rfl) (hl:lg=none:=by kernel_rfl):W P H f nt c e lg K:=by
 refine zQx hY ?_ yN hc hl
 clear yN hY
 subst hs
 have key:∀ (ys:List (List PV)) (j:Nat) (s:σ),xs.drop j=ys→j≤xs.length→Inv j s→Rg P H f nt (zWX c) (rgA c) (rgB c) [] (zWh c) K ys (I s):=by
  intro ys
  induction ys with
  | nil =>
   intro j s hd hj hi
   have:j=xs.length:=by
    have:=congrArg List.length hd;simp at this;omega
   subst this
   exact hK s hi
  | cons x ys ih =>
   intro j s hd hj hi
   have hx:xs[j]? = some x:=by
    have:=congrArg (fun l=>l[0]?) hd
    simpa using this
   have yJ:=(List.getElem?_eq_some_iff.1 hx).1
   obtain ⟨e1,h1,h2⟩:=h j x s hx hi
   refine ⟨e1,h1,zT9 h2 fun y e2 lg ⟨a1,a2,a3⟩=>⟨a1,a2,zT9 a3 fun y e3 lg ⟨b1,b2⟩=>⟨b1,?_⟩⟩⟩
   cases y with
   | norm =>
    obtain ⟨s',yy,he⟩:=b2
    simp only
    rw [he]
    refine ih (j+1) s' ?_ (by omega) yy
    rw [← List.drop_drop,hd];rfl
   | ex id=>exact b2
   | ret=>exact b2
 exact key xs 0 s rfl (by omega) hi
theorem zO6 {ps:List Tmp} {a b:Code} {x:List PV} {K:X→Env→Prop} (h:W P H f nt a ((zCu ps x e).getD []) none fun y e2 lg=>y = .norm∧lg=none∧W P H f nt b e2 none fun y e3 lg=>lg=none∧K y e3) (hp:(zCu ps x e).isSome=true:=by kernel_rfl):zLF P H f nt ps a b x e K:=by
 obtain ⟨e1,h1⟩:=Option.isSome_iff_exists.1 hp
 rw [h1] at h
 exact ⟨e1,h1,h⟩
omit [Yo] in
theorem zTZ (fn:Func) {g:FuncId} {first caps:List PV} {k:Int} {xs:List (List PV)} (h:∀ i,@W yo0 P H g fn.ntmps (fn.body.getD .ret) (zBc (first++PV.yld i::caps) []) (some ⟨[],k,i⟩) fun x _ lg=>(x = .norm∨x = .ret)∧lg.map (·.xs)=some xs) (hk:k≠0)
  (hf:P.funcs[g]? = some fn:=by kernel_rfl) (hb:fn.body.isSome=true:=by kernel_rfl) (hc:∀ i,(Nat.ble (first++PV.yld i::caps).length fn.ntmps&&fn.results.isEmpty&&(first++caps).all (fun p => !p.isTup))=true:=by intro i;kernel_rfl) (hin:Nat.beq (H g).intr 0=true:=by kernel_rfl):@zTI (yo1 P H) g first caps k xs:=by
 intro i
 obtain ⟨body,hb⟩:∃ body,fn.body=some body:=by cases hx:fn.body<;>first | exact ⟨_,rfl⟩ | (rw [hx] at hb;cases hb)
 have h:=h i
 simp only [hb,Option.getD_some] at h
 obtain ⟨n0,x,e1,lg1,h1,hx,hl⟩:=h
 refine zUL (n0:=n0) fun n hn=>?_
 have j5:=h1 n (n+1) (by omega) (by omega)
 cases lg1 with
 | none=>cases hl
 | some l =>
  simp only [Option.map_some,Option.some.injEq] at hl
  simp only [zTv,zXh,hf,hb]
  have wL:(k != 0)=true:=by simpa using hk
  have hc':=hc i
  rw [hc',wL,hin]
  simp only [Bool.and_self,cond_true,j5]
  rcases hx with rfl | rfl<;>simp [hl]
end
end Go.Eng
namespace Go.Eng
open Go
inductive PX where
 | ok | fail | emb (p:PM)
 | view (s:Nat) (k:PV→PX) | get (s:Nat) (k:PV→PX) | set (s:Nat) (p:PV) (k:PX)
 | cells (r:Nat) (pre:zA0) (i c n:Nat) (k:Bool→List PV→PX) | deep (r:Nat) (pre:zA0) (k:PV→PX)
 | wcells (r:Nat) (pre:zA0) (i c:Nat) (qs:List PV) (k:PX) | wnode (r:Nat) (pre:zA0) (q:PV) (k:PX)
 | kill (r:Nat) (pre:zA0) (k:PX) | frz (r:Nat) (pre:zA0) (k:PX) | frzp (r:Nat) (pre:zA0) (p:PV) (k:PV→PX) | killEx (r:Nat) (keep:List zA0) (k:PX)
 | call (f:FuncId) (args hid:List PV) (k:PV→List PV→PX)
 | test (b:Bool) (k:PX) | pick (x:Option PV) (k:PV→PX) | num (x:Option Nat) (k:Nat→PX) | idx (x:Option (Option Nat)) (k:Option Nat→PX)
 | choose (b:Bool) (k1 k2:PX) | same (p:PV) (k:PV→PX) | sames (ps:List PV) (k:List PV→PX)
 | nats (x:List Nat) (k:List Nat→PX) | pure (d:Option Nat) (f:FuncId) (args:List PV) (k:PX)
def PX.toPM:PX→PM
 | .ok => .ok
 | .fail => .fail
 | .emb p=>p
 | .view s k => .view s fun p=>(k p).toPM
 | .get s k => .get s fun p=>(k p).toPM
 | .set s p k => .set s p k.toPM
 | .cells r pre i c n k => .cells r pre i c n fun a qs=>(k a qs).toPM
 | .deep r pre k => .deep r pre fun q=>(k q).toPM
 | .wcells r pre i c qs k => .wcells r pre i c qs k.toPM
 | .wnode r pre q k => .wnode r pre q k.toPM
 | .kill r pre k => .kill r pre k.toPM
 | .frz r pre k => .frz r pre k.toPM
 | .frzp r pre p k => .frz r pre (k p).toPM
 | .killEx r keep k => .killEx r keep k.toPM
 | .call f args hid k => .call f args hid fun v h=>(k v h).toPM
 | .test b k=>bif b then k.toPM else .fail
 | .pick x k=>match x with
  | some v=>(k v).toPM
  | none => .fail
 | .num x k=>match x with
  | some v=>(k v).toPM
  | none => .fail
 | .idx x k=>match x with
  | some v=>(k v).toPM
  | none => .fail
 | .choose b k1 k2=>bif b then k1.toPM else k2.toPM
 | .same p k=>(k p).toPM
 | .sames ps k=>(k ps).toPM
 | .nats x k=>(k x).toPM
 | .pure _ _ _ k=>k.toPM
inductive An where
 | ob | v (p:PV) | vs (ps:List PV) | n (k:Nat) | ix (k:Option Nat) | yes | no | cs (a:Bool) (qs:List PV) | root (r:PV) (kept:Bool) | ret (v:PV) (hid:List PV) | ns (l:List Nat) | env (e:Env) | envv (e:Env) (q:PV)
abbrev Ans:=List (Nat×An)
def zGm:Ans→Option An×Ans
 | []=>(none,[])
 | (0,a)::l=>(some a,l)
 | (n+1,a)::l=>(none,(n,a)::l)
section
variable [Yo] (P:Program) (H:zBl)
def zSK (f:FuncId) (args:List PV) (v:PV):Prop:=∀ (d:Option Nat) (e:Env),∃ n0,∀ n,n0≤n→(zN0 H d f args).runT (zCX P H n) e=(put d v).runT (zCX P H n) e
abbrev XR:=Option (Env×Tok×List Prop)
def XR.tok (t:Tok) (x:XR):XR:=x.map fun y=>(y.1,Tok.join t y.2.1,y.2.2)
def XR.ob (q:Prop) (x:XR):XR:=x.map fun y=>(y.1,y.2.1,q::y.2.2)
def PX.run:PX→Ans→Env→XR
 | .ok,_,e=>some (e,{},[])
 | .fail,_,_=>none
 | .emb p,_,e=>(p.runT zHw e).map fun y=>(y.1,y.2,[])
 | .view s k,as,e=>((k (Eng.view s (e.get s))).run as e).tok {look:=[s]}
 | .get s k,as,e=>match e.get s with
  | .lock _=>none
  | p=>((k p).run as e).tok {rd:=[s]}
 | .set s p k,as,e=>(k.run as (e.set s p)).tok (zFp s (e.get s) p)
 | .cells r pre i c n k,as,e=>match zGm as with
  | (none,as)=>match zAv r (e.get r) pre i c n with
   | some (a,qs)=>((k a qs).run as e).tok {cel:=[(r,pre)]}
   | none=>none
  | (some (.cs a qs),as)=>(((k a qs).run as e).tok {cel:=[(r,pre)]}).ob (zAv r (e.get r) pre i c n=some (a,qs))
  | _=>none
 | .deep r pre k,as,e=>match zGm as with
  | (none,as)=>match zAA (e.get r).unlock pre with
   | some q=>((k q).run as e).tok {rd:=[r]}
   | none=>none
  | (some (.v q),as)=>(((k q).run as e).tok {rd:=[r]}).ob (zAA (e.get r).unlock pre=some q)
  | _=>none
 | .wcells r pre i c qs k,as,e=>match zGm as with
  | (none,as)=>match zBC (e.get r) pre i c qs with
   | some root=>(k.run as (e.set r root)).tok (zBg r [] (zAM (e.get r) root pre) (e.get r) root)
   | none=>none
  | (some (.root root kp),as)=>((k.run as (e.set r root)).tok (zBg r [] kp (e.get r) root)).ob (zBC (e.get r) pre i c qs=some root∧zAM (e.get r) root pre=kp)
  | _=>none
 | .wnode r pre q k,as,e=>match zGm as with
  | (none,as)=>bif (e.get r).isLock then none else match zAx (fun _=>some q) (e.get r) pre with
   | some root=>(k.run as (e.set r root)).tok (zBg r pre.dropLast (zAM (e.get r) root pre&&(pre.isEmpty || !q.isAgg)) (e.get r) root)
   | none=>none
  | (some (.root root kp),as)=>bif (e.get r).isLock then none else ((k.run as (e.set r root)).tok (zBg r pre.dropLast (kp&&(pre.isEmpty || !q.isAgg)) (e.get r) root)).ob (zAx (fun _=>some q) (e.get r) pre=some root∧zAM (e.get r) root pre=kp)
  | _=>none
 | .kill r pre k,as,e=>(k.run as (e.kill r pre)).tok (zAR (zDm e fun z=>zAP r pre z.1 z.2) e.get (e.kill r pre).get [r] [])
 | .frz r pre k,as,e=>match zGm as with
  | (none,as)=>match e.frz r pre with
   | some e'=>(k.run as e').tok (zAR (r::zDm e fun z=>zAP r pre z.1 z.2) e.get e'.get [r] [])
   | none=>none
  | (some (.env e'),as)=>((k.run as e').tok (zAR (r::zDm e fun z=>zAP r pre z.1 z.2) e.get e'.get [r] [])).ob (e.frz r pre=some e')
  | _=>none
 | .frzp r pre p k,as,e=>match zGm as with
  | (none,as)=>match e.frz r pre with
   | some e'=>((k p).run as e').tok (zAR (r::zDm e fun z=>zAP r pre z.1 z.2) e.get e'.get [r] [])
   | none=>none
  | (some (.env e'),as)=>(((k p).run as e').tok (zAR (r::zDm e fun z=>zAP r pre z.1 z.2) e.get e'.get [r] [])).ob (e.frz r pre=some e')
  | (some (.envv e' q),as)=>(((k q).run as e').tok (zAR (r::zDm e fun z=>zAP r pre z.1 z.2) e.get e'.get [r] [])).ob (e.frz r pre=some e'∧p=q)
  | _=>none
 | .killEx r keep k,as,e=>(k.run as (e.killEx r keep)).tok (zAR (zDm e fun z=>Nat.beq z.1 r && !z.2.isEmpty) e.get (e.killEx r keep).get [] [r])
 | .call f args hid k,as,e=>match zGm as with
  | (some (.ret v hZ),as)=>((k v hZ).run as e).ob (zDs P H f args hid v hZ)
  | _=>none
 | .test b k,as,e=>match zGm as with
  | (none,as)=>bif b then k.run as e else none
  | (some .ob,as)=>(k.run as e).ob (b=true)
  | _=>none
 | .pick x k,as,e=>match zGm as with
  | (none,as)=>match x with
   | some v=>(k v).run as e
   | none=>none
  | (some (.v v),as)=>((k v).run as e).ob (x=some v)
  | _=>none
 | .num x k,as,e=>match zGm as with
  | (none,as)=>match x with
   | some v=>(k v).run as e
   | none=>none
  | (some (.n v),as)=>((k v).run as e).ob (x=some v)
  | _=>none
 | .idx x k,as,e=>match zGm as with
  | (none,as)=>match x with
   | some v=>(k v).run as e
   | none=>none
  | (some (.ix v),as)=>((k v).run as e).ob (x=some v)
  | _=>none
 | .choose b k1 k2,as,e=>match zGm as with
  | (none,as)=>bif b then k1.run as e else k2.run as e
  | (some .yes,as)=>(k1.run as e).ob (b=true)
  | (some .no,as)=>(k2.run as e).ob (b=false)
  | _=>none
 | .same p k,as,e=>match zGm as with
  | (none,as)=>(k p).run as e
  | (some (.v q),as)=>((k q).run as e).ob (p=q)
  | _=>none
 | .sames ps k,as,e=>match zGm as with
  | (none,as)=>(k ps).run as e
  | (some (.vs qs),as)=>((k qs).run as e).ob (ps=qs)
  | _=>none
 | .nats x k,as,e=>match zGm as with
  | (none,as)=>(k x).run as e
  | (some (.ns l),as)=>((k l).run as e).ob (x=l)
  | _=>none
 | .pure d f args k,as,e=>match zGm as with
  | (none,as)=>k.run as e
  | (some (.v v),_)=>XR.ob (zSK P H f args v∧k.toPM=zN0 H d f args) (((put d v).runT zHw e).map fun y=>(y.1,y.2,[]))
  | _=>none
def zT4:List Prop→Prop
 | []=>True
 | p::ps=>p∧zT4 ps
end
section
variable [Yo] {P:Program} {H:zBl}
theorem XR.tok_some {t u:Tok} {x:XR} {e':Env} {obs:List Prop} (h:x.tok t=some (e',u,obs)):∃ u',x=some (e',u',obs)∧u=Tok.join t u':=by
 obtain ⟨⟨a,b,c⟩,h1,h2⟩:=Option.map_eq_some_iff.1 h
 simp only [Prod.mk.injEq] at h2
 obtain ⟨rfl,rfl,rfl⟩:=h2
 exact ⟨_,h1,rfl⟩
theorem XR.ob_some {q:Prop} {u:Tok} {x:XR} {e':Env} {obs:List Prop} (h:x.ob q=some (e',u,obs)):∃ o',x=some (e',u,o')∧obs=q::o':=by
 obtain ⟨⟨a,b,c⟩,h1,h2⟩:=Option.map_eq_some_iff.1 h
 simp only [Prod.mk.injEq] at h2
 obtain ⟨rfl,rfl,rfl⟩:=h2
 exact ⟨_,h1,rfl⟩
theorem PX.run_ok:∀ {p:PX} {as:Ans} {e e':Env} {t:Tok} {obs:List Prop},p.run P H as e=some (e',t,obs)→zT4 obs→∃ n0,∀ n,n0≤n→p.toPM.runT (zCX P H n) e=some (e',t):=by
 intro p
 induction p with
 | ok=>intro as e e' t obs h _;simp only [PX.run,Option.some.injEq,Prod.mk.injEq] at h;obtain ⟨rfl,rfl,_⟩:=h;exact ⟨0,fun _ _=>rfl⟩
 | fail=>intro as e e' t obs h _;cases h
 | emb p =>
  intro as e e' t obs h _
  obtain ⟨⟨a,b⟩,h1,h2⟩:=Option.map_eq_some_iff.1 h
  simp only [Prod.mk.injEq] at h2
  obtain ⟨rfl,rfl,_⟩:=h2
  exact ⟨0,fun _ _=>zIF h1⟩
 | view s k ih =>
  intro as e e' t obs h ha
  obtain ⟨u,h1,rfl⟩:=XR.tok_some h
  obtain ⟨n0,h2⟩:=ih _ h1 ha
  exact ⟨n0,fun n hn=>by simp only [PX.toPM,PM.runT,h2 n hn];rfl⟩
 | get s k ih =>
  intro as e e' t obs h ha
  simp only [PX.run] at h
  cases hg:e.get s<;>rw [hg] at h<;>simp only at h<;>try (cases h;done)
  all_goals
   obtain ⟨u,h1,rfl⟩:=XR.tok_some h
   obtain ⟨n0,h2⟩:=ih _ h1 ha
   exact ⟨n0,fun n hn=>by simp only [PX.toPM,PM.runT,hg,h2 n hn];rfl⟩
 | set s q k ih =>
  intro as e e' t obs h ha
  obtain ⟨u,h1,rfl⟩:=XR.tok_some h
  obtain ⟨n0,h2⟩:=ih h1 ha
  exact ⟨n0,fun n hn=>by simp only [PX.toPM,PM.runT,h2 n hn];rfl⟩
 | cells r pre i c n k ih =>
  intro as e e' t obs h ha
  simp only [PX.run] at h
  split at h
  ·split at h
   ·rename_i hr
    obtain ⟨u,h1,rfl⟩:=XR.tok_some h
    obtain ⟨n0,h2⟩:=ih _ _ h1 ha
    exact ⟨n0,fun n hn=>by simp only [PX.toPM,PM.runT,hr,h2 n hn];rfl⟩
   ·cases h
  ·obtain ⟨o,h0,rfl⟩:=XR.ob_some h
   obtain ⟨u,h1,rfl⟩:=XR.tok_some h0
   obtain ⟨n0,h2⟩:=ih _ _ h1 ha.2
   exact ⟨n0,fun n hn=>by simp only [PX.toPM,PM.runT,ha.1,h2 n hn];rfl⟩
  ·cases h
 | deep r pre k ih =>
  intro as e e' t obs h ha
  simp only [PX.run] at h
  split at h
  ·split at h
   ·rename_i hr
    obtain ⟨u,h1,rfl⟩:=XR.tok_some h
    obtain ⟨n0,h2⟩:=ih _ h1 ha
    exact ⟨n0,fun n hn=>by simp only [PX.toPM,PM.runT,hr,h2 n hn];rfl⟩
   ·cases h
  ·obtain ⟨o,h0,rfl⟩:=XR.ob_some h
   obtain ⟨u,h1,rfl⟩:=XR.tok_some h0
   obtain ⟨n0,h2⟩:=ih _ h1 ha.2
   exact ⟨n0,fun n hn=>by simp only [PX.toPM,PM.runT,ha.1,h2 n hn];rfl⟩
  ·cases h
 | wcells r pre i c qs k ih =>
  intro as e e' t obs h ha
  simp only [PX.run] at h
  split at h
  ·split at h
   ·rename_i hr
    obtain ⟨u,h1,rfl⟩:=XR.tok_some h
    obtain ⟨n0,h2⟩:=ih h1 ha
    exact ⟨n0,fun n hn=>by simp only [PX.toPM,PM.runT,hr,h2 n hn];rfl⟩
   ·cases h
  ·obtain ⟨o,h0,rfl⟩:=XR.ob_some h
   obtain ⟨u,h1,rfl⟩:=XR.tok_some h0
   obtain ⟨n0,h2⟩:=ih h1 ha.2
   exact ⟨n0,fun n hn=>by simp only [PX.toPM,PM.runT,ha.1.1,ha.1.2,h2 n hn];rfl⟩
  ·cases h
 | wnode r pre q k ih =>
  intro as e e' t obs h ha
  simp only [PX.run] at h
  split at h
  ·rcases zBk h with ⟨_,h⟩ | ⟨hl,h⟩
   ·cases h
   ·split at h
    ·rename_i hr
     obtain ⟨u,h1,rfl⟩:=XR.tok_some h
     obtain ⟨n0,h2⟩:=ih h1 ha
     exact ⟨n0,fun n hn=>by simp only [PX.toPM,PM.runT,hl,cond_false,hr,h2 n hn];rfl⟩
    ·cases h
  ·rcases zBk h with ⟨_,h⟩ | ⟨hl,h⟩
   ·cases h
   ·obtain ⟨o,h0,rfl⟩:=XR.ob_some h
    obtain ⟨u,h1,rfl⟩:=XR.tok_some h0
    obtain ⟨n0,h2⟩:=ih h1 ha.2
    exact ⟨n0,fun n hn=>by simp only [PX.toPM,PM.runT,hl,cond_false,ha.1.1,ha.1.2,h2 n hn];rfl⟩
  ·cases h
 | kill r pre k ih =>
  intro as e e' t obs h ha
  obtain ⟨u,h1,rfl⟩:=XR.tok_some h
  obtain ⟨n0,h2⟩:=ih h1 ha
  exact ⟨n0,fun n hn=>by simp only [PX.toPM,PM.runT,h2 n hn];rfl⟩
 | frz r pre k ih =>
  intro as e e' t obs h ha
  simp only [PX.run] at h
  split at h
  ·split at h
   ·rename_i hr
    obtain ⟨u,h1,rfl⟩:=XR.tok_some h
    obtain ⟨n0,h2⟩:=ih h1 ha
    exact ⟨n0,fun n hn=>by simp only [PX.toPM,PM.runT,hr,h2 n hn];rfl⟩
   ·cases h
  ·obtain ⟨o,h0,rfl⟩:=XR.ob_some h
   obtain ⟨u,h1,rfl⟩:=XR.tok_some h0
   obtain ⟨n0,h2⟩:=ih h1 ha.2
   exact ⟨n0,fun n hn=>by simp only [PX.toPM,PM.runT,ha.1,h2 n hn];rfl⟩
  ·cases h
 | frzp r pre p k ih =>
  intro as e e' t obs h ha
  simp only [PX.run] at h
  split at h
  ·split at h
   ·rename_i hr
    obtain ⟨u,h1,rfl⟩:=XR.tok_some h
    obtain ⟨n0,h2⟩:=ih _ h1 ha
    exact ⟨n0,fun n hn=>by simp only [PX.toPM,PM.runT,hr,h2 n hn];rfl⟩
   ·cases h
  ·obtain ⟨o,h0,rfl⟩:=XR.ob_some h
   obtain ⟨u,h1,rfl⟩:=XR.tok_some h0
   obtain ⟨n0,h2⟩:=ih _ h1 ha.2
   exact ⟨n0,fun n hn=>by simp only [PX.toPM,PM.runT,ha.1,h2 n hn];rfl⟩
  ·obtain ⟨o,h0,rfl⟩:=XR.ob_some h
   obtain ⟨u,h1,rfl⟩:=XR.tok_some h0
   obtain ⟨⟨hf,rfl⟩,ha⟩:=ha
   obtain ⟨n0,h2⟩:=ih _ h1 ha
   exact ⟨n0,fun n hn=>by simp only [PX.toPM,PM.runT,hf,h2 n hn];rfl⟩
  ·cases h
 | killEx r keep k ih =>
  intro as e e' t obs h ha
  obtain ⟨u,h1,rfl⟩:=XR.tok_some h
  obtain ⟨n0,h2⟩:=ih h1 ha
  exact ⟨n0,fun n hn=>by simp only [PX.toPM,PM.runT,h2 n hn];rfl⟩
 | call f args hid k ih =>
  intro as e e' t obs h ha
  simp only [PX.run] at h
  split at h
  ·obtain ⟨o,h1,rfl⟩:=XR.ob_some h
   obtain ⟨n0,h2⟩:=ih _ _ h1 ha.2
   obtain ⟨n1,h3⟩:=ha.1
   exact ⟨max n0 n1,fun n hn=>by simp only [PX.toPM,PM.runT,h3 n (by omega),h2 n (by omega)]⟩
  ·cases h
 | test b k ih =>
  intro as e e' t obs h ha
  simp only [PX.run] at h
  split at h
  ·rcases zBk h with ⟨hb,h⟩ | ⟨_,h⟩
   ·obtain ⟨n0,h2⟩:=ih h ha
    exact ⟨n0,fun n hn=>by simp only [PX.toPM,hb,cond_true,h2 n hn]⟩
   ·cases h
  ·obtain ⟨o,h1,rfl⟩:=XR.ob_some h
   obtain ⟨n0,h2⟩:=ih h1 ha.2
   exact ⟨n0,fun n hn=>by simp only [PX.toPM,ha.1,cond_true,h2 n hn]⟩
  ·cases h
 | pick x k ih =>
  intro as e e' t obs h ha
  simp only [PX.run] at h
  split at h
  ·split at h
   ·obtain ⟨n0,h2⟩:=ih _ h ha
    exact ⟨n0,fun n hn=>by simp only [PX.toPM,h2 n hn]⟩
   ·cases h
  ·obtain ⟨o,h1,rfl⟩:=XR.ob_some h
   obtain ⟨n0,h2⟩:=ih _ h1 ha.2
   exact ⟨n0,fun n hn=>by simp only [PX.toPM,ha.1,h2 n hn]⟩
  ·cases h
 | num x k ih =>
  intro as e e' t obs h ha
  simp only [PX.run] at h
  split at h
  ·split at h
   ·obtain ⟨n0,h2⟩:=ih _ h ha
    exact ⟨n0,fun n hn=>by simp only [PX.toPM,h2 n hn]⟩
   ·cases h
  ·obtain ⟨o,h1,rfl⟩:=XR.ob_some h
   obtain ⟨n0,h2⟩:=ih _ h1 ha.2
   exact ⟨n0,fun n hn=>by simp only [PX.toPM,ha.1,h2 n hn]⟩
  ·cases h
 | idx x k ih =>
  intro as e e' t obs h ha
  simp only [PX.run] at h
  split at h
  ·split at h
   ·obtain ⟨n0,h2⟩:=ih _ h ha
    exact ⟨n0,fun n hn=>by simp only [PX.toPM,h2 n hn]⟩
   ·cases h
  ·obtain ⟨o,h1,rfl⟩:=XR.ob_some h
   obtain ⟨n0,h2⟩:=ih _ h1 ha.2
   exact ⟨n0,fun n hn=>by simp only [PX.toPM,ha.1,h2 n hn]⟩
  ·cases h
 | choose b k1 k2 ih1 ih2 =>
  intro as e e' t obs h ha
  simp only [PX.run] at h
  split at h
  ·rcases zBk h with ⟨hb,h⟩ | ⟨hb,h⟩
   ·obtain ⟨n0,h2⟩:=ih1 h ha
    exact ⟨n0,fun n hn=>by simp only [PX.toPM,hb,cond_true,h2 n hn]⟩
   ·obtain ⟨n0,h2⟩:=ih2 h ha
    exact ⟨n0,fun n hn=>by simp only [PX.toPM,hb,cond_false,h2 n hn]⟩
  ·obtain ⟨o,h1,rfl⟩:=XR.ob_some h
   obtain ⟨n0,h2⟩:=ih1 h1 ha.2
   exact ⟨n0,fun n hn=>by simp only [PX.toPM,ha.1,cond_true,h2 n hn]⟩
  ·obtain ⟨o,h1,rfl⟩:=XR.ob_some h
   obtain ⟨n0,h2⟩:=ih2 h1 ha.2
   exact ⟨n0,fun n hn=>by simp only [PX.toPM,ha.1,cond_false,h2 n hn]⟩
  ·cases h
 | same p k ih =>
  intro as e e' t obs h ha
  simp only [PX.run] at h
  split at h
  ·exact ih _ h ha
  ·obtain ⟨o,h1,rfl⟩:=XR.ob_some h
   obtain ⟨n0,h2⟩:=ih _ h1 ha.2
   exact ⟨n0,fun n hn=>by simp only [PX.toPM,ha.1,h2 n hn]⟩
  ·cases h
 | sames ps k ih =>
  intro as e e' t obs h ha
  simp only [PX.run] at h
  split at h
  ·exact ih _ h ha
  ·obtain ⟨o,h1,rfl⟩:=XR.ob_some h
   obtain ⟨n0,h2⟩:=ih _ h1 ha.2
   exact ⟨n0,fun n hn=>by simp only [PX.toPM,ha.1,h2 n hn]⟩
  ·cases h
 | nats x k ih =>
  intro as e e' t obs h ha
  simp only [PX.run] at h
  split at h
  ·exact ih _ h ha
  ·obtain ⟨o,h1,rfl⟩:=XR.ob_some h
   obtain ⟨n0,h2⟩:=ih _ h1 ha.2
   exact ⟨n0,fun n hn=>by simp only [PX.toPM,ha.1,h2 n hn]⟩
  ·cases h
 | pure d f args k ih =>
  intro as e e' t obs h ha
  simp only [PX.run] at h
  split at h
  ·exact ih h ha
  ·obtain ⟨o,h1,rfl⟩:=XR.ob_some h
   obtain ⟨⟨a,b⟩,h2,h3⟩:=Option.map_eq_some_iff.1 h1
   simp only [Prod.mk.injEq] at h3
   obtain ⟨rfl,rfl,_⟩:=h3
   obtain ⟨⟨hp,hk⟩,_⟩:=ha
   obtain ⟨n0,hp⟩:=hp d e
   exact ⟨n0,fun n hn=>by simp only [PX.toPM];rw [hk,hp n hn];exact zIF h2⟩
  ·cases h
end
end Go.Eng
namespace Go.Eng
open Go
def zGS (x:Operand) (k:PV→PX):PX :=
 match x with
 | .tmp t => .view t k
 | .const v=>k (zEB v)
 | .func f=>k (.func f [] [])
 | .global _ => .fail
def zLl (x:Operand) (k:PV→PX):PX :=
 match x with
 | .tmp t => .get t fun p => .choose p.heavy (.set t .bad (k p)) (k p)
 | .const v=>k (zEB v)
 | .func f=>k (.func f [] [])
 | .global _ => .fail
def zQe:List Operand→(List PV→PX)→PX
 | [],k=>k []
 | x::xs,k=>zGS x fun p=>zQe xs fun ps=>k (p::ps)
def zWe (d:Nat) (p:PV) (k:PX):PX := .choose p.heavy (.kill d [] (.set d (p.mapW (lose d [])) k)) (.set d p k)
def zGq (d:Option Nat) (p:PV):PX :=
 match d with
 | none => .ok
 | some d => .same p fun p=>bif p.isTup then .fail else zWe d p .ok
def zHt (d:Nat):Nat→List PV→PX→PX
 | n,[],k => .set d (.tup (List.replicate n .bad)) k
 | i,p::ps,k => .same p fun p=>zWe (zBu d i) p (zHt d (i+1) ps k)
def zE0 (d:Option Nat) (v:PV):PX :=
 match d,v with
 | some d,.tup vs => .test (Nat.ble vs.length 16) (.test ((zBt vs).all (fun w => !zJG d w.1)) (.set d .bad (zHt d 0 vs .ok)))
 | d,v=>zGq d v
def zF0:PV→(Nat→PX)→PX
 | .int _ n,k => .test (decide (0≤n)) (.num (some n.toNat) k)
 | _,_ => .fail
def zQZ (r:Nat) (pre:zA0) (i c:Nat) (sh:Option Nat) (k:PV→PX):PX :=
 match sh with
 | some n => .cells r pre i c n fun a qs=>bif a then k (.agg qs) else .fail
 | none => .cells r pre i c 1 fun _ qs=>k (qs.headD .bad)
def zGZ (r:Nat) (pre:zA0) (i:Nat):Nat→List PV→PX→PX
 | _,[],k=>k
 | c,q::qs,k=>bif q.heavy then .kill r (pre++[(i,c)]) (zGZ r pre i (c+1) qs k) else zGZ r pre i (c+1) qs k
def zRJ (r:Nat) (pre:zA0) (i c:Nat) (qs:List PV) (k:PX):PX := .choose (qs.all fun q => !q.heavy) k (zGZ r pre i c qs k)
section
variable {k:PX} {kp:PV→PX}
theorem zCa {x:Operand} {k:PV→PX}:(zGS x k).toPM=opd x fun p=>(k p).toPM:=by cases x<;>rfl
theorem zBy {α:Type} {b:Bool} {x y:α}:(bif b then x else y)=if b=true then x else y:=by cases b<;>rfl
theorem zF8 {x:Operand} {k:PV→PX}:(zLl x k).toPM=zOH x fun p=>(k p).toPM:=by
 cases x<;>first | rfl | simp only [zLl,zOH,PX.toPM,zBy]
theorem zIp:∀ {xs:List Operand} {k:List PV→PX},(zQe xs k).toPM=zTt xs fun p=>(k p).toPM
 | [],_=>rfl
 | x::xs,k=>by simp only [zQe,zTt,zCa,zIp]
theorem zKN {d:Nat} {p:PV} {k:PX}:(zWe d p k).toPM=lay d p k.toPM:=by simp only [zWe,lay,PX.toPM]
theorem zDd {b:Bool} {x y:PX}:(bif b then x else y).toPM=bif b then x.toPM else y.toPM:=by cases b<;>rfl
theorem zOr {c:Prop} [Decidable c] {x y:PX}:(if c then x else y).toPM=if c then x.toPM else y.toPM:=by split<;>rfl
theorem zBw {d:Option Nat} {p:PV}:(zGq d p).toPM=put d p:=by
 cases d with
 | none=>rfl
 | some d=>simp only [zGq,put,PX.toPM,zDd,zKN]
theorem zH2 {d:Nat}:∀ {ps:List PV} {i:Nat} {k:PX},(zHt d i ps k).toPM=zE4 d i ps k.toPM
 | [],_,_=>rfl
 | p::ps,i,k=>by simp only [zHt,zE4,PX.toPM,zKN,zH2]
theorem zDe {α:Type} {a b:Bool} {x y:α}:(bif a&&b then x else y)=bif a then (bif b then x else y) else y:=by cases a<;>rfl
theorem zEU {d:Option Nat} {v:PV}:(zE0 d v).toPM=zDu d v:=by
 cases d with
 | none=>cases v<;>simp only [zE0,zDu,zBw]
 | some d=>cases v<;>simp only [zE0,zDu,PX.toPM,zH2,zDe,zBw]
theorem zET {p:PV} {k:Nat→PX}:(zF0 p k).toPM=zGA p fun n=>(k n).toPM:=by
 cases p<;>first | rfl | skip
 simp only [zF0,zGA,PX.toPM,zBy,decide_eq_true_eq]
theorem zK0 {r:Nat} {pre:zA0} {i c:Nat} {sh:Option Nat} {k:PV→PX}:(zQZ r pre i c sh k).toPM=zMv r pre i c sh fun p=>(k p).toPM:=by
 cases sh<;>simp only [zQZ,zMv,PX.toPM,zDd]
theorem zIS {r:Nat} {pre:zA0} {i:Nat}:∀ {qs:List PV} {c:Nat} {k:PX},(zGZ r pre i c qs k).toPM=zD0 r pre i c qs k.toPM
 | [],_,_=>rfl
 | q::qs,c,k=>by simp only [zGZ,zD0,zDd,PX.toPM,zIS]
theorem zEV {r:Nat} {pre:zA0} {i:Nat}:∀ {qs:List PV} {c:Nat} {k:PM},(qs.all fun q => !q.heavy)=true→zD0 r pre i c qs k=k
 | [],_,_,_=>rfl
 | q::qs,c,k,h=>by
  simp only [List.all_cons,Bool.and_eq_true,Bool.not_eq_true'] at h
  simp only [zD0,h.1,cond_false];exact zEV h.2
theorem zQX {r:Nat} {pre:zA0} {i c:Nat} {qs:List PV} {k:PX}:(zRJ r pre i c qs k).toPM=zD0 r pre i c qs k.toPM:=by
 simp only [zRJ,PX.toPM,zIS]
 cases h:qs.all fun q => !q.heavy with
 | false=>rfl
 | true=>exact (zEV h).symm
end
def zEG (res:PV→(PV→List (Nat×zA0)→PX)→PX):List PV→(List PV→List (Nat×zA0)→PX)→PX
 | [],k=>k [] []
 | p::ps,k=>res p fun q l=>zEG res ps fun qs m=>k (q::qs) (l++m)
def zDJ (hb:Nat):Nat→PV→(PV→List (Nat×zA0)→PX)→PX
 | 0,_,_ => .fail
 | n + 1,p,k =>
  match p with
  | .addr r pre i c sh=>bif Nat.ble hb r then k p [] else .deep r pre fun q=>match zBd q with
   | some xs => .pick xs[i]? fun x=>match sh with
     | some m => .test (Nat.ble (c+m) x.cells.length) (.test x.isAgg (zDJ hb n (.agg ((x.cells.drop c).take m)) fun q l=>k (.ref q) ((r,pre)::l)))
     | none => .pick x.cells[c]? fun q => .test q.oneCell (zDJ hb n q fun q l=>k (.ref q) ((r,pre)::l))
   | none => .fail
  | .bor r pre _ lo m=>bif Nat.ble hb r then k p [] else .deep r pre fun q=>match q with
   | .own _ xs => .test (Nat.ble (lo+m) xs.length) (.same (.sl (zAu ((xs.drop lo).take m))) fun p=>k p [(r,pre)])
   | _ => .fail
  | .bsl r pre i c sz ag m=>bif Nat.ble hb r then k p [] else .deep r pre fun q=>match zBd q with
   | some xs => .pick xs[i]? fun x => .test (zCm ag sz m ((x.cells.drop c).take (m*sz))) (.test (zBt x.cells).isEmpty (.same (.sl (zCk ag sz m (zAu ((x.cells.drop c).take (m*sz))))) fun p=>k p [(r,pre)]))
   | none => .fail
  | .bmap r pre=>bif Nat.ble hb r then k p [] else .deep r pre fun q=>match q with
   | .omap es=>k (.map es) [(r,pre)]
   | _ => .fail
  | .agg cs => .choose (p.ways).isEmpty (.same (zAY p) fun q=>k q []) (zEG (zDJ hb n) cs fun qs l=>k (.agg qs) l)
  | .func f a b => .choose (p.ways).isEmpty (k p []) (zEG (zDJ hb n) a fun as l=>zEG (zDJ hb n) b fun bs m=>k (.func f as bs) (l++m))
  | .ref q => .choose (q.ways).isEmpty (k p []) (zDJ hb n q fun q l=>k (.ref q) l)
  | .bad=>k .bad []
  | p => .test (p.ways.all (fun w=>Nat.ble hb w.1)) (.same (zAY p) fun q=>k q [])
def zUs (p:PV) (k:PV→List (Nat×zA0)→PX):PX:=zDJ zAb depth p k
theorem zIa {res:PV→(PV→List (Nat×zA0)→PX)→PX} {res':PV→(PV→List (Nat×zA0)→PM)→PM} (h:∀ p k,(res p k).toPM=res' p fun q l=>(k q l).toPM):∀ {ps:List PV} {k:List PV→List (Nat×zA0)→PX},(zEG res ps k).toPM=zEx res' ps fun q l=>(k q l).toPM
 | [],_=>rfl
 | p::ps,k=>by simp only [zEG,zEx,h,zIa h]
theorem zJJ {hb:Nat}:∀ {n:Nat} {p:PV} {k:PV→List (Nat×zA0)→PX},(zDJ hb n p k).toPM=resolve hb n p fun q l=>(k q l).toPM
 | 0,_,_=>rfl
 | n + 1,p,k=>by
  have ih:∀ (p:PV) (k:PV→List (Nat×zA0)→PX),(zDJ hb n p k).toPM=resolve hb n p fun q l=>(k q l).toPM:=fun p k=>zJJ
  cases p<;>simp only [zDJ,resolve,zDd,PX.toPM,zDe,ih,zIa ih]
  ·congr 1;congr 1;funext q
   cases zBd q with
   | none=>rfl
   | some xs =>
    simp only [PX.toPM]
    rename_i r pre i c sh
    cases xs[i]? with
    | none=>rfl
    | some x =>
     cases sh with
     | some m=>simp only [PX.toPM,zDe,ih]
     | none =>
      simp only [PX.toPM,ih]
      cases x.cells[c]? with
      | none=>rfl
      | some q=>simp only [PX.toPM,zBy,ih]
  ·congr 1;congr 1;funext q
   cases q<;>rfl
  ·congr 1;congr 1;funext q
   cases zBd q with
   | none=>rfl
   | some xs =>
    simp only [PX.toPM]
    rename_i r pre i c sz ag m
    cases xs[i]? with
    | none=>rfl
    | some x=>simp only [PX.toPM,zDe]
  ·congr 1;congr 1;funext q
   cases q<;>rfl
theorem zRK {p:PV} {k:PV→List (Nat×zA0)→PX}:(zUs p k).toPM=zPN p fun q l=>(k q l).toPM:=zJJ
def zP4 (hb:Nat):Nat→PV→(PV→PX)→PX
 | 0,_,_ => .fail
 | n+1,p,k=>match p.ways.find? (fun w=>Nat.blt w.1 hb) with
  | none => .same p k
  | some (r,pre) => .deep r pre fun q => .frzp r pre (p.mapW (inl r pre q)) fun p=>zP4 hb n p k
theorem zFw {hb:Nat}:∀ {n:Nat} {p:PV} {k:PV→PX},(zP4 hb n p k).toPM=zLR hb n p fun q=>(k q).toPM
 | 0,_,_=>rfl
 | n+1,p,k=>by
  simp only [zP4,zLR]
  cases p.ways.find? (fun w=>Nat.blt w.1 hb) with
  | none=>rfl
  | some w=>simp only [PX.toPM,zFw]
def zK3 (p:PV) (k:List PV→PX):PX :=
 match p with
 | .nils _=>k []
 | .nn=>k []
 | .sl xs=>k xs
 | .bor r pre z lo n => .deep r pre fun q=>match q with
  | .own _ xs => .test (Nat.ble (lo+n) xs.length) (.sames ((xs.drop lo).take n) k)
  | _ => .fail
 | .bsl r pre i c sz ag n => .cells r pre i c (n*sz) fun _ cs => .test (zCm ag sz n cs) (.test (cs.all (fun q=>q.plain0)) (.sames (zCk ag sz n cs) k))
 | _ => .fail
theorem zKj {p:PV} {k:List PV→PX}:(zK3 p k).toPM=zHm p fun l=>(k l).toPM:=by
 cases p<;>simp only [zK3,zHm,PX.toPM,zDe]
 congr 1;funext q
 cases q<;>rfl
section
variable (P:Program) (H:zBl)
def zFt:List Nat→List PV→(List (Bool×PV)→PX)→PX
 | _,[],k=>k []
 | ms,p::ps,k =>
  match ms.headD 0,p with
  | 2,.bor r pre _ 0 n => .deep r pre fun q=>match q with
   | .own sz xs => .test (Nat.ble n xs.length) (.wnode r pre .bad (.same (.own sz ((xs.drop 0).take n)) fun o=>zFt ms.tail ps fun as=>k ((true,o)::as)))
   | _ => .fail
  | _,p=>zFt ms.tail ps fun as=>k ((false,p)::as)
def zDE:List Nat→List (Bool×PV)→(List Arg→PX)→PX
 | _,[],k=>k []
 | ms,(true,p)::ps,k=>zDE ms.tail ps fun as=>k ({p:=p}::as)
 | ms,(false,p)::ps,k =>
  bif Nat.beq (ms.headD 0) 1 then zDE ms.tail ps fun as=>k ({p:=p,byref:=true}::as)
  else zUs p fun q l=>zDE ms.tail ps fun as=>k ({p:=q,shared:=l}::as)
def zFf:List Nat→List (Bool×PV)→(List Arg→PX)→PX
 | _,[],k=>k []
 | ms,(true,p)::ps,k=>zFf ms.tail ps fun as=>k ({p:=p}::as)
 | ms,(false,p)::ps,k =>
  bif Nat.beq (ms.headD 0) 1 then zFf ms.tail ps fun as=>k ({p:=p,byref:=true}::as)
  else zP4 zAb zDw p fun q=>zFf ms.tail ps fun as=>k ({p:=q}::as)
def zRW:List Nat→(List PV→PX)→PX
 | [],k=>k []
 | r::rs,k => .get r fun p=>zRW rs fun ps=>k (p::ps)
def zT2:List Nat→List PV→List PV→PX→PX
 | r::rs,o::os,p::ps,k => .test (zGy o p) (.same p fun p => .wnode r [] p (zT2 rs os ps k))
 | [],[],[],k=>k
 | _,_,_,_ => .fail
def zO3:Nat→List Nat→(List Nat→PX)→PX
 | 0,R,k=>k R
 | n+1,R,k=>zRW R fun ts=>let R':=(R++ts.flatMap zNJ).eraseDups;bif Nat.beq R'.length R.length then k R else zO3 n R' k
def zHf:List Nat→PX→PX
 | [],k=>k
 | r::rs,k => .killEx r [] (zHf rs k)
def zLV:List Bool→PX→PX→PX
 | [a,b,c],x,y => .choose a x (.choose b (.choose c x y) y)
 | _,_,y=>y
theorem zMX {a b c:Bool} {x y:PX}:(zLV [a,b,c] x y).toPM=bif a||b&&c then x.toPM else y.toPM:=by
 cases a<;>cases b<;>cases c<;>rfl
def zO8 (d:Option Nat) (f:FuncId) (as:List Arg) (again:PX):PX :=
 .nats (zOR as) fun R0=>zO3 3 R0 fun R =>
 bif zHd R&&R.all (fun r=>Nat.blt r zAb)&&Nat.ble R.length 1000&&Nat.ble as.length 1000&&(as.flatMap (·.shared)).all (fun x => !R.contains x.1) then
  zRW R fun hid => .sames (as.map fun a=>if a.byref then zGD (zDy R) a.p else a.p) fun args => .call f args (hid.map (zGD (zDy R))) fun v hZ =>
   zLV [(as.flatMap (·.shared)).isEmpty,v.free,zEE hZ]
    (zHf R<|zT2 R hid (hZ.map (zGD (zCe R))) (zE0 d (zGD (zCe R) v)))
    again
 else .fail
def zRR (d:Option Nat) (f:FuncId) (args:List PV):PX :=
 .nats (H f).mode fun ms=>zFt ms args fun bs=>zDE ms bs fun as=>zO8 d f as (zFf ms bs fun as=>zO8 d f as .fail)
theorem zFH:∀ {ps:List PV} {ms:List Nat} {k:List (Bool×PV)→PX},(zFt ms ps k).toPM=zD9 ms ps fun as=>(k as).toPM
 | [],_,_=>rfl
 | p :: ps,ms,k=>by
  unfold zFt zD9
  generalize ms.headD 0=m
  split
  ·simp only [PX.toPM]
   congr 1;funext q
   cases q<;>first | rfl | skip
   simp only [PX.toPM,zFH]
  ·simp only [zFH]
theorem zFe:∀ {ps:List (Bool×PV)} {ms:List Nat} {k:List Arg→PX},(zDE ms ps k).toPM=zCq ms ps fun as=>(k as).toPM
 | [],_,_=>rfl
 | (true,p)::ps,ms,k=>by simp only [zDE,zCq,zFe]
 | (false,p)::ps,ms,k=>by simp only [zDE,zCq,zDd,zRK,zFe]
theorem zGC:∀ {ps:List (Bool×PV)} {ms:List Nat} {k:List Arg→PX},(zFf ms ps k).toPM=zEm ms ps fun as=>(k as).toPM
 | [],_,_=>rfl
 | (true,p)::ps,ms,k=>by simp only [zFf,zEm,zGC]
 | (false,p)::ps,ms,k=>by simp only [zFf,zEm,zDd,zFw,zGC]
theorem zLp:∀ {rs:List Nat} {k:List PV→PX},(zRW rs k).toPM=zNY rs fun ps=>(k ps).toPM
 | [],_=>rfl
 | r::rs,k=>by simp only [zRW,zNY,PX.toPM,zLp]
theorem zOJ:∀ {rs:List Nat} {os ps:List PV} {k:PX},(zT2 rs os ps k).toPM=zNF rs os ps k.toPM
 | [],[],[],_=>rfl
 | r::rs,o::os,p::ps,k=>by simp only [zT2,zNF,PX.toPM,zOJ]
 | [],[],_::_,_=>rfl
 | [],_::_,_,_=>rfl
 | _::_,[],_,_=>rfl
 | _::_,_::_,[],_=>rfl
theorem zMz:∀ {n:Nat} {R:List Nat} {k:List Nat→PX},(zO3 n R k).toPM=zKl n R fun R=>(k R).toPM
 | 0,_,_=>rfl
 | n+1,R,k=>by simp only [zO3,zKl,zLp,zDd,zMz]
theorem zH6:∀ {rs:List Nat} {k:PX},(zHf rs k).toPM=zKM rs k.toPM
 | [],_=>rfl
 | r::rs,k=>by simp only [zHf,zKM,PX.toPM,zH6]
theorem zSm {d:Option Nat} {f:FuncId} {as:List Arg} {again:PX}:(zO8 d f as again).toPM=zSu d f as again.toPM:=by
 simp only [zO8,zSu,zMz,zDd,zLp,PX.toPM,zMX,zH6,zOJ,zEU]
theorem zQN {d:Option Nat} {f:FuncId} {args:List PV}:(zRR H d f args).toPM=zN0 H d f args:=by
 simp only [zRR,zN0,zFH,zFe,zSm,zGC,PX.toPM]
def zSy (d:Option Nat) (args:List Operand) (g:PV):PX :=
 match g with
 | .func g first caps=>zQe args fun as => .pure d g (first++as++caps) (zRR H d g (first++as++caps))
 | _ => .fail
theorem zQ4 {d:Option Nat} {args:List Operand} {g:PV}:(zSy H d args g).toPM=zS6 H d args g:=by
 cases g<;>first | rfl | skip
 simp only [zSy,zS6,zIp,PX.toPM,zQN]
def zN9 (d:Option Nat) (sz:Nat) (base:PV) (ys:List PV):PX :=
 .test (ys.all (fun y=>Nat.beq y.cells.length sz&&y.cells.all fun q=>q.oneCell)) (.test (zBt ys).isEmpty (
 match base with
 | .bor r pre z lo n => .deep r pre fun q=>match q with
  | .own s xs =>
   .test (Nat.beq s sz) (.test (Nat.ble (lo+n) xs.length) (.test (Nat.ble (xs.length+ys.length) zA1) (
    .choose (Nat.beq (lo+n) xs.length) (.test (Nat.beq lo 0) (.wnode r pre .bad (zGq d (.own sz (xs++ys))))) (.emb (zLz d r pre z lo n s xs ys)))))
  | _ => .fail
 | .nils _ => .test (Nat.ble ys.length zA1) (zGq d (.own sz ys))
 | _ => .fail))
theorem zPw {d:Option Nat} {sz:Nat} {base:PV} {ys:List PV}:(zN9 d sz base ys).toPM=zLI d sz base ys:=by
 cases base<;>simp only [zN9,zLI,PX.toPM,zDe,zBw]
 congr 1;congr 1;congr 1;funext q
 cases q<;>first | rfl | skip
 simp only [PX.toPM,zBw]
def zVr (x:Operand) (k:List PV→PX):PX :=
 match x with
 | .tmp t => .get t fun p=>match p with
  | .own _ xs => .set t .bad (k xs)
  | _ => .view t fun p=>zK3 p fun xs => .test (xs.all (fun x=>x.plain)) (k xs)
 | x=>zGS x fun p=>zK3 p fun xs => .test (xs.all (fun x=>x.plain)) (k xs)
theorem zTB {x:Operand} {k:List PV→PX}:(zVr x k).toPM=zNP x fun l=>(k l).toPM:=by
 cases x<;>simp only [zVr,zNP,PX.toPM,zCa,zKj,zBy]
 congr 1;funext p
 cases p<;>first | rfl | simp only [PX.toPM,zKj,zBy]
def zLB (d:Option Nat) (b:Builtin) (ts:List TypeId) (args:List Operand):PX :=
 match b,args,ts with
 | .len,[x],t::_=>zGS x fun p=>match P.underlying t with
  | some (.array n _)=>zGq d (.int .i64 n)
  | some (.slice _) => .num (lenOf p) fun n=>zGq d (.int .i64 n)
  | _ => .fail
 | .append,[x,y],[t,t2]=>bif (zBS P t2).isNone then .fail else match (zBS P t).bind (szT P),(zBS P t).bind (zIg P),(zBS P t).bind (zCD P) with
  | some sz,some by_,some z=>if by_≤16384∧z.cells.length=sz then zGS x fun base=>zVr y fun ys=>zN9 d sz base ys else .fail
  | _,_,_ => .fail
 | .max,xs,_=>zQe xs fun ps => .pick (zWL ps) fun v=>zGq d v
 | .min,xs,_=>zQe xs fun ps => .pick (zW6 ps) fun v=>zGq d v
 | b,args,ts => .emb (zBr P d b ts args)
theorem zNm {d:Option Nat} {b:Builtin} {ts:List TypeId} {args:List Operand}:(zLB P d b ts args).toPM=zBr P d b ts args:=by
 unfold zLB
 split
 ·simp only [zCa,zBr]
  congr 1;funext p
  generalize P.underlying _=u
  cases u with
  | none=>rfl
  | some u =>
   cases u<;>first | rfl | exact zBw | skip
   simp only [PX.toPM,zBw]
   cases lenOf p<;>simp only [PX.toPM,zBw]
 ·simp only [zBr,zDd]
  congr 1
  generalize (zBS P _).bind (szT P)=a1
  generalize (zBS P _).bind (zIg P)=a2
  generalize (zBS P _).bind (zCD P)=a3
  cases a1<;>cases a2<;>cases a3<;>first | rfl | simp only [zOr,zCa,zTB,zPw,PX.toPM]
 ·simp only [zBr,zIp,PX.toPM,zBw]
  congr 1;funext ps
  cases zWL ps<;>simp only [PX.toPM,zBw]
 ·simp only [zBr,zIp,PX.toPM,zBw]
  congr 1;funext ps
  cases zW6 ps<;>simp only [PX.toPM,zBw]
 ·rfl
end
end Go.Eng
namespace Go.Eng
open Go
section
variable (P:Program) (H:zBl)
def zWd {α:Type} (x:Option α) (k:α→PX):PX :=
 match x with
 | some a=>k a
 | none => .fail
theorem zJM {α:Type} {x:Option α} {k:α→PX}:(zWd x k).toPM=zIm x fun a=>(k a).toPM:=by cases x<;>rfl
theorem zJt {x:Option PV} {k:PV→PX}:(PX.pick x k).toPM=zIm x fun a=>(k a).toPM:=by cases x<;>rfl
def zPg (p:PV) (k:PV→PX) (k2:PX):PX :=
 match p with
 | .bor r pre _ lo n => .deep r pre fun q=>match q with
  | .own sz xs => .choose (Nat.beq lo 0&&Nat.beq n xs.length) (.wnode r pre .bad (k (.own sz xs))) k2
  | _=>k2
 | .bmap r pre => .deep r pre fun q=>match q with
  | .omap es => .wnode r pre .bad (k (.omap es))
  | _=>k2
 | p=>k p
theorem zMI {p:PV} {k:PV→PX} {k2:PX}:(zPg p k k2).toPM=zNL p (fun q=>(k q).toPM) k2.toPM:=by
 cases p<;>simp only [zPg,zNL,PX.toPM]
 all_goals
  congr 1;funext q
  cases q<;>rfl
def zTp (p:PV) (k:PV→PX):PX:=zPg p k (zP4 zAb zDw p k)
theorem zOB {p:PV} {k:PV→PX}:(zTp p k).toPM=zMY p fun q=>(k q).toPM:=by simp only [zTp,zMY,zMI,zFw]
def zPo:List PV→(List PV→PX)→PX
 | [],k=>k []
 | p::ps,k=>zPg p (fun q=>zPo ps fun qs=>k (q::qs)) .fail
theorem zMq:∀ {ps:List PV} {k:List PV→PX},(zPo ps k).toPM=zJw ps fun qs=>(k qs).toPM
 | [],_=>rfl
 | p::ps,k=>by simp only [zPo,zJw,zMI,zMq,PX.toPM]
def zQH:PV→Bool
 | .bor .. | .bmap .. | .bsl .. => true
 | _=>false
def zJK (tk:Bool) (p:PV) (k:PV→PX):PX :=
 match p with
 | .agg cs=>bif tk then zPo cs fun cs=>k (.agg cs) else .choose (cs.any zQH) (zP4 zAb zDw p k) (k p)
 | .bsl .. => zP4 zAb zDw p k
 | .bor .. | .bmap .. => bif tk then zTp p k else zP4 zAb zDw p k
 | p=>k p
theorem zHB {tk:Bool} {p:PV} {k:PV→PX}:(zJK tk p k).toPM=zFY tk p fun q=>(k q).toPM:=by
 cases p<;>simp only [zJK,zFY,zDd,zMq,zOB,zFw,PX.toPM]
 rfl
def zIA (tk:Bool):List PV→(List PV→PX)→PX
 | [],k=>k []
 | p::ps,k=>zJK tk p fun q=>zIA tk ps fun qs=>k (q::qs)
theorem zJI {tk:Bool}:∀ {ps:List PV} {k:List PV→PX},(zIA tk ps k).toPM=zGh tk ps fun qs=>(k qs).toPM
 | [],_=>rfl
 | p::ps,k=>by simp only [zIA,zGh,zHB,zJI]
def zPi (r:Nat) (pre:zA0) (i c:Nat) (v:PV):PX :=
 .test (!v.heavy||v.ways.all (fun w => !(zAP r pre w.1 w.2&&Nat.blt pre.length w.2.length))) (.test (v.cells.all (fun q=>q.oneCell)) (.test (!v.cells.isEmpty) (zRJ r pre i c v.cells (.wcells r pre i c v.cells .ok))))
theorem zM2 {r:Nat} {pre:zA0} {i c:Nat} {v:PV}:(zPi r pre i c v).toPM=zHW r pre i c v:=by
 simp only [zPi,zHW,PX.toPM,zQX,zDe]
def zJW (tk:Bool) (r:Nat) (pre:zA0) (v:PV) (k:PV→PX):PX :=
 bif pre.isEmpty && !tk then .view r fun q=>(match q with | .addr .. => k v | _=>zJK tk v k) else zJK tk v k
theorem zMZ {tk:Bool} {r:Nat} {pre:zA0} {v:PV} {k:PV→PX}:(zJW tk r pre v k).toPM=zIy tk r pre v fun q=>(k q).toPM:=by
 simp only [zJW,zIy,zDd,PX.toPM,zHB]
 congr 1;congr 1;funext q
 cases q<;>first | rfl | exact zHB
def zJg (tk:Bool) (r:Nat) (pre:zA0) (i c:Nat) (v:PV):PX :=
 match zQ2 r pre i c v with
 | some m => .deep r (pre++[(i,c)]) fun q=>match q with
  | .own s xs => .test (Nat.ble m xs.length) (.wnode r (pre++[(i,c)]) .bad (.same (.own s ((xs.drop 0).take m)) fun v=>zPi r pre i c v))
  | _ => .fail
 | none=>zJW tk r pre v fun v => .same v fun v=>zPi r pre i c v
theorem zKg {tk:Bool} {r:Nat} {pre:zA0} {i c:Nat} {v:PV}:(zJg tk r pre i c v).toPM=zIe tk r pre i c v:=by
 simp only [zJg,zIe]
 cases zQ2 r pre i c v with
 | none=>simp only [zMZ,PX.toPM,zM2]
 | some m =>
  simp only [PX.toPM]
  congr 1;funext q
  cases q<;>first | rfl | simp only [PX.toPM,zM2]
def zQG (fz tk:Bool) (t:TypeId) (a x:Operand):PX :=
 zGS a fun pa=>match pa,x with
 | .addr r pre i c _,.const (.slice none 0 0)=>zWd ((zBS P t).bind (szT P)) fun s=>if szT P t=some 1 then zJg tk r pre i c (.own s []) else .fail
 | pa,x=>match pa,shT P t,szT P t with
 | .addr r pre i c _,some sh,some n=>(bif fz&&tk then zGS x else zLl x) fun v =>
  .test (Nat.beq v.cells.length n) (.test (v.isAgg==sh.isSome) (zJg (tk && !fz) r pre i c (bif fz && !tk then zAY v else v)))
 | _,_,_ => .fail
theorem zSp {fz tk:Bool} {t:TypeId} {a x:Operand}:(zQG P fz tk t a x).toPM=zPa P fz tk t a x:=by
 simp only [zQG,zPa,zCa]
 congr 1;funext pa
 have key:∀ (sh:Option (Option Nat)) (n:Option Nat),(match pa,sh,n with
   | .addr r pre i c _,some sh,some n=>(bif fz&&tk then zGS x else zLl x) fun v=>PX.test (Nat.beq v.cells.length n) (.test (v.isAgg==sh.isSome) (zJg (tk && !fz) r pre i c (bif fz && !tk then zAY v else v)))
   | _,_,_=>PX.fail).toPM=(match pa,sh,n with
   | .addr r pre i c _,some sh,some n=>(bif fz&&tk then opd x else zOH x) fun v=>bif Nat.beq v.cells.length n&&v.isAgg==sh.isSome then zIe (tk && !fz) r pre i c (bif fz && !tk then zAY v else v) else .fail
   | _,_,_=>PM.fail):=by
  intro sh n
  cases pa<;>first | rfl | skip
  cases sh<;>cases n<;>first | rfl | skip
  cases hc:(fz&&tk)<;>simp only [cond_true,cond_false,zCa,zF8,PX.toPM,zKg,zDe]
 split
 ·simp only [zJM,zOr,zKg,PX.toPM]
 ·rename_i h
  rw [key]
  cases pa<;>first | rfl | skip
  cases x<;>first | rfl | skip
  rename_i v
  cases v<;>first | rfl | skip
  rename_i a n m
  cases a<;>cases n<;>cases m<;>first | rfl | exact (h _ _ _ _ _ rfl rfl).elim
def zIl (d:Option Nat) (p:PV):PX :=
 match d,p with
 | some d',.bor r [] z lo n=>if r=d' then .get r fun root=>match root with
   | .own sz xs => .test (Nat.ble (lo+n) xs.length) (.kill r [] (.same (.own sz ((xs.drop lo).take n)) fun o => .set r o .ok))
   | _ => .fail
  else zGq d p
 | _,_=>zGq d p
theorem zNV {d:Option Nat} {p:PV}:(zIl d p).toPM=zFW d p:=by
 unfold zIl zFW
 split
 ·simp only [zOr,zBw,PX.toPM]
  congr 1;congr 1;funext q
  cases q<;>rfl
 ·rename_i h
  split
  ·exact (h _ _ _ _ _ rfl rfl).elim
  ·exact zBw
def zIW (tk nl:Bool) (d:Option Nat) (t:TypeId) (x:Operand):PX :=
 match x with
 | .const (.slice none 0 0) => .emb (zF7 P tk nl d t x)
 | x=>zLl x fun p=>bif tk then zTp p (zIl d) else zIl d p
theorem zM9 {tk nl:Bool} {d:Option Nat} {t:TypeId} {x:Operand}:(zIW P tk nl d t x).toPM=zF7 P tk nl d t x:=by
 unfold zIW
 split
 ·rfl
 ·rename_i h
  unfold zF7
  split
  ·exact (h rfl).elim
  ·simp only [zF8,zDd,zOB,zNV]
def zSv (d:Option Nat) (t:TypeId) (x:Operand):PX:=zLl x fun p=>match shT P t,szT P t with
 | some sh,some n => .test (decide (p.cells.length=n)) (.test (decide (p.isAgg=sh.isSome)) (.test p.whole (zGq d (.box p))))
 | _,_ => .fail
theorem zQM {d:Option Nat} {t:TypeId} {x:Operand}:(zSv P d t x).toPM=zSF P d t x:=by
 simp only [zSv,zSF,zF8]
 congr 1;funext p
 cases shT P t<;>cases szT P t<;>first | rfl | skip
 simp only [PX.toPM,zBw,zBy,Bool.and_eq_true,decide_eq_true_eq]
 split<;>split<;>(try split)<;>simp_all
def zV7 (nz:Option Nat) (x:Operand) (k:PV→PX):PX :=
 match nz,x with
 | some s,.const (.slice none 0 0)=>k (.own s [])
 | _,x=>zLl x k
def zOz (nz:Option Nat):List Operand→(List PV→PX)→PX
 | [],k=>k []
 | x::xs,k=>zV7 nz x fun p=>zOz nz xs fun ps=>k (p::ps)
theorem zTj {nz:Option Nat} {x:Operand} {k:PV→PX}:(zV7 nz x k).toPM=zXe nz x fun p=>(k p).toPM:=by
 unfold zV7 zXe
 split
 ·rfl
 ·rename_i h
  rw [zF8]
  split
  ·exact (h _ rfl rfl).elim
  ·rfl
theorem zMU {nz:Option Nat}:∀ {xs:List Operand} {k:List PV→PX},(zOz nz xs k).toPM=zQi nz xs fun p=>(k p).toPM
 | [],_=>rfl
 | x::xs,k=>by simp only [zOz,zQi,zTj,zMU]
def zE7 (tk:Bool) (d:Option Nat) (t:TypeId) (n:Nat) (ps:List (Nat×Operand)):PX :=
 match zBS P t with
 | some e=>match szT P e,zCD P e with
  | some s,some z=>if n*s≤65536&&Nat.beq z.cells.length s&&ps.all (fun x=>x.1<n) then zOz (zWs (zCD P e)) (ps.map (·.2)) fun vs=>zIA tk vs fun vs =>
    .sames vs fun vs => .test (zBt vs).isEmpty (.test (vs.all (fun v=>v.cells.length=s&&v.isAgg=z.isAgg&&v.whole)) (zGq d (.own s (zMb n z ((ps.map (·.1)).zip vs)))))
   else .fail
  | _,_ => .fail
 | none => .fail
theorem zIh {tk:Bool} {d:Option Nat} {t:TypeId} {n:Nat} {ps:List (Nat×Operand)}:(zE7 P tk d t n ps).toPM=zDL P tk d t n ps:=by
 simp only [zE7,zDL]
 cases zBS P t with
 | none=>rfl
 | some e =>
  simp only
  generalize szT P e=a1
  generalize zCD P e=a2
  cases a1<;>cases a2<;>first | rfl | skip
  simp only [zOr,zMU,zJI,PX.toPM,zBw]
  congr 1;congr 1;funext vs;congr 1;funext vs
  cases (zBt vs).isEmpty with
  | false=>rfl
  | true=>simp only [cond_true,Bool.true_and,zBy,if_true]
def zPe (d:Option Nat) (sh:Option Nat) (p:PV):PX :=
 match p with
 | .ref q => .test (decide (q.isAgg=sh.isSome)) (.test (decide (q.cells.length=sh.getD 1)) (zGq d q))
 | .addr r pre i c _=>zQZ r pre i c sh (zGq d)
 | _ => .fail
theorem zNe {d:Option Nat} {sh:Option Nat} {p:PV}:(zPe d sh p).toPM=zQg d sh p:=by
 cases p<;>simp only [zPe,zQg,PX.toPM,zK0,zBw]
 simp only [zBy,Bool.and_eq_true,decide_eq_true_eq]
 split<;>split<;>simp_all
def zN5 (tk:Bool) (d:Option Nat) (t:TypeId) (a:Operand):PX:=zWd (shT P t) fun sh=>zGS a fun p =>
 bif tk then (match p with
  | .addr r pre i c _=>zQZ r pre i c sh fun v=>zP4 zAb zDw v (zGq d)
  | p=>zPe d sh p) else zPe d sh p
theorem zPP {tk:Bool} {d:Option Nat} {t:TypeId} {a:Operand}:(zN5 P tk d t a).toPM=zO2 P tk d t a:=by
 simp only [zN5,zO2,zJM,zCa,zDd,zNe]
 congr 1;funext sh;congr 1;funext p;congr 1
 cases p<;>simp only [zNe,zK0,zFw,zBw]
def zSq (d:Option Nat) (op:BinOp) (t:TypeId) (x y:Operand):PX:=zGS x fun p=>zGS y fun q => .pick (zHx P op t p q) (zGq d)
theorem zRi {d:Option Nat} {op:BinOp} {t:TypeId} {x y:Operand}:(zSq P d op t x y).toPM=zTs P d op t x y:=by
 simp only [zSq,zTs,zCa,zJt,zBw]
def zZq (d:Option Nat) (op:UnOp) (p:PV):PX :=
 match op,p with
 | .not,.bool b=>zGq d (.bool !b)
 | .neg,.int k n=>zGq d (.int k (k.wrap (0-n)))
 | _,_ => .fail
theorem zUS {d:Option Nat} {op:UnOp} {p:PV}:(zZq d op p).toPM=unV d op p:=by
 cases op<;>cases p<;>first | rfl | exact zBw
def zQW (d:Option Nat) (t:TypeId) (p:PV):PX :=
 match P.underlying t,p with
 | some (.int k),.int _ n=>zGq d (.int k (k.wrap n))
 | _,_ => .fail
theorem zRC {d:Option Nat} {t:TypeId} {p:PV}:(zQW P d t p).toPM=zQ3 P d t p:=by
 simp only [zQW,zQ3]
 cases P.underlying t with
 | none=>rfl
 | some u=>cases u<;>cases p<;>first | rfl | exact zBw
def zF1 (d:Option Nat) (t:TypeId) (l c:Operand):PX :=
 zGS l fun l=>zF0 l fun l=>zGS c fun c=>zF0 c fun c=>match zBS P t with
 | some e=>match zCD P e,szT P e,zIg P e with
  | some z,some s,some b => .test (decide (l≤c)) (.test (decide (c≤zA1)) (.test (decide (b≤16384∧z.cells.length=s)) (zGq d (.own s (List.replicate l z)))))
  | _,_,_ => .fail
 | none => .fail
theorem zJA {d:Option Nat} {t:TypeId} {l c:Operand}:(zF1 P d t l c).toPM=zFb P d t l c:=by
 simp only [zF1,zFb,zCa,zET]
 congr 1;funext p;congr 1;funext l;congr 1;funext q;congr 1;funext c
 cases zBS P t with
 | none=>rfl
 | some e =>
  simp only
  generalize zCD P e=a1
  generalize szT P e=a2
  generalize zIg P e=a3
  cases a1<;>cases a2<;>cases a3<;>first | rfl | skip
  simp only [PX.toPM,zBw,zBy,decide_eq_true_eq]
  by_cases h1:l≤c<;>by_cases h2:c≤zA1<;>simp [h1,h2]
def zNI (d:Option Nat) (n:Nat) (e:TypeId) (p:PV) (i:Nat):PX :=
 match szT P e,shT P e with
 | some s,some sh => .test (decide (i<n)) (.pick (zCo p (i*s) sh) (zGq d))
 | _,_ => .fail
def zSl (d:Option Nat) (e:TypeId) (p:PV) (i:Nat):PX :=
 match p with
 | .sl xs => .pick (xs[i]?) fun x => .test (decide (szT P e=some x.cells.length)) (zGq d (.ref x))
 | .bor r pre z lo n=>match shT P e with
  | some sh => .test (decide (i<n)) (.test (decide (szT P e=some z)) (.num (some (lo+i)) fun j=>zGq d (.addr r pre j 0 sh)))
  | none => .fail
 | .bsl r pre j c s ag n => .test (decide (i<n)) (.test (decide (szT P e=some s)) (.num (some (c+i*s)) fun c=>zGq d (.addr r pre j c (if ag then some s else none))))
 | _ => .fail
theorem zP2 {d:Option Nat} {n:Nat} {e:TypeId} {p:PV} {i:Nat}:(zNI P d n e p i).toPM=zPs P d n e p i:=by
 simp only [zNI,zPs]
 generalize szT P e=a1
 generalize shT P e=a2
 cases a1<;>cases a2<;>first | rfl | skip
 simp only [PX.toPM,zJt,zBw,zBy,decide_eq_true_eq]
theorem zQ1 {d:Option Nat} {e:TypeId} {p:PV} {i:Nat}:(zSl P d e p i).toPM=zSA P d e p i:=by
 cases p<;>simp only [zSl,zSA,PX.toPM,zJt,zBw]
 ·congr 1;funext x;simp only [zBy,decide_eq_true_eq]
 ·cases shT P e with
  | none=>rfl
  | some sh =>
   simp only [PX.toPM,zBw,zBy,decide_eq_true_eq]
   split<;>split<;>simp_all
 ·simp only [zBy,decide_eq_true_eq]
  split<;>split<;>simp_all
def zFX (d:Option Nat) (t:TypeId) (x i:Operand):PX :=
 zGS x fun p=>zGS i fun i=>zF0 i fun i=>match P.underlying t with
 | some (.array n e)=>zNI P d n e p i
 | some (.slice e)=>zSl P d e p i
 | _ => .fail
theorem zJN {d:Option Nat} {t:TypeId} {x i:Operand}:(zFX P d t x i).toPM=zFk P d t x i:=by
 simp only [zFX,zFk,zCa,zET]
 congr 1;funext p;congr 1;funext q;congr 1;funext i
 cases P.underlying t with
 | none=>rfl
 | some u=>cases u<;>first | rfl | exact zP2 P | exact zQ1 P
def zLL (d:Option Nat) (t:TypeId) (x i:Operand):PX :=
 zGS x fun p=>zGS i fun i=>zF0 i fun i=>match P.underlying t with
 | some (.array n e)=>match szT P e,shT P e with
  | some s,some sh => .test (decide (i<n)) (.pick (sub p (i*s) sh) (zGq d))
  | _,_ => .fail
 | _ => .fail
theorem zNA {d:Option Nat} {t:TypeId} {x i:Operand}:(zLL P d t x i).toPM=zLM P d t x i:=by
 simp only [zLL,zLM,zCa,zET]
 congr 1;funext p;congr 1;funext q;congr 1;funext i
 cases P.underlying t with
 | none=>rfl
 | some u =>
  cases u<;>first | rfl | skip
  rename_i n e
  simp only
  generalize szT P e=a1
  generalize shT P e=a2
  cases a1<;>cases a2<;>first | rfl | skip
  simp only [PX.toPM,zJt,zBw,zBy,decide_eq_true_eq]
def zWf (x:Option Operand) (n:Nat) (k:Nat→PX):PX :=
 match x with
 | some x=>zGS x fun p=>zF0 p k
 | none=>k n
theorem zSa {x:Option Operand} {n:Nat} {k:Nat→PX}:(zWf x n k).toPM=zSE x n fun m=>(k m).toPM:=by
 cases x with
 | none=>rfl
 | some x=>simp only [zWf,zSE,zCa,zET]
def zNi (d:Option Nat) (s:Nat) (p:PV) (l h:Nat):PX :=
 match p with
 | .sl xs => .test (Nat.ble l h) (.test (Nat.ble h xs.length) (.test (xs.all (fun x=>Nat.beq x.cells.length s)) (zGq d (.sl ((xs.drop l).take (h-l))))))
 | .bor r pre z a n =>
  .test (Nat.beq z s) (.test (Nat.ble l h) (
   .choose (Nat.ble h n) (.choose (Nat.beq l 0||Nat.blt l h) (zGq d (.bor r pre z (a+l) (h-l))) (zGq d (.sl [])))
   (.deep r pre fun q=>match q with
    | .own _ xs => .test (Nat.ble (a+h) xs.length) (.choose (Nat.beq l 0||Nat.blt l h) (zGq d (.bor r pre z (a+l) (h-l))) (zGq d (.sl [])))
    | _ => .fail)))
 | _ => .fail
theorem zSP {d:Option Nat} {b:Bool} {p q:PV}:put d (bif b then p else q)=bif b then put d p else put d q:=by cases b<;>rfl
theorem zPV {d:Option Nat} {s:Nat} {p:PV} {l h:Nat}:(zNi d s p l h).toPM=zOt d s p l h:=by
 cases p<;>simp only [zNi,zOt,PX.toPM,zBw,zDe,zSP]
 congr 1;congr 1;congr 1;congr 1;funext q
 cases q<;>first | rfl | simp only [PX.toPM,zBw]
def zNM (d:Option Nat) (n s:Nat) (sh:Option Nat) (p:PV) (l h:Nat):PX :=
 .test (Nat.ble l h) (.test (Nat.ble h n) (.test (Nat.beq l 0||Nat.blt l n) (
  match p with
  | .addr r pre i c _ => .num (some (h-l)) fun m=>zGq d (.bsl r pre i (c+l*s) s sh.isSome m)
  | .ref (.agg cs) => .test (Nat.ble (n*s) cs.length) (.test (zCm sh.isSome s (h-l) ((cs.drop (l*s)).take ((h-l)*s))) (.test (zBt cs).isEmpty (zGq d (.sl (zCk sh.isSome s (h-l) ((cs.drop (l*s)).take ((h-l)*s)))))))
  | _ => .fail)))
theorem zPz {d:Option Nat} {n s:Nat} {sh:Option Nat} {p:PV} {l h:Nat}:(zNM d n s sh p l h).toPM=zQ7 d n s sh p l h:=by
 cases p<;>simp only [zNM,zQ7,PX.toPM,zBw,zDe]
 rename_i q
 cases q<;>simp only [PX.toPM,zBw,zDe]
def zSf (d:Option Nat) (t:TypeId) (x:Operand) (lo hi mx:Option Operand):PX :=
 match mx with
 | some m => .emb (zIY P d t x lo hi (some m))
 | none=>zGS x fun p=>match P.underlying t with
  | some (.array n e)=>match szT P e,shT P e with
   | some s,some sh=>zWf hi n fun h=>zWf lo 0 fun l=>zNM d n s sh p l h
   | _,_ => .fail
  | some (.slice e)=>match szT P e,lenOf p with
   | some s,some n=>zWf hi n fun h=>zWf lo 0 fun l=>zNi d s p l h
   | _,_ => .fail
  | _ => .fail
theorem zQS {d:Option Nat} {t:TypeId} {x:Operand} {lo hi mx:Option Operand}:(zSf P d t x lo hi mx).toPM=zIY P d t x lo hi mx:=by
 cases mx with
 | some _=>rfl
 | none =>
  simp only [zSf,zIY,zCa]
  congr 1;funext p
  cases P.underlying t with
  | none=>rfl
  | some u =>
   cases u<;>first | rfl | skip
   ·rename_i e
    simp only
    generalize szT P e=a1
    generalize lenOf p=a2
    cases a1<;>cases a2<;>first | rfl | simp only [zSa,zPV]
   ·rename_i n e
    simp only
    generalize szT P e=a1
    generalize shT P e=a2
    cases a1<;>cases a2<;>first | rfl | simp only [zSa,zPz]
def zIQ (es:List (PV×PV)) (i:Nat):Option PV:=(es[i]?).map (·.2)
def zIT (d:Option Nat) (kt:TypeId) (z key:PV) (ok:Bool) (es:List (PV×PV)):PX :=
 .idx (zDc P kt key es 0) fun x=>match x with
 | some i => .pick (zIQ es i) fun v => .test v.lone (zE0 d (if ok then .tup [v,.bool true] else v))
 | none=>zE0 d (if ok then .tup [z,.bool false] else z)
theorem zKH {d:Option Nat} {kt:TypeId} {z key:PV} {ok:Bool} {es:List (PV×PV)}:(zIT P d kt z key ok es).toPM=zJS P d kt z key ok es:=by
 simp only [zIT,zJS,PX.toPM]
 cases zDc P kt key es 0 with
 | none=>rfl
 | some x =>
  cases x with
  | none=>exact zEU
  | some i =>
   show (PX.pick (zIQ es i) fun v => .test v.lone (zE0 d (if ok then .tup [v,.bool true] else v))).toPM=_
   rw [zJt]
   simp only [zIQ,PX.toPM,zEU]
   cases es[i]?<;>rfl
def zQA (d:Option Nat) (kt:TypeId) (z key:PV) (ok:Bool) (m:PV):PX :=
 match m with
 | .nilm=>zIT P d kt z key ok []
 | .map es=>zIT P d kt z key ok es
 | .bmap r pre => .deep r pre fun q=>match q with
  | .omap es=>zIT P d kt z key ok es
  | _ => .fail
 | _ => .fail
theorem zRS {d:Option Nat} {kt:TypeId} {z key:PV} {ok:Bool} {m:PV}:(zQA P d kt z key ok m).toPM=zTc P d kt z key ok m:=by
 cases m<;>first | rfl | exact zKH P | skip
 simp only [zQA,zTc,PX.toPM]
 congr 1;funext q
 cases q<;>first | rfl | exact zKH P
def zJE (d:Option Nat) (t:TypeId) (m x:Operand) (ok:Bool):PX :=
 zGS m fun m=>zGS x fun key=>match P.underlying t with
 | some (.map kt e) => .test (zOV P 20 kt key) (zWd (zCD P e) fun z => .test (zI8 z).lone (zQA P d kt (zI8 z) key ok m))
 | _ => .fail
theorem zL9 {d:Option Nat} {t:TypeId} {m x:Operand} {ok:Bool}:(zJE P d t m x ok).toPM=zIH P d t m x ok:=by
 simp only [zJE,zIH,zCa]
 congr 1;funext p;congr 1;funext q
 cases P.underlying t with
 | none=>rfl
 | some u=>cases u<;>first | rfl | simp only [PX.toPM,zJM,zRS]
def zT8 (es:List (PV×PV)) (k:List (PV×PV)→PX):PX := .same (.omap es) fun q=>match q with
 | .omap es=>k es
 | _ => .fail
def zN1 (kt:TypeId) (key v m:PV):PX :=
 match m with
 | .bmap r pre => .test v.lone (.deep r pre fun q=>match q with
  | .omap es => .idx (zDc P kt key es 0) fun x=>match x with
   | some i=>zT8 (es.modify i fun _=>(key,v)) fun es => .wnode r pre (.omap es) .ok
   | none=>zT8 (es++[(key,v)]) fun es => .wnode r pre (.omap es) .ok
  | _ => .fail)
 | _ => .fail
theorem zPQ {kt:TypeId} {key v m:PV}:(zN1 P kt key v m).toPM=zMG P kt key v m:=by
 cases m<;>first | rfl | skip
 simp only [zN1,zMG,PX.toPM]
 congr 1;congr 1;funext q
 cases q<;>first | rfl | skip
 rename_i es
 simp only [PX.toPM]
 cases zDc P kt key es 0 with
 | none=>rfl
 | some x=>cases x<;>rfl
def zFz (t:TypeId) (m x y:Operand):PX:=zGS m fun m=>zGS x fun key=>match P.underlying t with
 | some (.map kt _) => .test (zOV P 20 kt key&&key.flat) (zLl y fun v=>zP4 zAb zDw v fun v=>zN1 P kt key (zAY v) m)
 | _ => .fail
theorem zJc {t:TypeId} {m x y:Operand}:(zFz P t m x y).toPM=zFh P t m x y:=by
 simp only [zFz,zFh,zCa]
 congr 1;funext p;congr 1;funext q
 cases P.underlying t with
 | none=>rfl
 | some u=>cases u<;>first | rfl | simp only [PX.toPM,zF8,zFw,zPQ]
def zUo (es:List (PV×PV)) (i:Nat):Option PV:=(es[i]?).map (·.1)
def zNU (d:Option Nat) (kt:TypeId) (z key m:PV):PX :=
 match m with
 | .bmap r pre => .deep r pre fun q=>match q with
  | .omap es => .idx (zDc P kt key es 0) fun x=>match x with
   | some i => .pick (zIQ es i) fun v => .test v.lone (.wnode r pre (.omap (es.modify i fun _=>(key,v))) (zE0 d (.tup [v,.int .i64 i])))
   | none => .wnode r pre (.omap (es++[(key,z)])) (zE0 d (.tup [z,.int .i64 es.length]))
  | _ => .fail
 | _ => .fail
theorem zQb {d:Option Nat} {kt:TypeId} {z key m:PV}:(zNU P d kt z key m).toPM=zOC P d kt z key m:=by
 cases m<;>first | rfl | skip
 simp only [zNU,zOC,PX.toPM]
 congr 1;funext q
 cases q<;>first | rfl | skip
 rename_i es
 simp only [PX.toPM]
 cases zDc P kt key es 0 with
 | none=>rfl
 | some x =>
  cases x with
  | none=>simp only [PX.toPM,zEU]
  | some i =>
   simp only [PX.toPM,zIQ]
   cases es[i]? with
   | none=>rfl
   | some kv=>obtain ⟨k,v⟩:=kv;simp only [Option.map_some,PX.toPM,zEU]
def zGR (d:Option Nat) (t:TypeId) (m x:Operand):PX:=zGS m fun m=>zGS x fun key=>match P.underlying t with
 | some (.map kt el) => .test (zOV P 20 kt key&&key.flat) (zWd (zCD P el) fun z => .test (zI8 z).lone (zNU P d kt (zI8 z) key m))
 | _ => .fail
theorem zJ9 {d:Option Nat} {t:TypeId} {m x:Operand}:(zGR P d t m x).toPM=zGc P d t m x:=by
 simp only [zGR,zGc,zCa]
 congr 1;funext p;congr 1;funext q
 cases P.underlying t with
 | none=>rfl
 | some u=>cases u<;>first | rfl | simp only [PX.toPM,zJM,zQb]
def zJq (i:Nat) (v m:PV):PX :=
 match m with
 | .bmap r pre => .test v.lone (.deep r pre fun q=>match q with
  | .omap es => .pick (zUo es i) fun k => .wnode r pre (.omap (es.modify i fun _=>(k,v))) .ok
  | _ => .fail)
 | _ => .fail
theorem zMB {i:Nat} {v m:PV}:(zJq i v m).toPM=zIo i v m:=by
 cases m<;>first | rfl | skip
 simp only [zJq,zIo,PX.toPM]
 congr 1;congr 1;funext q
 cases q<;>first | rfl | skip
 rename_i es
 simp only [PX.toPM,zUo]
 cases es[i]? with
 | none=>rfl
 | some kv=>obtain ⟨k,x⟩:=kv;rfl
def zE1 (m s y:Operand):PX:=zGS m fun m=>zGS s fun s=>zF0 s fun i=>zLl y fun v=>zP4 zAb zDw v fun v=>zJq i (zAY v) m
theorem zIj {m s y:Operand}:(zE1 m s y).toPM=zEs m s y:=by
 simp only [zE1,zEs,zCa,zET,zF8,zFw,zMB]
def zN3 (d:Option Nat) (c:Call):PX :=
 match c.callee with
 | .builtin b=>zLB P d b c.argTypes.toList c.args.toList
 | .value f=>zGS f (zSy H d c.args.toList)
 | _ => .fail
theorem zQn {d:Option Nat} {c:Call}:(zN3 P H d c).toPM=zI7 P H d c:=by
 simp only [zN3,zI7]
 cases c.callee<;>simp only [PX.toPM,zNm,zCa,zQ4]
def opX (fz tk nl:Bool) (o:Oper):PX :=
 match o.op with
 | .assign x=>zIW P tk nl o.dst o.type x
 | .box t x=>zSv P o.dst t x
 | .buildSlice t n ps=>zE7 P tk o.dst t n ps.toList
 | .load t a=>zN5 P tk o.dst t a
 | .store t a x=>zQG P fz tk t a x
 | .binOp op t x y _=>zSq P o.dst op t x y
 | .unOp op _ x=>zGS x (zZq o.dst op)
 | .convert _ t x=>zGS x (zQW P o.dst t)
 | .makeSlice t l c=>zF1 P o.dst t l c
 | .slice t x lo hi mx=>zSf P o.dst t x lo hi mx
 | .indexAddr t x i=>zFX P o.dst t x i
 | .index t x i=>zLL P o.dst t x i
 | .lookup t m x ok=>zJE P o.dst t m x ok
 | .mapUpdate t m x y=>zFz P t m x y
 | .mapEntry t m x=>zGR P o.dst t m x
 | .entryStore _ m s x=>zE1 m s x
 | .call c=>zN3 P H o.dst c
 | _ => .emb (opM P H fz tk nl o)
theorem zXr {fz tk nl:Bool} {o:Oper}:(opX P H fz tk nl o).toPM=opM P H fz tk nl o:=by
 obtain ⟨dst,op,type,pos,after,guard⟩:=o
 cases op<;>simp only [opX,opM,PX.toPM,zM9,zQM,zIh,zPP,zSp,zRi,zCa,zUS,zRC,zJA,zQS,zJN,zNA,zL9,zJc,zJ9,zIj,zQn]
end
end Go.Eng
namespace Go.Eng
open Go
section
variable [Yo] {P:Program} {H:zBl} {f:FuncId} {nt:Nat} {e e':Env} {lg:Option Log} {K:X→Env→Option Log→Prop} {i:Nat} {c:Code} {s:RS} {R:Env→Option Log→Prop}
abbrev zY8 (P:Program) (H:zBl) (f:FuncId) (c:Code) (i:Nat):PX:=opX P H (((H f).frzs (rid c)).contains i) (((H f).take (rid c)).contains i) (H f).nils (zD4 c i)
def zWc [Yo] (P:Program) (H:zBl) (f:FuncId) (c:Code) (i:Nat) (as:Ans) (s:RS):Option (RS×List Prop) :=
 match (zY8 P H f c i).run P H as s.e with
 | some (e',t,obs)=>(zRP c i s e' t).map fun s'=>(s',obs)
 | none=>none
def rsX (o:Option (RS×List Prop)):RS:=zWi (o.map (·.1))
theorem S_x (as:Ans) (obs:List Prop) (ho:zT4 obs) (h:WS P H f c (i+1) (rsX (zWc P H f c i as s)) R) (hq:(zWc P H f c i as s).map (·.2)=some obs:=by kernel_rfl) (hi:Nat.blt i (zFr c).size=true:=by kernel_rfl):WS P H f c i s R:=by
 obtain ⟨⟨s',obs'⟩,hs,hq⟩:=Option.map_eq_some_iff.1 hq
 simp only at hq;subst hq
 simp only [zWc] at hs
 split at hs
 ·rename_i e1 t obs hr
  obtain ⟨s1,h1,h2⟩:=Option.map_eq_some_iff.1 hs
  simp only [Prod.mk.injEq] at h2
  obtain ⟨rfl,rfl⟩:=h2
  obtain ⟨n0,hn⟩:=PX.run_ok hr ho
  refine zYC (m:=some (e1,t)) ⟨n0,fun n vm=>?_⟩ ?_ ?_ hi
  ·have:=hn n vm
   rw [zXr] at this
   exact this
  ·simpa [rsX,zWc,hr,h1] using h
  ·simp [h1]
 ·cases hs
def zUP (p:PV) (k:PV→PX) (k2:PX):PX :=
 match p with
 | .bor r pre _ lo n => .deep r pre fun q=>match q with
  | .own sz xs => .choose (Nat.ble (lo+n) xs.length) (.wnode r pre .bad (.same (.own sz ((xs.drop lo).take n)) k)) k2
  | _=>k2
 | .addr r pre 0 0 _ => .deep r pre fun q=>match q with
  | .box q => .wnode r pre .bad (k (.box q))
  | _=>k2
 | .bmap r pre => .deep r pre fun q=>match q with
  | .omap es => .wnode r pre .bad (k (.omap es))
  | _=>k2
 | _=>k2
omit [Yo] in
theorem zS5 {p:PV} {k:PV→PX} {k2:PX}:(zUP p k k2).toPM=zRo p (fun q=>(k q).toPM) k2.toPM:=by
 unfold zUP zRo
 split
 ·simp only [PX.toPM]
  congr 1;funext q
  cases q<;>rfl
 ·simp only [PX.toPM]
  congr 1;funext q
  cases q<;>rfl
 ·simp only [PX.toPM]
  congr 1;funext q
  cases q<;>rfl
 ·rename_i h1 h2 h3
  split
  ·exact (h1 _ _ _ _ _ rfl).elim
  ·exact (h2 _ _ _ rfl).elim
  ·exact (h3 _ _ rfl).elim
  ·rfl
def zK7 (frz:Bool) (p:PV) (k:PV→PX):PX :=
 bif frz||p.ways.any (fun w=>Nat.ble zAn w.1) then zP4 zAn zDw p k else zUP p k (zP4 zAn zDw p k)
def zEq (frz:Bool):List PV→(List PV→PX)→PX
 | [],k=>k []
 | p::ps,k=>zK7 frz p fun q=>zEq frz ps fun qs=>k (q::qs)
def zIx (frz:Bool) (p:PV) (k:PV→PX):PX :=
 match p with
 | .agg cs => .choose (cs.all fun q=>q.num) (k (.agg cs)) (zEq frz cs fun qs=>k (.agg qs))
 | p=>zK7 frz p k
omit [Yo] in
theorem zKL {frz:Bool} {p:PV} {k:PV→PX}:(zK7 frz p k).toPM=zFZ frz p fun q=>(k q).toPM:=by
 simp only [zK7,zFZ,zDd,zFw,zS5]
omit [Yo] in
theorem zFL {frz:Bool}:∀ {ps:List PV} {k:List PV→PX},(zEq frz ps k).toPM=zCr frz ps fun qs=>(k qs).toPM
 | [],_=>rfl
 | p::ps,k=>by simp only [zEq,zCr,zKL,zFL]
omit [Yo] in
theorem zNu {frz:Bool} {p:PV} {k:PV→PM} (h:p.num=true):zFZ frz p k=k p:=by
 cases p<;>first | (cases h;done) | skip
 all_goals cases frz<;>rfl
omit [Yo] in
theorem zFR {frz:Bool}:∀ {ps:List PV} {k:List PV→PM},ps.all (fun q=>q.num)=true→zCr frz ps k=k ps
 | [],_,_=>rfl
 | p::ps,k,h=>by
  simp only [List.all_cons,Bool.and_eq_true] at h
  simp only [zCr,zNu h.1,zFR h.2]
omit [Yo] in
theorem zI0 {frz:Bool} {p:PV} {k:PV→PX}:(zIx frz p k).toPM=zGF frz p fun q=>(k q).toPM:=by
 cases p<;>first | exact zKL | skip
 rename_i cs
 simp only [zIx,zGF,PX.toPM,zFL]
 cases h:cs.all fun q=>q.num with
 | false=>rfl
 | true=>simp only [cond_true];exact (zFR (k:=fun qs=>(k (.agg qs)).toPM) h).symm
def zHQ (P:Program) (frz:Bool):Nat→List ResultVar→PX
 | _,[] => .ok
 | j,.tmp t::rs => .view t fun p=>zIx frz p fun q => .same q fun q=>zWe (zAB+j) q (zHQ P frz (j+1) rs)
 | j,.cell a t::rs=>zWd (shT P t) fun sh => .view a fun p=>match p with
  | .addr r pre i c _=>zQZ r pre i c sh fun v=>zIx frz v fun q => .same q fun q=>zWe (zAB+j) q (zHQ P frz (j+1) rs)
  | _ => .fail
omit [Yo] in
theorem zHD {frz:Bool}:∀ {rs:List ResultVar} {j:Nat},(zHQ P frz j rs).toPM=zCK P frz j rs
 | [],_=>rfl
 | .tmp t::rs,j=>by simp only [zHQ,zCK,PX.toPM,zI0,zKN,zHD]
 | .cell a t::rs,j=>by
  simp only [zHQ,zCK,zJM,PX.toPM]
  congr 1;funext sh;congr 1;funext p
  cases p<;>first | rfl | simp only [zK0,zI0,PX.toPM,zKN,zHD]
def zOa [Yo] (P:Program) (H:zBl) (f:FuncId) (fn:Func) (as:Ans) (e:Env) (nh:Nat):Option ((PV×List PV)×List Prop) :=
 match (zHQ P (H f).frz 0 fn.results.toList).run P H as e with
 | some (e',_,obs)=>bif Nat.beq fn.results.size 1&&(e'.get zAB).isTup then none else some ((zVB e' fn.results.size,(List.range nh).map fun j=>e'.get (zAn+j)),obs)
 | none=>none
def zVG [Yo] (P:Program) (H:zBl) (f:FuncId) (fn:Func) (nh:Nat) (v:PV) (hZ:List PV) (x:X) (e:Env) (lg:Option Log):Prop :=
 (x = .norm∨x = .ret)∧lg=none∧∃ n0,∀ n,n0≤n→∃ e',(zCK P (H f).frz 0 fn.results.toList).run (zCX P H n) e=some e'∧(bif Nat.beq fn.results.size 1&&(e'.get zAB).isTup then none else some (zVB e' fn.results.size,(List.range nh).map fun j=>e'.get (zAn+j)))=some (v,hZ)
theorem E_x {fn:Func} {nh:Nat} {v:PV} {h:List PV} {x:X} (as:Ans) (obs:List Prop) (v':PV) (h':List PV) (ho:zT4 obs) (hv:v'=v) (hh:h'=h) (hf:zOa P H f fn as e nh=some ((v',h'),obs):=by kernel_rfl) (hl:lg=none:=by kernel_rfl) (hx:x = .norm∨x = .ret:=by first | exact .inr rfl | exact .inl rfl):zVG P H f fn nh v h x e lg:=by
 subst hv;subst hh
 simp only [zOa] at hf
 split at hf
 ·rename_i e1 t obs' hr
  rcases zBk hf with ⟨_,hf⟩ | ⟨hb,hf⟩
  ·cases hf
  ·simp only [Option.some.injEq,Prod.mk.injEq] at hf
   obtain ⟨⟨h1,h2⟩,rfl⟩:=hf
   obtain ⟨n0,hn⟩:=PX.run_ok hr ho
   refine ⟨hx,hl,n0,fun n vm=>⟨e1,?_,?_⟩⟩
   ·have:=hn n vm
    rw [zHD] at this
    exact zEg this
   ·rw [hb];simp only [cond_false,h1,h2]
 ·cases hf
theorem zAf (fn:Func) {args hid:List PV} {v:PV} {hZ:List PV} (h:W P H f fn.ntmps (fn.body.getD .ret) (zBc args hid) none (zVG P H f fn hid.length v hZ)) (hf:P.funcs[f]? = some fn:=by kernel_rfl) (hi:(H f).intr=0:=by kernel_rfl) (hb:fn.body.isSome=true:=by kernel_rfl)
  (hc:(Nat.ble args.length fn.ntmps&&Nat.ble hid.length 1000&&args.all (fun p => !p.isTup))=true:=by kernel_rfl):zDs P H f args hid v hZ:=by
 obtain ⟨body,hb⟩:∃ body,fn.body=some body:=by cases hx:fn.body<;>first | exact ⟨_,rfl⟩ | (rw [hx] at hb;cases hb)
 simp only [hb,Option.getD_some] at h
 obtain ⟨n0,x,e1,lg1,h1,hx,rfl,n1,hr⟩:=h
 refine ⟨max n0 n1+1,fun n hn=>?_⟩
 obtain ⟨n,rfl⟩:∃ k,n=k+1:=⟨n-1,by omega⟩
 have j5:=h1 n (n+1) (by omega) (by omega)
 obtain ⟨e2,h2,hr⟩:=hr n (by omega)
 show zIO P H (zCX P H n) Yo.yo zCd (n+1) f args hid=_
 simp only [zIO,hf,hi,hb,zJf,hc,cond_true,j5,ne_eq,not_true,if_false]
 rcases hx with rfl | rfl<;>simp only [h2,hr]
theorem zVn (k:Int) (xss:List (List PV)) (args:List PV) (a:Nat) (h1:k=1→WS P H f c (i+1) ⟨(zFo s.dr i (zD4 c i) {all:=true}).getD none,zL3 ((put (zD4 c i).dst (.bool false)).run zHw (s.e.forget zAb)),some ⟨xss++[args],k-1,a⟩⟩ R)
  (h2:k≠1→WS P H f c (i+1) ⟨(zFo s.dr i (zD4 c i) {all:=true}).getD none,zL3 ((put (zD4 c i).dst (.bool true)).run zHw s.e),some ⟨xss++[args],k-1,a⟩⟩ R) (hk:k≠0)
  (hy:zCf s.e (zD4 c i)=some (a,args):=by kernel_rfl) (hl:s.lg=some ⟨xss,k,a⟩:=by kernel_rfl) (hw:zLH (zFr c) s.e (zD4 c i)=some true:=by kernel_rfl) (hf:args.all PV.flat=true:=by kernel_rfl)
  (hd:(zFo s.dr i (zD4 c i) {all:=true}).isSome=true:=by kernel_rfl) (uN:((put (zD4 c i).dst (.bool false)).run zHw (s.e.forget zAb)).isSome=true:=by kernel_rfl) (vH:((put (zD4 c i).dst (.bool true)).run zHw s.e).isSome=true:=by kernel_rfl)
  (hi:Nat.blt i (zFr c).size=true:=by kernel_rfl):WS P H f c i s R:=by
 have wP:zFo s.dr i (zD4 c i) {all:=true}=some ((zFo s.dr i (zD4 c i) {all:=true}).getD none):=by
  cases hx:zFo s.dr i (zD4 c i) {all:=true} with
  | none=>rw [hx] at hd;cases hd
  | some d=>rfl
 have vT:(k != 0)=true:=by simpa using hk
 by_cases jL:k=1
 ·refine zK8 hi ⟨0,fun n _=>?_⟩ wP (h1 jL)
  have hr:(put (zD4 c i).dst (.bool false)).run (zCX P H n) (s.e.forget zAb)=some (zL3 ((put (zD4 c i).dst (.bool false)).run zHw (s.e.forget zAb))):=zFB (zHJ uN)
  have wL:(k==1)=true:=by simpa using jL
  have hyr:zBR (zCX P H n) (zFr c) (zD4 c i) a args ⟨xss,k,a⟩ s.e=some (zL3 ((put (zD4 c i).dst (.bool false)).run zHw (s.e.forget zAb)),some ⟨xss++[args],k-1,a⟩):=by
   unfold zBR
   rw [hw]
   simp only
   rw [hf,vT,Nat.beq_refl,wL]
   simp only [Bool.and_self,cond_true]
   rw [hr];rfl
  rw [hl]
  unfold zEp
  simp only
  rw [hy]
  simp only
  rw [hyr];rfl
 ·refine zK8 hi ⟨0,fun n _=>?_⟩ wP (h2 jL)
  have hr:(put (zD4 c i).dst (.bool true)).run (zCX P H n) s.e=some (zL3 ((put (zD4 c i).dst (.bool true)).run zHw s.e)):=zFB (zHJ vH)
  have wL:(k==1)=false:=by simpa using jL
  have hyr:zBR (zCX P H n) (zFr c) (zD4 c i) a args ⟨xss,k,a⟩ s.e=some (zL3 ((put (zD4 c i).dst (.bool true)).run zHw s.e),some ⟨xss++[args],k-1,a⟩):=by
   unfold zBR
   rw [hw]
   simp only
   rw [hf,vT,Nat.beq_refl,wL]
   simp only [Bool.and_self,cond_true,cond_false]
   rw [hr];rfl
  rw [hl]
  unfold zEp
  simp only
  rw [hy]
  simp only
  rw [hyr];rfl
theorem zUM {σ:Type} {c:Code} (Inv:σ→Prop) (upd:σ→List (Nat×PV)) (L:σ→Option Log) (μ:σ→Nat) (s:σ) (hi:Inv s) (h:∀ s,Inv s→W P H f nt (cl c) (zNg (upd s) (e.drop ((H f).loopDrop (zAX (cl c))))) (L s) fun x e' lg'=>match x with
   | .norm=>∃ s',Inv s'∧μ s'<μ s∧e'.drop ((H f).loopDrop (zAX (cl c)))=zNg (upd s') (e.drop ((H f).loopDrop (zAX (cl c))))∧lg'=L s'
   | x=>K x e' lg') (hs:e.drop ((H f).loopDrop (zAX (cl c)))=zNg (upd s) (e.drop ((H f).loopDrop (zAX (cl c)))):=by kernel_rfl) (hl:lg=L s:=by kernel_rfl) (hc:zO7 c=true:=by kernel_rfl):W P H f nt c e lg K:=by
 rw [zMJ hc]
 generalize hE:e.drop ((H f).loopDrop (zAX (cl c)))=e0 at h hs
 have key:∀ (n:Nat) (s:σ) (e:Env) (lg:Option Log),μ s≤n→Inv s→e.drop ((H f).loopDrop (zAX (cl c)))=zNg (upd s) e0→lg=L s→W P H f nt (.loop (cl c)) e lg K:=by
  intro n
  induction n with
  | zero =>
   intro s e lg hs hi he vW
   subst vW
   obtain ⟨n0,x,e1,lg1,h1,h2⟩:=h s hi
   cases x with
   | norm=>obtain ⟨s',_,h3,_⟩:=h2;omega
   | ex id =>
    refine ⟨n0+1,_,e1,lg1,fun n m hn hm=>?_,h2⟩
    obtain ⟨m,rfl⟩:∃ k,m=k+1:=⟨m-1,by omega⟩
    simp only [exec,he,h1 n m (by omega) (by omega)]
   | ret =>
    refine ⟨n0+1,_,e1,lg1,fun n m hn hm=>?_,h2⟩
    obtain ⟨m,rfl⟩:∃ k,m=k+1:=⟨m-1,by omega⟩
    simp only [exec,he,h1 n m (by omega) (by omega)]
  | succ n ih =>
   intro s e lg hs hi he vW
   subst vW
   obtain ⟨n0,x,e1,lg1,h1,h2⟩:=h s hi
   cases x with
   | norm =>
    obtain ⟨s',h3,h4,h7,h8⟩:=h2
    obtain ⟨n2,x,e2,lg2,h5,h6⟩:=ih s' e1 lg1 (by omega) h3 h7 h8
    refine ⟨max n0 n2+1,x,e2,lg2,fun n m hn hm=>?_,h6⟩
    obtain ⟨m,rfl⟩:∃ k,m=k+1:=⟨m-1,by omega⟩
    simp only [exec,he,h1 n m (by omega) (by omega),h5 n m (by omega) (by omega)]
   | ex id =>
    refine ⟨n0+1,_,e1,lg1,fun n m hn hm=>?_,h2⟩
    obtain ⟨m,rfl⟩:∃ k,m=k+1:=⟨m-1,by omega⟩
    simp only [exec,he,h1 n m (by omega) (by omega)]
   | ret =>
    refine ⟨n0+1,_,e1,lg1,fun n m hn hm=>?_,h2⟩
    obtain ⟨m,rfl⟩:∃ k,m=k+1:=⟨m-1,by omega⟩
    simp only [exec,he,h1 n m (by omega) (by omega)]
 exact key (μ s) s e lg (Nat.le_refl _) hi (hE.trans hs) hl
end
end Go.Eng
namespace Go.Eng
open Go
abbrev I (n:Int):PV := .int .i64 n
abbrev zAw (l:List Int):PV := .sl (l.map I)
section
theorem zRq {a b:Bool} (ha:a=true) (hb:b=true):(a&&b)=true:=by rw [ha,hb];rfl
theorem zA9 {a b:Nat} (h:a≤b):Nat.ble a b=true:=by rw [Nat.ble_eq];exact h
theorem zBj {a b:Nat} (h:a=b):Nat.beq a b=true:=by rw [h];exact Nat.beq_refl _
theorem zAr {p:Prop} [Decidable p] (h:p):decide p=true:=decide_eq_true h
variable {α:Type} {g:α→PV} {l:List α} {i:Nat} {d:α} {x q root root':PV} {xs:List PV} {r z c n:Nat} {pre rest:zA0}
theorem zBx (d:α) (h:i<l.length):(l.map g)[i]? = some (g (l.getD i d)):=by simp [List.getD,List.getElem?_eq_getElem h]
theorem zFg {u:α}:(l.map g).set i (g u)=(l.set i u).map g:=(List.map_set).symm
theorem zKO (hx:xs[i]? = some x) {y:PV} (hn:zAA y rest=some q) (hh:zA4 root=some xs:=by kernel_rfl) (hc:x.cells[c]? = some y:=by kernel_rfl):zAA root ((i,c)::rest)=some q:=by
 simp only [zAA,hh,hx,hc,hn]
def zMg (r:Nat) (pre:zA0) (i c n:Nat) (x:PV):Option (Bool×List PV):=bif Nat.ble (c+n) x.cells.length then some (x.isAgg,zBE r pre i c ((x.cells.drop c).take n)) else none
theorem zDb {a:Bool} {qs:List PV} (hn:zAA root.unlock pre=some q) (hx:xs[i]? = some x) (hr:zMg r pre i c n x=some (a,qs):=by kernel_rfl) (hh:zBd q=some xs:=by kernel_rfl):zAv r root pre i c n=some (a,qs):=by
 simp only [zAv,hn,hh,hx];exact hr
theorem zN2 {qs:List PV} {xs':List PV} (hx:xs[i]? = some x) (hs:xs.set i (zAC x c qs)=xs') (hb:Nat.ble (c+qs.length) x.cells.length=true:=by kernel_rfl) (hw:(zBt qs).isEmpty=true:=by kernel_rfl):zBC (.own z xs) [] i c qs=some (.own z xs')∧zAM (.own z xs) (.own z xs') []=true:=by
 subst hs
 constructor
 ·simp only [zBC,hw,Bool.not_true,Bool.and_false,cond_false,zAx,zBd,hx,hb,cond_true,zAF]
 ·simp [zAM,zCy]
theorem zB3 {x m:Nat} (h:Nat.beq m 1=true):0+x*m=x:=by rw [Nat.eq_of_beq_eq_true h,Nat.mul_one,Nat.zero_add]
theorem zB5 {a x m:Nat} (h:Nat.beq m 1=true):a+x*m=a+x:=by rw [Nat.eq_of_beq_eq_true h,Nat.mul_one]
def wf (i c:Nat) (qs:List PV) (q:PV):Option PV:=match zBd q with
 | some xs=>match xs[i]? with
  | some x=>bif Nat.ble (c+qs.length) x.cells.length then zAF q (xs.set i (zAC x c qs)) else none
  | none=>none
 | none=>none
theorem zKF {qs:List PV} {q' y:PV} (hx:xs[i]? = some x) (hs:zAC x c qs=y) (hq:zAF q (xs.set i y)=some q') (hh:zBd q=some xs:=by kernel_rfl) (hb:Nat.ble (c+qs.length) x.cells.length=true:=by kernel_rfl):zAx (wf i c qs) q []=some q':=by
 subst hs
 simp only [zAx,wf,hh,hx,hb,cond_true,hq]
theorem zQc {qs:List PV} {b:Bool} (h:zAx (wf i c qs) root pre=some root') (hk:zAM root root' pre=b) (hw:(zBt qs).isEmpty=true:=by kernel_rfl):zBC root pre i c qs=some root'∧zAM root root' pre=b:=by
 refine ⟨?_,hk⟩
 simp only [zBC,hw,Bool.not_true,Bool.and_false,cond_false]
 exact h
theorem zAD (l:List α) (h:∀ x,zAY (g x)=g x:=by intro;rfl):zAu (l.map g)=l.map g:=by
 induction l with
 | nil=>rfl
 | cons x l ih=>simp only [List.map_cons,zAu,h,ih]
theorem zCw {ys:List PV} (hy:xs=ys) (h2:zAu ys=ys):zAu xs=ys:=by rw [hy];exact h2
theorem zBF (l:List α) (h:∀ x,(g x).free=true:=by intro;rfl):zEE (l.map g)=true:=by
 induction l with
 | nil=>rfl
 | cons x l ih=>simp only [List.map_cons,zEE,h,ih,Bool.and_self]
theorem zJL (l:List α) (h:∀ x,(g x).ways=[]:=by intro;rfl):zBt (l.map g)=[]:=by
 induction l with
 | nil=>rfl
 | cons x l ih=>simp only [List.map_cons,zBt,h,ih,List.append_nil]
theorem all_map {p:PV→Bool} (l:List α) (h:∀ x,p (g x)=true:=by intro;rfl):(l.map g).all p=true:=by
 rw [List.all_map];exact List.all_eq_true.2 fun x _=>h x
theorem zB4 (l:List α):List.take l.length (l.map g)=l.map g:=List.take_of_length_le (by simp)
theorem zAE {xs ys:List PV} (h:xs=ys):PV.own z xs=PV.own z ys:=by rw [h]
theorem zPh {xs ys:List PV} (h:xs=ys):PV.sl xs=PV.sl ys:=by rw [h]
theorem zFU {a x m:Nat} {sh:Option Nat} (h:Nat.beq m 1=true):PV.addr r pre i (a+x*m) sh=PV.addr r pre i (a+x) sh:=by rw [Nat.eq_of_beq_eq_true h,Nat.mul_one]
end
end Go.Eng
namespace Go.Eng
open Go
section
def zUX:Code→Bool
 | .label _=>true
 | _=>false
theorem ap {p:Prop} {ps:List Prop} (h:p) (hs:zT4 ps):zT4 (p::ps):=⟨h,hs⟩
theorem an:zT4 []:=trivial
theorem zCP {a b:Int} (h:a=b) (hr : -9223372036854775808≤b∧b<9223372036854775808):PV.int .i64 (IntKind.i64.wrap a)=PV.int .i64 b:=by rw [h,zWA hr]
variable [Yo] {P:Program} {H:zBl} {f:FuncId} {nt:Nat} {e e':Env} {lg:Option Log} {K:X→Env→Option Log→Prop} {i:Nat} {c:Code} {s:RS} {R:Env→Option Log→Prop}
theorem S_a (as:Ans) {obs:List Prop} (ho:zT4 obs) (h:WS P H f c (i+1) (rsX (zWc P H f c i as s)) R) (hq:(zWc P H f c i as s).map (·.2)=some obs:=by kernel_rfl) (hi:Nat.blt i (zFr c).size=true:=by kernel_rfl):WS P H f c i s R:=S_x as obs ho h hq hi
theorem E_a {fn:Func} {nh:Nat} {v:PV} {h:List PV} {x:X} (as:Ans) {obs:List Prop} (ho:zT4 obs) (v':PV) (h':List PV) (hv:v'=v) (hh:h'=h) (hf:zOa P H f fn as e nh=some ((v',h'),obs):=by kernel_rfl) (hl:lg=none:=by kernel_rfl) (hx:x = .norm∨x = .ret:=by first | exact .inr rfl | exact .inl rfl):zVG P H f fn nh v h x e lg:=E_x as obs v' h' ho hv hh hf hl hx
theorem zVc {c:Code} (h:K .norm e lg) (hc:zUX c=true:=by kernel_rfl):W P H f nt c e lg K:=by
 cases c<;>first | (cases hc;done) | exact zTK 1 rfl h
end
end Go.Eng
namespace Go.Eng
open Go
section
variable [Yo] {P:Program} {H:zBl} {f:FuncId}
end
end Go.Eng
namespace Go.Eng
open Go
def zNh (pre:zA0) (put:PV→PV):Prop:=∀ f z xs,zAx f (put (.own z xs)) pre=(f (.own z xs)).map put
theorem zNh.nil:zNh [] (fun q=>q):=fun f z xs=>by simp [zAx]
theorem zNh.box:zNh [(0,0)] (fun q => .box q):=fun f z xs=>by
 simp only [zAx,zA4,List.getElem?_cons_zero,PV.cells]
 cases f (.own z xs)<;>rfl
theorem zGM [Yo] {r z:Nat} {pre:zA0} {put:PV→PV} (L:zNh pre put):∀ {ys:List PV} {j:Nat} {xs:List PV} {e:Env},e.get r=put (.own z xs)→j+ys.length≤xs.length→(∀ (a:Nat) (x y:PV),xs[j+a]? = some x→ys[a]? = some y→y.heavy=false∧y.cells.all (fun q=>q.ways.isEmpty)=true∧y.cells.length≤x.cells.length∧zAC x 0 y.cells=y) →
  ∃ e',e'.get r=put (.own z (xs.take j++ys++xs.drop (j+ys.length)))∧(∀ t,t≠r→e'.get t=e.get t)∧∀ (o:zAH) (k:PM),(zGw r pre j ys k).run o e=k.run o e'
 | [],j,xs,e,he,hj,hy=>⟨e,by simp [he],fun _ _=>rfl,fun _ _=>rfl⟩
 | y :: ys,j,xs,e,he,hj,hy=>by
  simp only [List.length_cons] at hj
  have hjx:j<xs.length:=by omega
  obtain ⟨h1,h2,h3,h4⟩:=hy 0 xs[j] y (by simp [hjx]) rfl
  have hws:zBt y.cells=[]:=zLY h2
  have hb:Nat.ble (0+y.cells.length) xs[j].cells.length=true:=by rw [Nat.ble_eq];omega
  have yW:(e.set r (put (.own z (xs.set j y)))).get r=put (.own z (xs.set j y)):=by rw [Env.get_set,if_pos rfl]
  obtain ⟨e',g1,g2,g3⟩:=zGM L (ys:=ys) (j:=j+1) yW (by simp;omega) fun a x' y' jx uO=>by
   rw [List.getElem?_set] at jx
   rw [if_neg (by omega)] at jx
   exact hy (a+1) x' y' (by rw [← jx];congr 1;omega) (by simpa using uO)
  refine ⟨e',?_,fun t ht=>?_,?_⟩
  ·rw [g1,zTr hj]
   simp only [List.length_cons]
  ·rw [g2 t ht,Env.get_set,if_neg ht]
  ·intro o k
   simp only [zGw]
   rw [zEV (by simpa using zNT h1)]
   simp only [PM.run,he,zBC,hws,List.isEmpty_nil,Bool.not_true,Bool.and_false,cond_false,L _ z xs,zBd,List.getElem?_eq_getElem hjx,hb,cond_true,zAF,h4,Option.map_some]
   exact g3 o k
section
variable [Yo] {P:Program} {H:zBl} {f:FuncId} {i:Nat} {c:Code} {R:Env→Option Log→Prop}
theorem zLn {pre:zA0} (put':PV→PV) (r s:Nat) (xs ys zs:List PV) {st:RS} (hy:∀ (a:Nat) (x y:PV),xs[a]? = some x→ys[a]? = some y→zXw s x y) (hX:ys.length≤xs.length) (hz:ys++xs.drop ys.length=zs) (L:zNh pre put')
  (h:WS P H f c (i+1) ⟨none,zL3 ((put (zD4 c i).dst (.int .i64 ys.length)).run zHw (st.e.set r (put' (.own s zs)))),none⟩ R) (he:st.e.get r=put' (.own s xs):=by kernel_rfl) (ho:zUr P st.e (zD4 c i)=some (s,.bor r pre s 0 xs.length,.sl ys):=by kernel_rfl) (hs:Nat.blt 0 s=true:=by kernel_rfl)
  (hq:((put (zD4 c i).dst (.int .i64 ys.length)).run zHw (st.e.set r (put' (.own s zs)))).isSome=true:=by kernel_rfl) (jl:st.dr=none:=by kernel_rfl) (vW:st.lg=none:=by kernel_rfl) (hg:zLe c i st.e=true:=by kernel_rfl) (hi:Nat.blt i (zFr c).size=true:=by kernel_rfl):WS P H f c i st R:=by
 subst hz
 obtain ⟨dr,e,lg⟩:=st
 simp only at jl h he ho hq hg vW
 subst jl;subst vW
 have kw:∀ y∈ys,y.plain=true∧y.cells.length=s:=fun y uO=>by
  obtain ⟨a,ha⟩:=List.getElem?_of_mem uO
  have yJ:=(List.getElem?_eq_some_iff.1 ha).1
  have:=hy a _ y (List.getElem?_eq_getElem (by omega)) ha
  exact ⟨this.1,this.2.1⟩
 obtain ⟨e',g1,g2,g3⟩:=zGM L he (j:=0) (ys:=ys) (by omega) fun a x y hx uO=>by
  rw [Nat.zero_add] at hx
  obtain ⟨_,_,h3,h4,h5,h6⟩:=hy a x y hx uO
  exact ⟨h3,h4,h5,h6⟩
 simp only [List.take_zero,List.nil_append,Nat.zero_add] at g1
 have yW:∀ t,e'.get t=(e.set r (put' (.own s (ys++xs.drop ys.length)))).get t:=fun t=>by
  rw [Env.get_set]
  split
  ·rename_i h;subst h;exact g1
  ·rename_i h;exact g2 t h
 have kC:=zHJ hq
 obtain ⟨e1,h1,h2⟩:=zFx (funext yW) kC
 refine zXb (s:=⟨none,e,none⟩) (e':=e1) ⟨0,fun n _=>?_⟩ (zUE h fun t=>congrFun h2 t) rfl rfl hg hi
 have yA:=zFB (o:=zCX P H n) h1
 show (opM P H _ _ _ (zD4 c i)).run _ e=_
 generalize zD4 c i=o at ho yA
 cases hop:o.op<;>simp only [zUr,hop] at ho<;>try (cases ho;done)
 rename_i cc
 split at ho
 ·rename_i x y t ts hc ha hT
  split at ho
  ·rename_i s' yy
   simp only [Option.some.injEq,Prod.mk.injEq] at ho
   obtain ⟨rfl,hx,hyv⟩:=ho
   have hb:Nat.ble ys.length xs.length=true:=by rw [Nat.ble_eq];exact hX
   have jt:(ys.all fun y=>y.plain&&Nat.beq y.cells.length s')=true:=List.all_eq_true.2 fun y uO=>by
    obtain ⟨q1,q2⟩:=kw y uO
    rw [q1,q2,Nat.beq_refl];rfl
   simp only [opM,hop,zI7,hc,ha,hT,zBr,yy,zIm]
   rw [zN8 hx (by simp),zN8 hyv (by simp)]
   simp only [zHm,Nat.beq_refl,hs,hb,jt,Bool.and_self,cond_true]
   rw [g3];exact yA
  ·cases ho
 ·cases ho
theorem zIu {α β:Type} {g:α→PV} {g':β→PV} {s:Nat} {l:List α} {m:List β} (h:∀ (x:α) (y:β),zXw s (g x) (g' y)):∀ (a:Nat) (x y:PV),(l.map g)[a]? = some x→(m.map g')[a]? = some y→zXw s x y:=by
 intro a x y hx hy
 rw [List.getElem?_map] at hx hy
 obtain ⟨x',_,rfl⟩:=Option.map_eq_some_iff.1 hx
 obtain ⟨y',_,rfl⟩:=Option.map_eq_some_iff.1 hy
 exact h x' y'
theorem zFl {k:IntKind} {a b:Int}:zXw 1 (.int k a) (.int k b):=⟨rfl,rfl,rfl,rfl,Nat.le_refl _,rfl⟩
theorem zK1 {α β:Type} {g:α→PV} {g':β→PV} {l:List α} {m:List β} (h:l.length=m.length):l.map g++(m.map g').drop (l.map g).length=l.map g:=by simp [h]
end
end Go.Eng
namespace Go.Eng
open Go
abbrev zQf (sh:Option Nat) (a:List Int):PV:=match sh with | none=>I (a.getD 0 0) | some _ => .agg (a.map I)
theorem zPc {l:List Int} {i k:Nat} {sh:Option Nat} (j4:sh=some k∨(sh=none∧k=1)) (h:i+k≤l.length):sub (.agg (l.map I)) i sh=some (zQf sh ((l.drop i).take k)):=by
 rcases j4 with rfl | ⟨rfl,rfl⟩
 ·simp only [sub,List.length_map,h,if_true,zQf,List.map_take,List.map_drop]
 ·have h2:i<l.length:=by omega
  simp only [sub,zQf]
  rw [List.drop_eq_getElem_cons h2]
  simp [h2]
theorem zLW {eq:PV→PV→Option Bool} {sh:Option Nat} {k:Nat} {l m:List Int} (ud:∀ a b:List Int,a.length=k→b.length=k→eq (zQf sh a) (zQf sh b)=some (decide (a=b))) (j4:sh=some k∨(sh=none∧k=1)):∀ n i,(i+n)*k=l.length→(i+n)*k=m.length→zUk eq sh k (.agg (l.map I)) (.agg (m.map I)) i n=some (decide (l.drop (i*k)=m.drop (i*k)))
 | 0,i,h1,h2=>by
  simp only [zUk]
  rw [List.drop_eq_nil_of_le (by simpa using Nat.le_of_eq h1.symm),List.drop_eq_nil_of_le (by simpa using Nat.le_of_eq h2.symm)];simp
 | n + 1,i,h1,h2=>by
  have e:(i+(n+1))*k=i*k+k+n*k:=by rw [Nat.add_mul,Nat.succ_mul];omega
  have e1:(i+1)*k=i*k+k:=by rw [Nat.succ_mul]
  have hl:i*k+k≤l.length:=by omega
  have hm:i*k+k≤m.length:=by omega
  have ih:=zLW ud j4 n (i+1) (by rw [← h1];congr 1;omega) (by rw [← h2];congr 1;omega)
  simp only [zUk,zPc j4 hl,zPc j4 hm]
  rw [ud _ _ (by rw [List.length_take,List.length_drop];omega) (by rw [List.length_take,List.length_drop];omega)]
  have d1:l.drop (i*k)=(l.drop (i*k)).take k++l.drop ((i+1)*k):=by rw [e1,← List.drop_drop,List.take_append_drop]
  have d2:m.drop (i*k)=(m.drop (i*k)).take k++m.drop ((i+1)*k):=by rw [e1,← List.drop_drop,List.take_append_drop]
  by_cases hc:(l.drop (i*k)).take k=(m.drop (i*k)).take k
  ·simp only [hc,decide_true,ih]
   congr 1
   rw [d1,d2,hc]
   simp
  ·simp only [hc,decide_false]
   rw [Eq.comm,decide_eq_false]
   intro hx
   exact hc (by rw [hx])
def zPm:Option TypeDesc→Bool
 | some (.array ..)=>true
 | _=>false
def zVN:Option TypeDesc→Bool
 | some (.int .i64)=>true
 | _=>false
theorem zS3 {x:Option TypeDesc} (h:zVN x=true):x=some (.int .i64):=by
 unfold zVN at h;split at h
 ·rfl
 ·cases h
theorem zMp {x:Option TypeDesc} (h:zPm x=true):∃ c e,x=some (.array c e):=by
 unfold zPm at h;split at h
 ·exact ⟨_,_,rfl⟩
 ·cases h
def zS0 (P:Program):Nat→TypeId→Option Nat
 | 0,_=>none
 | n + 1,t=>match P.underlying t with
  | some (.int k)=>if k = .i64 then some 1 else none
  | some (.array m e)=>match szT P e,shT P e,zS0 P n e with
   | some sz,some sh,some k=>if sz=k∧(sh=some k∧zPm (P.underlying e)=true∨sh=none∧k=1∧zVN (P.underlying e)=true) then some (m*k) else none
   | _,_,_=>none
  | _=>none
theorem zVo {P:Program} {n:Nat} {t:TypeId} {a b:Int} (h:P.underlying t=some (.int .i64)):eqT P (n+1) t (I a) (I b)=some (decide (a=b)):=by
 simp only [eqT,h,if_true];rfl
theorem zOX {P:Program}:∀ (n:Nat) (t:TypeId) (k:Nat) (l m:List Int),zS0 P n t=some k→(∃ c e,P.underlying t=some (.array c e))→l.length=k→m.length=k→eqT P n t (.agg (l.map I)) (.agg (m.map I))=some (decide (l=m))
 | 0,_,_,_,_,h,_,_,_=>by cases h
 | n + 1, t, k,l,m,h,⟨c,e,hu⟩,hl,hm=>by
  simp only [zS0,hu] at h
  split at h
  ·rename_i sz sh k1 h1 h2 h3
   split at h
   ·rename_i hx
    obtain ⟨rfl,hx⟩:=hx
    cases h
    simp only [eqT,hu,h1,h2]
    have:=zLW (eq:=eqT P n e) (sh:=sh) (k:=sz) (l:=l) (m:=m) (fun a b ha hb=>by
     rcases hx with ⟨rfl,hx⟩ | ⟨rfl,rfl,hx⟩
     ·exact zOX n e sz a b h3 (zMp hx) ha hb
     ·cases n with
      | zero=>cases h3
      | succ n =>
       simp only [zQf,zVo (zS3 hx)]
       match a,b,ha,hb with
       | [x],[y],_,_=>simp) (by
     rcases hx with ⟨rfl,_⟩ | ⟨rfl,rfl,_⟩
     ·exact .inl rfl
     ·exact .inr ⟨rfl,rfl⟩) c 0 (by rw [hl];simp) (by rw [hm];simp)
    simpa using this
   ·cases h
  ·cases h
def zMl (P:Program) (t:TypeId) (k:Nat):Bool := !P.eqGuardType P.depth t&&decide (zS0 P 20 t=some k)&&zPm (P.underlying t)
theorem zQO {P:Program} {t:TypeId} {k:Nat} {l m:List Int} (h:zMl P t k=true) (hl:l.length=k) (hm:m.length=k):eqT P 20 t (.agg (l.map I)) (.agg (m.map I))=some (decide (l=m)):=by
 unfold zMl at h
 simp only [Bool.and_eq_true,decide_eq_true_eq,Bool.not_eq_true'] at h
 obtain ⟨⟨h1,h2⟩,h3⟩:=h
 exact zOX 20 t k l m h2 (zMp h3) hl hm
theorem zWI {P:Program} {t:TypeId} {k:Nat} {l m:List Int} (h:zMl P t k=true) (hl:l.length=k) (hm:m.length=k):eqV P t (.agg (l.map I)) (.agg (m.map I))=some (decide (l=m)):=by
 have hg:P.eqGuardType P.depth t=false:=by
  unfold zMl at h
  simp only [Bool.and_eq_true,Bool.not_eq_true'] at h
  exact h.1.1
 simp only [eqV,hg,cond_false,zQO h hl hm]
theorem zRg {P:Program} {t:TypeId} {l m:List Int} (k:Nat) (hl:l.length=k) (hm:m.length=k) (h:zMl P t k=true:=by kernel_rfl):zHx P .neq t (.agg (l.map I)) (.agg (m.map I))=some (.bool (!decide (l=m))):=by
 simp only [zHx,zWI h hl hm,Option.map_some]
theorem zRb {a b c d:Int}:decide ([a,b]=[c,d])=(decide (a=c)&&decide (b=d)):=by simp
theorem zVz {P:Program} {t:TypeId} {a b c d:Int} (h:zMl P t 2=true:=by kernel_rfl):zHx P .neq t (.agg [I a,I b]) (.agg [I c,I d])=some (.bool (!(decide (a=c)&&decide (b=d)))):=by
 rw [← zRb];exact zRg (l:=[a,b]) (m:=[c,d]) 2 rfl rfl h
def zIJ (P:Program) (t:TypeId):Bool := !P.eqGuardType P.depth t && !P.stoodInHeld t&&match P.underlying t with
  | some (.struct fs)=>match fs.toList with
    | [f1, f2] => !decide (f1.name = "_") && !decide (f2.name = "_") && decide (shT P f1.type = some none) && decide (shT P f2.type = some none) && decide (f1.offset = 0) && decide (f2.offset = 1) &&
      (match P.underlying f1.type with | some (.int k)=>decide (k = .i64) | _=>false)&&(match P.underlying f2.type with | some .bool=>true | _=>false)
    | _=>false
  | _=>false
theorem zPy {P:Program} {t:TypeId} {a c:Int} {b d:Bool} (h:zIJ P t=true):eqV P t (.agg [I a,.bool b]) (.agg [I c,.bool d])=some (decide (a=c)&&decide (b=d)):=by
 unfold zIJ at h
 rw [Bool.and_eq_true,Bool.and_eq_true] at h
 obtain ⟨⟨h1,h2⟩,h3⟩:=h
 split at h3
 ·rename_i fs hu
  split at h3
  ·rename_i f1 f2 hl
   simp only [Bool.and_eq_true,decide_eq_true_eq,Bool.not_eq_true',decide_eq_false_iff_not] at h1 h2 h3
   obtain ⟨⟨⟨⟨⟨⟨⟨n1,n2⟩,s1⟩,s2⟩,o1⟩,o2⟩,u1⟩,u2⟩:=h3
   split at u1
   ·rename_i k1' jL
    split at u2
    ·rename_i uk
     simp only [decide_eq_true_eq] at u1
     subst u1
     simp only [eqV,h1,cond_false,eqT,hu,h2,hl,zUD,n1,n2,s1,s2,o1,o2,sub,jL,uk,if_true,if_false,List.getElem?_cons_zero,List.getElem?_cons_succ]
     by_cases e1:a=c
     ·subst e1
      cases b<;>cases d<;>simp
     ·simp [e1]
    ·cases u2
   ·cases u1
  ·cases h3
 ·cases h3
theorem zT5 {P:Program} {t:TypeId} {a c:Int} {b d:Bool} (h:zIJ P t=true:=by kernel_rfl):zHx P .neq t (.agg [I a,.bool b]) (.agg [I c,.bool d])=some (.bool (!(decide (a=c)&&decide (b=d)))):=by
 simp only [zHx,zPy h,Option.map_some]
theorem zL5 {P:Program} {kt:TypeId} {α:Type} {g:α→PV×PV} {kx ky:α→Int} (hk:∀ x,(g x).1 = .agg [I (kx x),I (ky x)]) (ud:∀ a b c d:Int,eqT P 20 kt (.agg [I a,I b]) (.agg [I c,I d])=some (decide (a=c)&&decide (b=d))) (a b:Int):∀ (M:List α) (i:Nat),zDc P kt (.agg [I a,I b]) (M.map g) i=some ((M.findIdx? fun x=>decide (a=kx x)&&decide (b=ky x)).map (· + i))
 | [],i=>rfl
 | x :: M,i=>by
  have h1:=ud a b (kx x) (ky x)
  rw [← hk x] at h1
  have h2:zFG (PV.agg [I a,I b]).cells (g x).1.cells=some (a==kx x&&(b==ky x&&true)):=by rw [hk x];rfl
  rw [List.map_cons,List.findIdx?_cons]
  have e:g x=((g x).1,(g x).2):=rfl
  rw [e]
  simp only [zDc,h1,h2]
  cases hc:(decide (a=kx x)&&decide (b=ky x)) with
  | true =>
   simp only [Bool.and_eq_true,decide_eq_true_eq] at hc
   simp [hc.1,hc.2]
  | false =>
   simp only
   rw [zL5 hk ud a b M (i+1)]
   simp only [Bool.false_eq_true,if_false,Option.map_map]
   congr 2
   funext y
   simp only [Function.comp];omega
theorem zSg {P:Program} {t:TypeId} (h:zMl P t 2=true:=by kernel_rfl) (a b c d:Int):eqT P 20 t (.agg [I a,I b]) (.agg [I c,I d])=some (decide (a=c)&&decide (b=d)):=by
 rw [← zRb];exact zQO (l:=[a,b]) (m:=[c,d]) h rfl rfl
def zXB (F:List Int) (n:Nat):Nat→List PV
 | 0=>[]
 | m+1=>I (F.getD (n-(m+1)) 0)::zXB F n m
abbrev zAQ (F:List Int) (m:Nat):List PV:=zXB F m m
theorem zRD {F:List Int} {n:Nat}:∀ (m:Nat),m≤n→zXB F n m=(List.range' (n-m) m).map fun k=>I (F.getD k 0)
 | 0,_=>rfl
 | m+1,h=>by
  rw [zXB,zRD m (by omega),List.range'_succ,List.map_cons,show n-(m+1)+1=n-m by omega]
theorem zOe {F:List Int} {m:Nat}:zAQ F m=(List.range m).map fun k=>I (F.getD k 0):=by
 rw [List.range_eq_range',zAQ,zRD m (Nat.le_refl m),Nat.sub_self]
theorem zGa {F:List Int} {m:Nat} (h:F.length=m):zAQ F m=F.map I:=by
 rw [zOe]
 apply List.ext_getElem?
 intro k
 by_cases hk:k<m
 ·simp [hk,show k<F.length by omega]
 ·rw [List.getElem?_eq_none (by simp;omega),List.getElem?_eq_none (by simp;omega)]
section
variable {A B:List PV} {F:List Int} {m j:Nat} {r i c':Nat} {pre:zA0}
theorem zIM:(zAQ F m).length=m:=by rw [zOe];simp
theorem zRM (hj:j<m):(zAQ F m)[j]? = some (I (F.getD j 0)):=by rw [zOe];simp [hj]
theorem zVh (hj:j<m):(A++zAQ F m++B)[A.length+j]? = some (I (F.getD j 0)):=by
 rw [List.append_assoc,List.getElem?_append_right (by omega),Nat.add_sub_cancel_left,List.getElem?_append_left (by rw [zIM];exact hj)]
 exact zRM hj
theorem zXf (hj:j<m):zCo (.ref (.agg (zAQ F m))) j none=some (.ref (I (F.getD j 0))):=by
 have h1:(I (F.getD j 0)).oneCell=true:=rfl
 simp only [zCo,zOM,sub,zRM hj,Option.isSome,Bool.false_or,h1,cond_true]
theorem zGQ {n:Nat} (hj:j<m) (hn:Nat.beq n 1=true:=by kernel_rfl):zCo (.ref (.agg (zAQ F m))) (j*n) none=some (.ref (I (F.getD j 0))):=by
 rw [Nat.eq_of_beq_eq_true hn,Nat.mul_one];exact zXf hj
theorem zKC (hc:c'=A.length+j) (hj:j<m):zMg r pre i c' 1 (.agg (A++zAQ F m++B))=some (true,[I (F.getD j 0)]):=by
 subst hc
 have hX:A.length+j<(A++zAQ F m++B).length:=by rw [List.length_append,List.length_append,zIM];omega
 have hb:Nat.ble (A.length+j+1) (PV.agg (A++zAQ F m++B)).cells.length=true:=by rw [Nat.ble_eq];exact hX
 have h2:((A++zAQ F m++B).drop (A.length+j)).take 1=[I (F.getD j 0)]:=by
  rw [List.drop_eq_getElem_cons hX]
  have:=zVh (A:=A) (B:=B) (F:=F) hj
  rw [List.getElem?_eq_getElem hX] at this
  simp only [Option.some.injEq] at this
  rw [this];simp
 simp only [zMg,hb,cond_true,PV.isAgg]
 show some (true,zBE r pre i (A.length+j) (((A++zAQ F m++B).drop (A.length+j)).take 1))=_
 rw [h2];rfl
theorem zVd {u:Int} (hj:j<m) (hF:F.length=m):(zAQ F m).set j (I u)=zAQ (F.set j u) m:=by
 rw [zGa hF,zGa (F:=F.set j u) (by simpa using hF),List.map_set]
theorem zPb {u:Int} (hc:c'=A.length+j) (hj:j<m) (hF:F.length=m):zAC (.agg (A++zAQ F m++B)) c' [I u] = .agg (A++zAQ (F.set j u) m++B):=by
 subst hc
 have hX:A.length+j<(A++zAQ F m++B).length:=by rw [List.length_append,List.length_append,zIM];omega
 have e:(A++zAQ F m++B).take (A.length+j)++[I u]++(A++zAQ F m++B).drop (A.length+j+1)=(A++zAQ F m++B).set (A.length+j) (I u):=by
  rw [List.set_eq_take_append_cons_drop,if_pos hX];simp
 simp only [zAC,List.length_singleton,e]
 rw [List.append_assoc,List.set_append_right _ _ (by omega),Nat.add_sub_cancel_left,List.set_append_left _ _ (by rw [zIM];exact hj),zVd hj hF,List.append_assoc]
theorem zOg (hc:c'=A.length+j) (hj:j<m) {q:PV}:Nat.ble (c' + [q].length) (PV.agg (A++zAQ F m++B)).cells.length=true:=by
 subst hc;rw [Nat.ble_eq];show _≤(A++zAQ F m++B).length;rw [List.length_append,List.length_append,zIM];simp;omega
theorem zVX (hj:j<m):sub (.agg (zAQ F m)) j none=some (I (F.getD j 0)):=by
 simp only [sub,zRM hj]
theorem zFj (hc:c'=j) (hj:j<m):zMg r pre i c' 1 (.agg (zAQ F m))=some (true,[I (F.getD j 0)]):=by
 have:=zKC (A:=[]) (B:=[]) (F:=F) (r:=r) (pre:=pre) (i:=i) (c':=c') (by simpa using hc) hj
 simpa using this
theorem zNs {u:Int} (hc:c'=j) (hj:j<m) (hF:F.length=m):zAC (.agg (zAQ F m)) c' [I u] = .agg (zAQ (F.set j u) m):=by
 have:=zPb (A:=[]) (B:=[]) (F:=F) (u:=u) (c':=c') (by simpa using hc) hj hF
 simpa using this
theorem zN7 (hc:c'=j) (hj:j<m) {q:PV}:Nat.ble (c' + [q].length) (PV.agg (zAQ F m)).cells.length=true:=by
 have:=zOg (A:=[]) (B:=[]) (F:=F) (q:=q) (c':=c') (by simpa using hc) hj
 simpa using this
theorem zTn {n:Nat} (hj:j<m) (hn:Nat.beq n 1=true:=by kernel_rfl):sub (.agg (zAQ F m)) (j*n) none=some (I (F.getD j 0)):=by
 rw [Nat.eq_of_beq_eq_true hn,Nat.mul_one];exact zVX hj
end
section
variable {l:List Int} {r i c c' k:Nat} {pre:zA0}
theorem zJs:∀ (l:List Int) (c:Nat),zBE r pre i c (l.map I)=l.map I
 | [],_=>rfl
 | x::l,c=>by simp only [List.map_cons,zBE,zJs l (c+1)];rfl
theorem zWB (hc:c'=c) (h:c+k≤l.length):zMg r pre i c' k (.agg (l.map I))=some (true,((l.drop c).take k).map I):=by
 subst hc
 have hb:Nat.ble (c'+k) (PV.agg (l.map I)).cells.length=true:=by rw [Nat.ble_eq];simpa [PV.cells] using h
 simp only [zMg,hb,cond_true,PV.isAgg]
 show some (true,zBE r pre i c' (((l.map I).drop c').take k))=_
 rw [← List.map_drop,← List.map_take,zJs]
theorem zUR {K:Nat} (hc:c'=c) (h:c+K≤l.length) (hk:Nat.beq k K=true):zMg r pre i c' k (.agg (l.map I))=some (true,((l.drop c).take K).map I):=by rw [Nat.eq_of_beq_eq_true hk];exact zWB hc h
theorem zU8 {K m:Nat} (hl:l.length=m) (hc:c'=c) (h:c+K≤m) (hk:Nat.beq k K=true):zMg r pre i c' k (.agg (zAQ l m))=some (true,zAQ ((l.drop c).take K) K):=by
 rw [zGa hl,zUR (K:=K) hc (by omega) hk,zGa (F:=(l.drop c).take K) (by rw [List.length_take,List.length_drop];omega)]
theorem zR5 {P:Program} {t:TypeId} {l m:List Int} (k:Nat) (hl:l.length=k) (hm:m.length=k) (h:zMl P t k=true:=by kernel_rfl):zHx P .neq t (.agg (zAQ l k)) (.agg (zAQ m k))=some (.bool (!decide (l=m))):=by
 rw [zGa hl,zGa hm];exact zRg k hl hm h
end
end Go.Eng
namespace Go.Eng
open Go
theorem zDN {a b m k M:Nat} (h:Nat.beq m M=true) (h2:Nat.beq k 1=true):a*m+b*k=a*M+b:=by rw [Nat.eq_of_beq_eq_true h,Nat.eq_of_beq_eq_true h2,Nat.mul_one]
theorem zDV {a m M:Nat} (h:Nat.beq m M=true):a*m=a*M:=by rw [Nat.eq_of_beq_eq_true h]
theorem zD5 {a b m k M:Nat} (h:Nat.beq m M=true) (h2:Nat.beq k 1=true):0+a*m+b*k=a*M+b:=by rw [Nat.zero_add];exact zDN h h2
theorem zDO {a m M:Nat} (h:Nat.beq m M=true):0+a*m=a*M:=by rw [Nat.zero_add];exact zDV h
theorem zB0 {α:Type} {g:α→PV} {l:List α} {u:α} {y:PV} (h:g u=y):l.map g++[y]=(l++[u]).map g:=by rw [← h,List.map_append];rfl
def zUa (P:Program) (e:Env) (o:Oper):Option (Nat×PV×PV) :=
 match o.op,o.dst with
 | .call c,none=>match c.callee,c.args.toList,c.argTypes.toList with
  | .builtin .clear,[x],t::_=>match (zBS P t).bind (zCD P),(zBS P t).bind (szT P) with
   | some q,some s=>some (s,q,zXz e x)
   | _,_=>none
  | _,_,_=>none
 | _,_=>none
section
variable [Yo] {P:Program} {H:zBl} {f:FuncId} {i:Nat} {c:Code} {R:Env→Option Log→Prop}
theorem zNO {α:Type} {g:α→PV} {pre:zA0} (put':PV→PV) (r s lo n:Nat) (l:List α) (u:α) {st:RS} (kz:lo+n≤l.length) (hu:(g u).plain=true∧(g u).cells.length=s) (hy:∀ x,zXw s (g x) (g u)) (L:zNh pre put')
  (h:WS P H f c (i+1) ⟨none,st.e.set r (put' (.own s ((l.take lo++List.replicate n u++l.drop (lo+n)).map g))),none⟩ R) (he:st.e.get r=put' (.own s (l.map g)):=by kernel_rfl) (ho:zUa P st.e (zD4 c i)=some (s,g u,.bor r pre s lo n):=by kernel_rfl) (hs:Nat.blt 0 s=true:=by kernel_rfl)
  (jl:st.dr=none:=by kernel_rfl) (vW:st.lg=none:=by kernel_rfl) (hg:zLe c i st.e=true:=by kernel_rfl) (hi:Nat.blt i (zFr c).size=true:=by kernel_rfl):WS P H f c i st R:=by
 obtain ⟨dr,e,lg⟩:=st
 simp only at jl h he ho hg vW
 subst jl;subst vW
 obtain ⟨e',g1,g2,g3⟩:=zGM L he (j:=lo) (ys:=List.replicate n (g u)) (by simpa using kz) fun a x y hx uO=>by
  rw [List.getElem?_map] at hx
  obtain ⟨x',_,rfl⟩:=Option.map_eq_some_iff.1 hx
  obtain ⟨hn,hy2⟩:=List.getElem?_eq_some_iff.1 uO
  rw [List.getElem_replicate] at hy2
  subst hy2
  obtain ⟨_,_,h3,h4,h5,h6⟩:=hy x'
  exact ⟨h3,h4,h5,h6⟩
 have yW:∀ t,e'.get t=(e.set r (put' (.own s ((l.take lo++List.replicate n u++l.drop (lo+n)).map g)))).get t:=fun t=>by
  rw [Env.get_set]
  split
  ·rename_i h;subst h;rw [g1];simp
  ·rename_i h;exact g2 t h
 refine zXb (s:=⟨none,e,none⟩) (e':=e') ⟨0,fun m _=>?_⟩ (zUE h fun t=>yW t) rfl rfl hg hi
 show (opM P H _ _ _ (zD4 c i)).run _ e=_
 generalize zD4 c i=o at ho
 cases hop:o.op<;>simp only [zUa,hop] at ho<;>try (cases ho;done)
 rename_i cc
 cases kG:o.dst<;>rw [kG] at ho<;>simp only at ho<;>try (cases ho;done)
 split at ho
 ·rename_i x t ts hc ha hT
  split at ho
  ·rename_i q s' hq yy
   simp only [Option.some.injEq,Prod.mk.injEq] at ho
   obtain ⟨rfl,rfl,hx⟩:=ho
   simp only [opM,hop,zI7,hc,ha,hT,zBr,kG]
   rw [zN8 hx (by simp)]
   simp only [zRT,hs,Nat.beq_refl,hu.1,hu.2,Bool.and_self,cond_true,hq,yy]
   rw [g3];rfl
  ·cases ho
 ·cases ho
end
end Go.Eng
namespace Go.Eng
open Go
section
variable [Yo] {P:Program} {H:zBl} {f:FuncId} {nt:Nat} {c:Code} {e:Env} {lg:Option Log} {K:X→Env→Option Log→Prop}
end
end Go.Eng
namespace Go.Eng
open Go
theorem zOm [Yo] {P:Program} {H:zBl} {f:FuncId} {nt:Nat} {e:Env} {lg:Option Log} {K:X→Env→Option Log→Prop} {σ:Type} {c:Code} {t g:Nat} {first caps:List PV} {xs:List (List PV)} (hY:zF5 g first caps xs) (Inv:Nat→σ→Prop) (upd:σ→List (Nat×PV)) (s:σ) (hi:Inv 0 s)
  (h:∀ j x s,xs[j]? = some x→Inv j s→zLF P H f nt (zWX c) (rgA c) (rgB c) x (zNg (upd s) e) fun y e3=>match y with
   | .norm=>∃ s',Inv (j+1) s'∧after nt [] (zWh c) (zNg (upd s) e) e3=zNg (upd s') e
   | y=>K y (after nt [] (zWh c) (zNg (upd s) e) e3) none) (hK:∀ s,Inv xs.length s→K .norm (zNg (upd s) e) none) (hs:e=zNg (upd s) e:=by kernel_rfl) (yN:zDP e t=some (g,first,caps,[]):=by kernel_rfl) (hc:rgT c=some t:=by kernel_rfl) (hl:lg=none:=by kernel_rfl):W P H f nt c e lg K :=
 zVP (t:=t) hY Inv (fun s=>zNg (upd s) e) s hi h hK hs yN hc hl
end Go.Eng
namespace Go.Eng
open Go
theorem zNh.field (A B:List PV):zNh [(0,A.length)] (fun q => .box (.agg (A++q::B))):=fun f z xs=>by
 have h1:(A++PV.own z xs::B)[A.length]? = some (.own z xs):=by simp
 simp only [zAx,zA4,List.getElem?_cons_zero,PV.cells,h1]
 cases f (.own z xs) with
 | none=>rfl
 | some q=>simp [zAF,zAC]
end Go.Eng
namespace Go.Eng
open Go
theorem zFM (l:List Int):zAu (l.map I)=l.map I:=zAD l
theorem zH9 (k:IntKind) (l:List Int):zAu (l.map (PV.int k))=l.map (PV.int k):=zAD l
theorem zE5 (l:List Bool):zAu (l.map PV.bool)=l.map PV.bool:=zAD l
theorem zAI {α:Type} {g g':α→PV} (l:List α) (h:∀ x,zAY (g x)=g' x:=by intro x;simp only [zAY,zAu,zFM,zE5,zH9]):zAu (l.map g)=l.map g':=by
 induction l with
 | nil=>rfl
 | cons x l ih=>simp only [List.map_cons,zAu,h,ih]
theorem zA5 {xs ys:List PV} (h:zAu xs=ys):zAu ((xs.drop 0).take xs.length)=ys:=by rw [List.drop_zero,List.take_length];exact h
theorem zKQ {r z:Nat} {xs ys:List PV} (h:zAu xs=ys):PV.mapW (inl r [] (.own z xs)) (.bor r [] z 0 xs.length) = .sl ys:=by
 have e:zAP r [] r []=true:=by simp [zAP]
 have e2:Nat.ble (0+xs.length) xs.length=true:=by simp
 simp only [PV.mapW,inl,e,cond_true]
 show zFq (zAA (.own z xs) []) (zCb 0 xs.length)=_
 simp only [zAA,zFq,zCb,e2,cond_true]
 rw [zA5 h]
def zOo (P:Program) (t:TypeId) (k1 k2:IntKind):Bool := !P.eqGuardType P.depth t && !P.stoodInHeld t&&match P.underlying t with
  | some (.struct fs)=>match fs.toList with
    | [f1, f2] => !decide (f1.name = "_") && !decide (f2.name = "_") && decide (shT P f1.type = some none) && decide (shT P f2.type = some none) && decide (f1.offset = 0) && decide (f2.offset = 1) &&
      (match P.underlying f1.type with | some (.int k)=>decide (k=k1) | _=>false)&&(match P.underlying f2.type with | some (.int k)=>decide (k=k2) | _=>false)
    | _=>false
  | _=>false
theorem zSB {P:Program} {t:TypeId} {k1 k2:IntKind} {a b c d:Int} (h:zOo P t k1 k2=true):eqV P t (.agg [.int k1 a,.int k2 b]) (.agg [.int k1 c,.int k2 d])=some (decide (a=c)&&decide (b=d)):=by
 unfold zOo at h
 rw [Bool.and_eq_true,Bool.and_eq_true] at h
 obtain ⟨⟨h1,h2⟩,h3⟩:=h
 split at h3
 ·rename_i fs hu
  split at h3
  ·rename_i f1 f2 hl
   simp only [Bool.and_eq_true,decide_eq_true_eq,Bool.not_eq_true',decide_eq_false_iff_not] at h1 h2 h3
   obtain ⟨⟨⟨⟨⟨⟨⟨n1,n2⟩,s1⟩,s2⟩,o1⟩,o2⟩,u1⟩,u2⟩:=h3
   split at u1
   ·rename_i k1' jL
    split at u2
    ·rename_i k2' uk
     simp only [decide_eq_true_eq] at u1 u2
     subst u1;subst u2
     simp only [eqV,h1,cond_false,eqT,hu,h2,hl,zUD,n1,n2,s1,s2,o1,o2,sub,jL,uk,if_true,if_false,List.getElem?_cons_zero,List.getElem?_cons_succ]
     by_cases e1:a=c
     ·subst e1
      by_cases e2:b=d
      ·subst e2;simp
      ·simp [e2]
     ·simp [e1]
    ·cases u2
   ·cases u1
  ·cases h3
 ·cases h3
theorem zNQ {P:Program} {t:TypeId} {k1 k2:IntKind} {a b c d:Int} (h:zOo P t k1 k2=true:=by kernel_rfl):zHx P .neq t (.agg [.int k1 a,.int k2 b]) (.agg [.int k1 c,.int k2 d])=some (.bool (!(decide (a=c)&&decide (b=d)))):=by
 simp only [zHx,zSB h,Option.map_some]
theorem zSd {P:Program} {t:TypeId} {k1 k2:IntKind} {a b c d:Int} (h:zOo P t k1 k2=true:=by kernel_rfl):zHx P .eql t (.agg [.int k1 a,.int k2 b]) (.agg [.int k1 c,.int k2 d])=some (.bool (decide (a=c)&&decide (b=d))):=by
 simp only [zHx,zSB h,Option.map_some]
section
variable {α:Type} {g:α→PV} {l:List α} {i z:Nat} {b:PV}
end
def zIC (P:Program) (t:TypeId):Bool:=match P.underlying t with | some (.slice _)=>true | _=>false
theorem zU3 {P:Program} {t:TypeId} {p:PV} {z:Nat} (he:zFc p=true) (hp:(match p with | .nils _=>false | .agg _=>false | _=>true)=true:=by rfl) (h:zIC P t=true:=by kernel_rfl):eqV P t p (.nils z)=some false:=by
 unfold zIC at h
 split at h
 ·rename_i e hu
  unfold eqV
  rw [hu]
  cases p<;>first | (cases hp;done) | simp only [he,cond_true]
 ·cases h
theorem zS7 {P:Program} {t:TypeId} {p:PV} {z:Nat} (he:zFc p=true) (hp:(match p with | .nils _=>false | .agg _=>false | _=>true)=true:=by rfl) (h:zIC P t=true:=by kernel_rfl):(eqV P t p (.nils z)).map PV.bool=some (.bool false):=by rw [zU3 he hp h];rfl
theorem zAz {xs:List PV}:List.take xs.length (List.drop 0 xs)=xs:=by rw [List.drop_zero,List.take_length]
section
variable [Yo] {P:Program} {H:zBl} {f:FuncId} {e:Env} {lg:Option Log}
end
theorem zTD {α:Type} {g:α→PV} {l:List α} (h:0<l.length):zFc (.sl (l.map g))=true:=by
 cases l with
 | nil=>exact absurd h (Nat.lt_irrefl _)
 | cons x l=>rfl
theorem zNC {P:Program} {t:TypeId} {z:Nat} {α:Type} {g:α→PV} {l:List α} (hp:0<l.length) (h:zIC P t=true:=by kernel_rfl):zHx P .eql t (.sl (l.map g)) (.nils z)=some (.bool false):=by
 have:=zS7 (P:=P) (t:=t) (z:=z) (zTD (g:=g) hp) rfl h
 simpa [zHx] using this
class FrzOf {α:Type} (g:α→PV) (g':outParam (α→PV)):Prop where
 frz:∀ x,zAY (g x)=g' x
theorem zAN {α:Type} {g g':α→PV} [h:FrzOf g g'] (l:List α):zAu (l.map g)=l.map g':=zAI l h.frz
section
variable {α:Type} {g:α→PV} {l:List α} {i z:Nat} {b:PV} {u0:α}
end
end Go.Eng
namespace Go.Eng
open Go
theorem zGe {r z:Nat} {pre:zA0} {xs ys:List PV} (h:zAu xs=ys):PV.mapW (inl r pre (.own z xs)) (.bor r pre z 0 xs.length) = .sl ys:=by
 have e:zAP r pre r pre=true:=by simp [zAP]
 have e2:Nat.ble (0+xs.length) xs.length=true:=by simp
 simp only [PV.mapW,inl,e,cond_true,List.drop_length]
 show zFq (zAA (.own z xs) []) (zCb 0 xs.length)=_
 simp only [zAA,zFq,zCb,e2,cond_true]
 rw [zA5 h]
theorem blz (l:List PV):(0+l.length).ble l.length=true:=by rw [Nat.zero_add];exact Nat.ble_self_eq_true _
theorem frT {α:Type} (g:α→PV) (l:List α) (h:∀ x,zAY (g x)=g x:=by intro x;simp only [zAY,zAu,zFM,zE5,zH9]):PV.sl (zAu (List.take (List.map g l).length (List.drop 0 (List.map g l))))=PV.sl (List.map g l):=zPh (zA5 (zAI l h))
theorem frC {α:Type} (g g':α→PV) [FrzOf g g'] (l:List α):PV.sl (zAu (List.take (List.map g l).length (List.drop 0 (List.map g l))))=PV.sl (List.map g' l):=zPh (zA5 (zAN l))
theorem lnS {α:Type} (g:α→PV) (l:List α):some (List.map g l).length=some l.length:=by rw [List.length_map]
theorem wrN (i:Nat) (h:(i:Int)+1<9223372036854775808:=by omega):PV.int IntKind.i64 (IntKind.i64.wrap ((i:Int)+1))=PV.int IntKind.i64 ((i+1:Nat):Int):=zCP (by omega) (by omega)
theorem zAd [Yo] {P:Program} {H:zBl} {f:FuncId} {nt:Nat} {e:Env} {lg:Option Log} {K:X→Env→Option Log→Prop} {c:Code} (m:Nat) (h:WS P H f (cl c) (0+m) (zWi (zHY P H f (cl c) m 0 {dr:=bif zRa (cl c) then some ([],[]) else none,e:=e,lg:=lg})) (zXQ P H f nt (cr c) K .norm)) (h1:zVq c=true:=by kernel_rfl) (h2:zUZ (cl c)=true:=by kernel_rfl) (h3:(zHY P H f (cl c) m 0 {dr:=bif zRa (cl c) then some ([],[]) else none,e:=e,lg:=lg}).isSome=true:=by kernel_rfl) (h4:(0+m).ble (zFr (cl c)).size=true:=by kernel_rfl):W P H f nt c e lg K:=zAg (zAe (zAc m h h3 h4) h2) h1
abbrev zs (F:List Int) (i k:Nat):PV:=PV.int IntKind.i64 ((F.set i (i:Int)).getD k 0)
abbrev z8 (i:Nat):PV:=PV.int IntKind.i64 ((List.replicate 8 (0:Int)).getD i 0)
end Go.Eng
