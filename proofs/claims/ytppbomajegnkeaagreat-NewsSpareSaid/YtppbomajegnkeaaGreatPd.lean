/- For any news, cries and evenings the law NewsSpare ends in true: the cries that can be left out, or the error, are as specified; without conditions. -/
import Derived.Test.YtppbomajegnkeaaGreatPc
import Derived.Test.YtppbomajegnkeaaGreatPa
import Derived.KernelRfl
import Derived.IntWalk
set_option linter.unusedVariables false
set_option linter.unusedSimpArgs false
set_option linter.unusedSectionVars false
namespace Go.Eng
open Go
section
variable {P:Program} {H:zBc} {w0 w:World} {U Φ0 Φ:Nat→Prop} {nt:Nat} {hv:Hid} {a:Act} {e e':Env} {rv:Nat→Value} {E:Nat→PV} {L:Nat→List Nat} {o:zAC}
theorem zUs (S:St w0 U Φ0 nt hv a w e Φ rv E L) {g:Nat} (hg:zAb≤g) {k:PV→PM} {k2:PM} (h:(zQs (E g) k k2).run o e=some e') :
  k2.run o e=some e'∨∃ e1 rv1 E1,(k (E1 g)).run o e1=some e'∧Worked w0 U Φ0 nt hv a w rv E g e1 rv1 E1:=by
 have hX:=S.conf.rep g
 have fin:∀ {r:Nat} {pre:zAO} {q root p':PV} (hr:r<zAb) (yG:(E r).unlock=E r) (hq:zAz (E r) pre=some q) (h1:q.oneCell=true) (hm:zAv (fun _=>some .bad) (E r) pre=some root),
   (E g).oneCell=true→p'.oneCell=true→(∀ nv Li,zAN w (rv r) (E r) pre=some (nv,q)→Rep w Φ (zA1 w rv E) q nv Li→Li.Nodup→∃ Lg,Rep w Φ (zA1 w rv E) p' (rv g) Lg∧Lg.Nodup∧∀ b∈Lg,b∈Li) →
   (k p').run o (e.set r root)=some e'→∃ e1 rv1 E1,(k (E1 g)).run o e1=some e'∧Worked w0 U Φ0 nt hv a w rv E g e1 rv1 E1:=by
  intro r pre q root p' hr yG hq h1 hm uT jf y7 hk
  obtain ⟨kk1,kk2⟩:=zBD (q' := .bad) rfl rfl hm
  obtain ⟨nv,Li,g1,g2,g3,g4,g5⟩:=S.taken hg hr yG hq h1 hm kk1 kk2
  obtain ⟨Lg,p1,p2,p3⟩:=y7 nv Li g1 g2 g3
  obtain ⟨L',S1,vd⟩:=g5 p' (rv g) Lg p1 p2 (fun b hb => .inl (p3 b hb))
  have jH:∀ s,upd rv g (rv g) s=rv s:=fun s=>by
   by_cases hs:s=g
   ·subst hs;rw [zAj]
   ·rw [zAg hs]
  refine ⟨_,_,_,by rw [zAj];exact hk,⟨⟨_,_,S1⟩,jH g,fun s _=>jH s,fun s hs hI=>⟨by rw [zAg hI,zAg (by omega)],jH s⟩,?_,?_⟩⟩
  ·rw [zAj,(zBf jf).2,(zBf uT).2]
  ·rw [zAj,(zBf jf).1,(zBf uT).1];rfl
 generalize hE:E g=p at h
 rw [hE] at hX
 simp only [zQs] at h
 split at h
 ·rename_i r pre z lo n
  obtain ⟨q,hq,h1⟩:=zBB h
  obtain ⟨_,hr,⟨b,cap,yD,_⟩,hn⟩:=hX
  split at h1
  ·rename_i sz xs
   cases hc:Nat.ble (lo+n) xs.length with
   | false=>rw [hc] at h1;exact .inl h1
   | true =>
    rw [hc] at h1;simp only [cond_true] at h1
    obtain ⟨root,hl,hm,h2⟩:=zBP h1
    have yG:=zBv hl
    rw [yG,← S.env r hr] at hq
    rw [← S.env r hr] at yG hm
    refine .inr (fin hr yG hq rfl hm (by rw [hE];rfl) rfl (fun nv Li hf uV yW=>?_) h2)
    obtain ⟨s2,xs2,q1,q2,q3⟩:=hn nv _ (by rw [yG];exact hf) rfl
    cases q1;subst q2
    obtain ⟨Lg,p1,p2,p3⟩:=zIk uV (Nat.le_of_ble_eq_true hc) q3
    exact ⟨Lg,p1,p3 yW,p2⟩
  ·exact .inl h1
 ·rename_i r pre sh
  obtain ⟨q,hq,h1⟩:=zBB h
  obtain ⟨_,hr,b,yD,y1,hn⟩:=hX
  split at h1
  ·rename_i q
   obtain ⟨root,hl,hm,h2⟩:=zBP h1
   have yG:=zBv hl
   rw [yG,← S.env r hr] at hq
   rw [← S.env r hr] at yG hm
   refine .inr (fin hr yG hq rfl hm (by rw [hE];rfl) rfl (fun nv Li hf uV yW=>?_) h2)
   refine ⟨Li,?_,yW,fun b hb=>hb⟩
   have hrp':=uV
   obtain ⟨x,c,u,L',h3,h4,h5,_⟩:=hrp'
   have h6:nv=rv g:=by
    rw [yD,h4]
    have:=hn nv _ (by rw [yG];exact hf) x (by rw [h4];cases x;simp_all [zA4,zAr])
    rw [this]
   rw [← h6];exact uV
  ·exact .inl h1
 ·rename_i r pre
  obtain ⟨q,hq,h1⟩:=zBB h
  obtain ⟨_,hr,⟨b,yD⟩,hn⟩:=hX
  split at h1
  ·rename_i es
   obtain ⟨root,hl,hm,h2⟩:=zBP h1
   have yG:=zBv hl
   rw [yG,← S.env r hr] at hq
   rw [← S.env r hr] at yG hm
   refine .inr (fin hr yG hq rfl hm (by rw [hE];rfl) rfl (fun nv Li hf uV yW=>⟨Li,?_,yW,fun b hb=>hb⟩) h2)
   rw [hn nv _ (by rw [yG];exact hf) _ rfl];exact uV
  ·exact .inl h1
 ·exact .inl h
theorem zLI (S:St w0 U Φ0 nt hv a w e Φ rv E L) {g:Nat} (hg:zAb≤g) {frz:Bool} {k:PV→PM} (h:(zFM frz (E g) k).run o e=some e'):∃ e1 rv1 E1,(k (E1 g)).run o e1=some e'∧Worked w0 U Φ0 nt hv a w rv E g e1 rv1 E1:=by
 have iced:(zLG zAm zDs (E g) k).run o e=some e'→∃ e1 rv1 E1,(k (E1 g)).run o e1=some e'∧Worked w0 U Φ0 nt hv a w rv E g e1 rv1 E1:=by
  intro h
  obtain ⟨e1,Φ1,E1,L1,h1,S1,h2,h3,h4,h5,h6,h7⟩:=zIX (hb:=zAm) hg (by decide) zDs S h
  exact ⟨e1,rv,E1,h1,⟨⟨_,_,S1⟩,rfl,fun _ _=>rfl,fun s hs hI=>⟨h3 s hs hI,rfl⟩,h6,h7⟩⟩
 simp only [zFM] at h
 cases hc:(frz||(E g).ways.any fun w=>Nat.ble zAm w.1) with
 | true=>rw [hc] at h;exact iced h
 | false =>
  rw [hc] at h;simp only [cond_false] at h
  rcases zUs S hg h with h | h
  ·exact iced h
  ·exact h
theorem zKl {frz:Bool}:∀ (ps:List PV) (i:Nat) {k:List PV→PM} {e:Env} {Φ:Nat→Prop} {rv:Nat→Value} {E:Nat→PV} {L:Nat→List Nat},St w0 U Φ0 nt hv a w e Φ rv E L→(∀ (j:Nat) (p:PV),ps[j]? = some p→E (zAb+i+j)=p)→(zCm frz ps k).run o e=some e' →
  ∃ e1 Φ1 rv1 E1 L1 qs,(k qs).run o e1=some e'∧St w0 U Φ0 nt hv a w e1 Φ1 rv1 E1 L1∧qs.length=ps.length∧(∀ (j:Nat) (q:PV),qs[j]? = some q→E1 (zAb+i+j)=q∧rv1 (zAb+i+j)=rv (zAb+i+j)) ∧
   (∀ s,s<zAb→rv1 s=rv s)∧∀ s,zAb≤s→(s<zAb+i∨zAb+i+ps.length≤s)→E1 s=E s∧rv1 s=rv s
 | [],i,k,e,Φ,rv,E,L,S,hp,h=>⟨e,Φ,rv,E,L,[],h,S,rfl,by simp,fun _ _=>rfl,fun _ _ _=>⟨rfl,rfl⟩⟩
 | p :: ps,i,k,e,Φ,rv,E,L,S,hp,h=>by
  simp only [zCm] at h
  have hE:=hp 0 p rfl
  simp only [Nat.add_zero] at hE
  rw [← hE] at h
  obtain ⟨e1,rv1,E1,h1,W⟩:=zLI S (g:=zAb+i) (by omega) h
  obtain ⟨Φ1,L1,S1⟩:=W.st
  obtain ⟨e2,Φ2,rv2,E2,L2,qs,h2,S2,h3,h4,h5,h6⟩:=zKl ps (i+1) S1 (fun j q hq=>by
   rw [(W.rest _ (by omega) (by omega)).1,show zAb+(i+1)+j=zAb+i+(j+1) by omega];exact hp (j+1) q (by simpa using hq)) h1
  refine ⟨e2,Φ2,rv2,E2,L2,E1 (zAb+i)::qs,h2,S2,by simp [h3],fun j q hq=>?_,fun s hs=>(h5 s hs).trans (W.low s hs),fun s hs jq=>?_⟩
  ·cases j with
   | zero =>
    simp at hq;subst hq
    obtain ⟨k1,k2⟩:=h6 (zAb+i) (by omega) (.inl (by omega))
    simp only [Nat.add_zero]
    exact ⟨k1,k2.trans W.val⟩
   | succ j =>
    obtain ⟨k1,k2⟩:=h4 j q (by simpa using hq)
    rw [show zAb+(i+1)+j=zAb+i+(j+1) by omega] at k1 k2
    exact ⟨k1,k2.trans (W.rest _ (by omega) (by omega)).2⟩
  ·obtain ⟨k1,k2⟩:=h6 s hs (by simp at jq;omega)
   obtain ⟨k3,k4⟩:=W.rest s hs (by simp at jq;omega)
   exact ⟨k1.trans k3,k2.trans k4⟩
theorem zKa (C:Conf w0 U Φ0 w Φ rv E L):∀ (qs:List PV) (vs:List Value) (i:Nat),vs.length=qs.length→(∀ (j:Nat) (q:PV) (v:Value),qs[j]? = some q→vs[j]? = some v→E (i+j)=q∧rv (i+j)=v) →
  ∃ Lp,zAX w Φ (zA1 w rv E) qs vs Lp∧Lp.Nodup∧∀ b∈Lp,∃ t,i≤t∧t<i+qs.length∧b∈L t
 | [],vs,i,hl,h=>by
  have:vs=[]:=List.eq_nil_of_length_eq_zero (by simpa using hl)
  subst this;exact ⟨[],⟨rfl,rfl⟩,List.nodup_nil,by simp⟩
 | q :: qs,vs,i,hl,h=>by
  match vs,hl,h with
  | v :: vs,hl,h =>
   obtain ⟨h1,h2⟩:=h 0 q v rfl rfl
   simp only [Nat.add_zero] at h1 h2
   obtain ⟨Lp,k1,k2,k3⟩:=zKa C qs vs (i+1) (by simpa using hl) fun j q' v' hq hv=>by
    rw [show i+1+j=i+(j+1) by omega];exact h (j+1) q' v' (by simpa using hq) (by simpa using hv)
   have hr:=C.rep i
   rw [h1,h2] at hr
   refine ⟨L i++Lp,⟨v,vs,_,_,rfl,rfl,hr,k1⟩,?_,fun b hb=>?_⟩
   ·rw [List.nodup_append]
    refine ⟨C.nodup i,k2,fun x hx y hy e=>?_⟩
    obtain ⟨t,k4,k5,k6⟩:=k3 y hy
    exact C.disj i t (by omega) x hx (e▸k6)
   ·rcases List.mem_append.1 hb with hb | hb
    ·exact ⟨i,Nat.le_refl _,by simp,hb⟩
    ·obtain ⟨t,k4,k5,k6⟩:=k3 b hb
     exact ⟨t,by omega,by simp;omega,k6⟩
theorem zMs (S:St w0 U Φ0 nt hv a w e Φ rv E L) {j g:Nat} (hj:j<1000) (hg:zAb≤g) (hb:∀ s,zAb≤s→s≠g→E s = .bad) {k:PM} (h:(lay (zAx+j) (E g) k).run o e=some e') :
  ∃ e1 E1 L1,k.run o e1=some e'∧St w0 U Φ0 nt hv a w e1 Φ (upd rv (zAx+j) (rv g)) E1 L1∧zBk E1:=by
 have hh:zAm=50000000:=rfl
 have ho:zAx=60000000:=rfl
 have wV:zAb=1000000000:=rfl
 have jv:=S.small
 obtain ⟨e1,E1,L1,h1,C,h2,h3,h4,h5,h6⟩:=zQS S (d:=zAx+j) (by omega) hg h
 have u8:∀ d ps,d≠zAx+j→d<zAb→E1 d = .tup ps→∃ ps',E d = .tup ps'∧ps'.length=ps.length:=by
  intro d ps hd uf hp
  rcases h3 d hd uf with h7 | h7
  ·exact ⟨ps,by rw [← h7,hp],rfl⟩
  ·rw [h7] at hp;exact zDV (zIg _ _) hp
 refine ⟨e1,E1,L1,h1,⟨C,h2,S.size,S.small,fun t ht=>?_,fun d ps i hd hp hi=>?_,fun s h7 h8=>?_,S.dfr⟩,fun s hs=>?_⟩
 ·rw [zAg (by omega)];exact S.tmps t ht
 ·obtain ⟨ps',h7,h8⟩:=u8 d ps (by omega) (by omega) hp
  obtain ⟨h9,vs,jQ,vG⟩:=S.parts d ps' i hd h7 (by omega)
  refine ⟨h9,vs,by rw [zAg (by omega)];exact jQ,?_⟩
  rw [zAg (by simp only [zBp];omega)];exact vG
 ·rw [zAg (by omega)];exact S.hid s h7 h8
 ·by_cases ya:s=g
  ·subst ya;exact h5
  ·rcases h6 s hs ya with h7 | h7
   ·rw [h7];exact hb s hs ya
   ·rw [h7,hb s hs ya];rfl
theorem zWU (S:St w0 U Φ0 nt hv a w e Φ rv E L) (hb:zBk E) {frz:Bool} {j:Nat} (hj:j<1000) {p:PV} {v:Value} (hp:Rep w Φ (zA1 w rv E) p v []) {k:PM} (h:(zGq frz p fun q=>lay (zAx+j) q k).run o e=some e') :
  ∃ e1 Φ1 rv1 E1 L1,k.run o e1=some e'∧St w0 U Φ0 nt hv a w e1 Φ1 rv1 E1 L1∧zBk E1∧rv1 (zAx+j)=v∧∀ s,s<zAb→s≠zAx+j→rv1 s=rv s:=by
 have ho:zAx=60000000:=rfl
 have wV:zAb=1000000000:=rfl
 have single:(zFM frz p fun q=>lay (zAx+j) q k).run o e=some e'→∃ e1 Φ1 rv1 E1 L1,k.run o e1=some e'∧St w0 U Φ0 nt hv a w e1 Φ1 rv1 E1 L1∧zBk E1∧rv1 (zAx+j)=v∧∀ s,s<zAb→s≠zAx+j→rv1 s=rv s:=by
  intro h
  have S1:=S.hold (g:=zAb) (Nat.le_refl _) hp
  obtain ⟨e1,rv1,E1,h1,W⟩:=zLI S1 (g:=zAb) (Nat.le_refl _) (by rw [zAj];exact h)
  obtain ⟨Φ1,L1,S2⟩:=W.st
  obtain ⟨e2,E2,L2,h2,S3,qX⟩:=zMs S2 hj (Nat.le_refl zAb) (fun s hs hI=>by rw [(W.rest s hs hI).1,zAg hI];exact hb s hs) h1
  refine ⟨e2,Φ1,_,E2,L2,h2,S3,qX,?_,fun s hs hI=>?_⟩
  ·rw [zAj,W.val,zAj]
  ·rw [zAg hI,W.low s hs,zAg (by omega)]
 simp only [zGq] at h
 split at h
 ·rename_i cs
  obtain ⟨vs,rfl,hr⟩:=hp
  obtain ⟨rv1,E1,L1,S1,k1,k2,k3⟩:=zKQ cs vs.toList 1 S hr
  have yN:=hr.length
  have yT:∀ (j:Nat) (p:PV),cs[j]? = some p→∃ v,vs.toList[j]? = some v:=fun j p hj=>⟨_,List.getElem?_eq_getElem (by have:=(List.getElem?_eq_some_iff.1 hj).1;omega)⟩
  obtain ⟨e2,Φ2,rv2,E2,L2,qs,h2,S2,h3,h4,h5,h6⟩:=zKl cs 1 S1 (fun j p hjp=>by
   obtain ⟨v,yD⟩:=yT j p hjp
   exact (k2 j p v hjp yD).1) h
  have vI:∀ s,zAb≤s→(s<zAb+1∨zAb+1+cs.length≤s)→E2 s = .bad:=fun s hs jq=>by
   rw [(h6 s hs jq).1,(k3 s hs jq).1];exact hb s hs
  have gW:∀ (j:Nat) (q:PV) (v:Value),qs[j]? = some q→vs.toList[j]? = some v→E2 (zAb+1+j)=q∧rv2 (zAb+1+j)=v:=fun j q v hq yD=>by
   obtain ⟨m1,m2⟩:=h4 j q hq
   have ja:j<cs.length:=by have:=(List.getElem?_eq_some_iff.1 hq).1;omega
   have:=k2 j _ v (List.getElem?_eq_getElem ja) yD
   exact ⟨m1,m2.trans this.2.1⟩
  obtain ⟨Lp,r1,r2,r3⟩:=zKa S2.conf qs vs.toList (zAb+1) (by omega) gW
  have hG:∀ s,decide (zAb+1≤s∧s<zAb+1+cs.length)=true↔zAb+1≤s∧s<zAb+1+cs.length:=fun s=>decide_eq_true_iff
  have hc:=S2.conf.make (w':=w) (fun s=>decide (zAb+1≤s∧s<zAb+1+cs.length)) (fun s hs=>by have:=(hG s).1 hs;omega) (g:=zAb) (Nat.le_refl _) (p := .agg qs) (v := .agg vs) (Lp:=Lp)
   (fun A hA=>⟨vs,rfl,r1.mono zDf.refl hA (fun _ _=>rfl)⟩) r2 (fun b hb=>by
    obtain ⟨t,q1,q2,q3⟩:=r3 b hb
    exact .inl ⟨t,q3,(hG t).2 ⟨q1,by omega⟩⟩) (Nat.le_refl _) (fun _ _ _=>rfl) ⟨rfl,rfl,rfl⟩
  have yr:∀ s,s<zAb→decide (zAb+1≤s∧s<zAb+1+cs.length)=false:=fun s hs=>decide_eq_false (by omega)
  have S3:=S2.turn (e':=e2) hc (fun s hs=>by
   rw [zAg (by omega)]
   simp only [yr s hs,Bool.false_eq_true,if_false];exact S2.env s hs) (fun s hs=>zAg (by omega)) (fun d ps hd hp=>by
   rw [zAg (by omega)] at hp
   simp only [yr d (by omega),Bool.false_eq_true,if_false] at hp;exact ⟨ps,hp,rfl⟩)
  obtain ⟨e4,E4,L4,m1,S4,m2⟩:=zMs S3 hj (Nat.le_refl zAb) (fun s hs hI=>by
   rw [zAg hI]
   by_cases h7:s<zAb+1+cs.length
   ·simp only [(hG s).2 ⟨by omega,h7⟩,if_true]
   ·have:decide (zAb+1≤s∧s<zAb+1+cs.length)=false:=decide_eq_false (by omega)
    simp only [this,Bool.false_eq_true,if_false];exact vI s hs (by omega)) (by rw [zAj];exact h2)
  refine ⟨e4,Φ2,_,E4,L4,m1,S4,m2,?_,fun s hs hI=>?_⟩
  ·rw [zAj,zAj]
  ·rw [zAg hI,zAg (by omega),h5 s hs,(k1 s hs).2]
 ·exact single h
def zWn (nt:Nat):ResultVar→Bool
 | .tmp t=>Nat.blt t nt
 | .cell t _=>Nat.blt t nt
def zGU (a:Act):ResultVar→Sem Value
 | .tmp t=>pure (a.tmps.getD t undef)
 | .cell t ty=>do loadVar ty (← asAddr (a.tmps.getD t undef))
theorem zMy {frz:Bool}:∀ (rs:List ResultVar) (j:Nat) {e:Env} {Φ:Nat→Prop} {rv:Nat→Value} {E:Nat→PV} {L:Nat→List Nat},St w0 U Φ0 nt hv a w e Φ rv E L→zBk E→j+rs.length≤1000→(∀ x∈rs,zWn nt x=true)→(zCA P frz j rs).run o e=some e' →
  ∃ Φ1 rv1 E1 L1,St w0 U Φ0 nt hv a w e' Φ1 rv1 E1 L1∧zBk E1∧(∀ s,s<zAx+j→rv1 s=rv s)∧∀ (i:Nat) (x:ResultVar),rs[i]? = some x→(zGU a x).run P w = .ok (rv1 (zAx+j+i)) w
 | [],j,e,Φ,rv,E,L,S,hb,hj,hr,h=>by
  simp only [zCA,PM.run,Option.some.injEq] at h;subst h
  exact ⟨Φ,rv,E,L,S,hb,fun _ _=>rfl,by simp⟩
 | x :: rs,j,e,Φ,rv,E,L,S,hb,hj,hr,h=>by
  have ho:zAx=60000000:=rfl
  have wV:zAb=1000000000:=rfl
  simp only [List.length_cons] at hj
  have hx:=hr x (by simp)
  have fin:∀ {p:PV} {v:Value},Rep w Φ (zA1 w rv E) p v []→(zGU a x).run P w = .ok v w→(zGq frz p fun q=>lay (zAx+j) q (zCA P frz (j+1) rs)).run o e=some e' →
    ∃ Φ1 rv1 E1 L1,St w0 U Φ0 nt hv a w e' Φ1 rv1 E1 L1∧zBk E1∧(∀ s,s<zAx+j→rv1 s=rv s)∧∀ (i:Nat) (y:ResultVar),(x::rs)[i]? = some y→(zGU a y).run P w = .ok (rv1 (zAx+j+i)) w:=by
   intro p v hp yD h
   obtain ⟨e1,Φ1,rv1,E1,L1,h1,S1,y6,h2,h3⟩:=zWU S hb (by omega) hp h
   obtain ⟨Φ2,rv2,E2,L2,S2,j4,h4,h5⟩:=zMy rs (j+1) S1 y6 (by omega) (fun y hy=>hr y (by simp [hy])) h1
   refine ⟨Φ2,rv2,E2,L2,S2,j4,fun s hs=>(h4 s (by omega)).trans (h3 s (by omega) (by omega)),fun i y hy=>?_⟩
   cases i with
   | zero =>
    simp at hy;subst hy
    rw [Nat.add_zero,h4 _ (by omega),h2];exact yD
   | succ i =>
    rw [show zAx+j+(i+1)=zAx+(j+1)+i by omega]
    exact h5 i y (by simpa using hy)
  cases x with
  | tmp t =>
   have uN:t<nt:=zBW hx
   have ye:t<zAb:=Nat.lt_of_lt_of_le uN (Nat.le_trans S.small (by decide))
   simp only [zCA,PM.run] at h
   rw [← S.env t ye] at h
   exact fin (S.conf.view ye) (by simp only [zGU,Sem.run_pure];rw [S.tmps t uN]) h
  | cell t ty =>
   have uN:t<nt:=zBW hx
   have ye:t<zAb:=Nat.lt_of_lt_of_le uN (Nat.le_trans S.small (by decide))
   simp only [zCA] at h
   obtain ⟨sh,j5,h1⟩:=zBz h
   simp only [PM.run] at h1
   rw [← S.env t ye] at h1
   have yD:=S.conf.view ye
   split at h1
   ·rename_i r pre i c s' u7
    rw [u7] at yD
    obtain ⟨b,u,q,q1,q2,q3,q4⟩:=zLC (P:=P) S j5 yD h1
    exact fin q4 (by simp only [zGU,Sem.run_bind];rw [S.tmps t uN,q1];simp [asAddr,q2]) q3
   ·cases h1
end
end Go.Eng
namespace Go.Eng
open Go
def zVC (P:Program) (fn:Func):Bool :=
 match fn.body with
 | none=>true
 | some c=>zCy P fn.ntmps c&&fn.results.toList.all (zWn fn.ntmps)&&Nat.ble fn.ntmps 2000000&&Nat.ble fn.results.size 1000
section
variable {P:Program} {H:zBc} {w:World} {orc:zAC} {yo:zCD}
theorem zJu {α β:Type} {f:α→Sem β}:∀ (l:List α) (vs:List β),l.length=vs.length→(∀ (i:Nat) (x:α) (v:β),l[i]? = some x→vs[i]? = some v→(f x).run P w = .ok v w)→(l.mapM f).run P w = .ok vs w
 | [],[],_,_=>rfl
 | [],_::_,h,_=>by cases h
 | _::_,[],h,_=>by cases h
 | x::l,v::vs,h,hf=>by
  simp only [List.mapM_cons,Sem.run_bind,hf 0 x v rfl rfl,Result.andThen_ok,zJu l vs (by simpa using h) (fun i y u hy hu=>hf (i+1) y u (by simpa using hy) (by simpa using hu)),Sem.run_pure]
theorem zNM {fn:Func} {a:Act} {vs:List Value} (hl:fn.results.size=vs.length) (h:∀ (i:Nat) (x:ResultVar) (v:Value),fn.results.toList[i]? = some x→vs[i]? = some v→(zGU a x).run P w = .ok v w) :
  (results fn a.tmps).run P w = .ok (if h:vs.toArray.size=1 then vs.toArray[0] else .tuple vs.toArray) w:=by
 have h1:=zJu (P:=P) (w:=w) (f:=zGU a) fn.results.toList vs (by simpa using hl) h
 have h2:(fn.results.mapM (zGU a)).run P w = .ok vs.toArray w:=by
  rw [Array.mapM_eq_mapM_toList]
  simp only [Sem.run_map,h1,Result.andThen_ok]
 have h3:(fun | .tmp t=>pure (a.tmps.getD t undef) | .cell t ty=>do loadVar ty (← asAddr (a.tmps.getD t undef)):ResultVar→Sem Value)=zGU a:=by
  funext x;cases x<;>rfl
 simp only [results,Sem.run_bind]
 have h4:(fn.results.mapM (fun | .tmp t=>pure (a.tmps.getD t undef) | .cell t ty=>do loadVar ty (← asAddr (a.tmps.getD t undef)):ResultVar→Sem Value)).run P w = .ok vs.toArray w:=by rw [h3];exact h2
 erw [h4]
 rfl
theorem zIV {fn:Func} {tmps:Array Value} {R:Ending→World→Prop}:∀ (ds:List Deferred) (w:World),(∀ d∈ds,∃ D,d.target = .collected D∧w.heap[D]? = some (.deferred (some [])))→ds.Pairwise (fun d d'=>∀ D D',d.target = .collected D→d'.target = .collected D'→D≠D') →
  (∀ w',w'.heap.size=w.heap.size→(∀ b,(∀ d∈ds,d.target ≠ .collected b)→w'.heap[b]? = w.heap[b]?)→(w'.os=w.os∧w'.tape=w.tape∧w'.output=w.output)→LeavesIn (FF none) 0 P fn tmps R [] .returning w')→LeavesInM (FF none) 0 P fn tmps R ds .returning w
 | [],w,_,_,h=>h w rfl (fun _ _=>rfl) ⟨rfl,rfl,rfl⟩
 | d :: ds,w,h1,h2,h=>by
  obtain ⟨D,q1,q2⟩:=h1 d (by simp)
  obtain ⟨p1,p2⟩:=List.pairwise_cons.1 h2
  refine ⟨by simp,.inl ⟨D,_,q1,run_takeDeferred q2,zIV ds _ (fun d' hd=>?_) p2 fun w' g1 g2 g3=>?_⟩⟩
  ·obtain ⟨D',r1,r2⟩:=h1 d' (by simp [hd])
   exact ⟨D',r1,(World.putObj_heap_other (Ne.symm (p1 d' hd D D' q1 r1))).trans r2⟩
  ·refine h w' (g1.trans (by simp)) (fun b hb=>(g2 b fun d' hd=>hb d' (by simp [hd])).trans (World.putObj_heap_other fun e=>hb d (by simp) (e▸q1))) g3
theorem zVi (zE4:P.follows .mixedOrders=true) (jF:zF9 P orc) (hnm:zEL P) (qf:zMH P yo) {f:FuncId} {fn:Func} {body:Code} {n:Nat} {args hid hO:List PV} {v:PV} (hf:P.funcs[f]? = some fn) (yV:fn.body=some body) (hwf:zVC P fn=true) (h:zJv P H orc yo zB5 n f fn body args hid=some (v,hO)) :
    Means P f args hid v hO:=by
  have ho:zAx=60000000:=rfl
  have hh:zAm=50000000:=rfl
  have wV:zAb=1000000000:=rfl
  simp only [zVC,yV,Bool.and_eq_true] at hwf
  obtain ⟨⟨⟨jJ,y8⟩,u5⟩,jP⟩:=hwf
  have u5:=Nat.le_of_ble_eq_true u5
  have jP:=Nat.le_of_ble_eq_true jP
  simp only [zJv] at h
  cases hc:(Nat.ble args.length fn.ntmps&&Nat.ble hid.length 1000&&args.all fun p => !p.isTup) with
  | false=>rw [hc] at h;cases h
  | true =>
    rw [hc] at h;simp only [cond_true] at h
    simp only [Bool.and_eq_true] at hc
    obtain ⟨⟨yL,u4⟩,u8⟩:=hc
    have yL:=Nat.le_of_ble_eq_true yL
    have u4:=Nat.le_of_ble_eq_true u4
    have key : ∀ x e1,exec P H orc yo zB5 fn.ntmps (H f) n body (zA5 args hid) none=some (x,e1,none)→(x = .norm∨x = .ret)→∀ e',(zCA P (H f).frz 0 fn.results.toList).run orc e1=some e' →
        (bif Nat.beq fn.results.size 1&&(e'.get zAx).isTup then none else some (zVO e' fn.results.size,(List.range hid.length).map fun j=>e'.get (zAm+j)))=some (v,hO)→Means P f args hid v hO:=by
      intro x e1 hx gS e' wH yd w Φ rv E L vs hE kU C yE yf j0
      refine callsIn_wide.1 (callsIn_of_wp_marks (n:=0) hf yV trivial ?_)
      have hntm:vs.size+(fn.ntmps-vs.size)=fn.ntmps:=by omega
      have S:St w (fun b=>∃ s,b∈L s) Φ fn.ntmps ⟨rv,[]⟩ {tmps:=vs++Array.replicate (fn.ntmps-vs.size) undef,defers:=[]} w (zA5 args hid) Φ rv E L:=by
        refine ⟨C,hE,by simp;omega,u5,fun t ht=>?_,fun d ps i hd hp hi=>?_,fun _ _ _=>rfl,rfl⟩
        · simp only [Array.getD_eq_getD_getElem?,Array.getElem?_append]
          by_cases h1:t<vs.size
          · rw [if_pos h1,yf t (by omega)];rfl
          · rw [if_neg h1,Array.getElem?_replicate,if_pos (by omega),j0 t (by omega) (by omega)];rfl
        · rw [hE d (by omega),zC8 (by omega)] at hp
          split at hp
          · rename_i v7
            have:(args.getD d .bad)∈args:=by
              simp only [List.getD,List.getElem?_eq_getElem v7,Option.getD_some];exact List.getElem_mem v7
            have:=List.all_eq_true.1 u8 _ this
            rw [hp] at this;cases this
          · split at hp
            · omega
            · cases hp
      have hw:=zHz (zWv jF hnm) zE4 n body (.inr (zWK zE4 jF hnm qf)) jJ (fun _ _=>trivial) rfl (⟨rfl,w,_,Φ,[],Rel.refl,⟨fun _ h=>(by cases h),.nil⟩,Φ,rv,E,L,S,kU⟩:GB w (fun b=>∃ s,b∈L s) Φ fn.ntmps rv _ w _ none) hx
      refine wpIn_mono hw fun ex a' w1 ⟨gT,_,wz,Uz,Φz,ds,wy,wW,Φ1,rv1,E1,L1,Sz,y6⟩=>?_
      have u9:LeavesInM (FF none) 0 P fn a'.tmps (fun e w'=>∃ u Φ' rv' E' L',e = .returned u∧Conf w (fun b=>∃ s,b∈L s) Φ w' Φ' rv' E' L'∧hO.length=hid.length ∧
          (∀ j,j<hid.length→E' (zAm+j)=hO.getD j .bad∧rv' (zAm+j)=rv (zAm+j))∧Gave v u rv' E') a'.defers .returning w1:=by
       rw [Sz.dfr]
       have gX:∀ d∈ds,∀ D,d.target = .collected D→(∀ s,D∉L1 s)∧¬ Φ1 D∧w.heap.size≤D:=by
         intro d hd D hD
         obtain ⟨D',q1,q0,q2,q3,q4,q5⟩:=wW.each d hd
         rw [q1] at hD;cases hD
         refine ⟨fun s hs=>?_,fun h=>?_,q0⟩
         · rcases (Sz.conf.own s D hs).2.2 with h | h
           · exact q4 h
           · omega
         · rcases (Sz.conf.frz D h).2 with h | h | h
           · exact q5 h
           · exact q4 h
           · omega
       refine zIV ds w1 (fun d hd=>?_) wW.apart fun w' m1 m2 m3=>?_
       · obtain ⟨D,q1,_,q2,q3,q4,_⟩:=wW.each d hd
         exact ⟨D,q1,(Sz.conf.kept D q2 q4).trans q3⟩
       have C1:Conf w (fun b=>∃ s,b∈L s) Φ w' Φ1 rv1 E1 L1:=(Sz.conf.rebase wy).moved (by omega) (fun s b hb=>m2 b fun d hd h=>(gX d hd b h).1 s hb) (fun b hb=>m2 b fun d hd h=>(gX d hd b h).2.1 hb) (fun b hb _=>m2 b fun d hd h=>by have:=(gX d hd b h).2.2;omega) m3
       have S1:St w (fun b=>∃ s,b∈L s) Φ fn.ntmps ⟨rv,ds⟩ a' w' e1 Φ1 rv1 E1 L1:=Sz.with C1
       obtain ⟨Φ2,rv2,E2,L2,S2,j4,_,h3⟩:=zMy fn.results.toList 0 S1 y6 (by simpa using jP) (fun y hy=>List.all_eq_true.1 y8 y hy) wH
       let us:List Value:=(List.range fn.results.size).map fun i=>rv2 (zAx+i)
       have yA:=zNM (P:=P) (w:=w') (fn:=fn) (a:=a') (vs:=us) (by simp [us]) (fun i y u hy hu=>by
         have:=h3 i y hy
         rw [Nat.add_zero] at this
         rw [this]
         have hi:i<fn.results.size:=by have:=(List.getElem?_eq_some_iff.1 hy).1;simpa using this
         simp only [us,List.getElem?_map,List.getElem?_range hi,Option.map_some,Option.some.injEq] at hu
         rw [hu])
       refine ⟨_,yA,_,Φ2,rv2,E2,L2,rfl,S2.conf,?_⟩
       have hv:v=zVO e' fn.results.size∧hO=(List.range hid.length).map fun j=>e'.get (zAm+j):=by
         revert yd
         cases (Nat.beq fn.results.size 1&&(e'.get zAx).isTup) with
         | true=>intro h;cases h
         | false=>intro h;simp only [cond_false,Option.some.injEq,Prod.mk.injEq] at h;exact ⟨h.1.symm,h.2.symm⟩
       obtain ⟨uL,ke⟩:=hv
       refine ⟨by rw [ke];simp,fun j hj=>⟨?_,S2.hid _ (by omega) (by omega)⟩,?_⟩
       · rw [S2.env _ (by omega),ke]
         simp [List.getD,hj]
       · by_cases h1:fn.results.size=1
         · have u5:(e'.get zAx).isTup=false:=by
             revert yd
             cases hb:(e'.get zAx).isTup with
             | true=>simp [h1]
             | false=>intro _;rfl
           have hv3:v=e'.get zAx:=by rw [uL,zVO,if_pos h1]
           have vp:us=[rv2 zAx]:=by simp only [us,h1];rfl
           refine ⟨fun _=>⟨by rw [S2.env _ (by omega),hv3],?_⟩,fun ps y5=>?_⟩
           · rw [vp];rfl
           · rw [hv3] at y5;rw [y5] at u5;cases u5
         · have hv3:v = .tup ((List.range fn.results.size).map fun j=>e'.get (zAx+j)):=by rw [uL,zVO,if_neg h1]
           refine ⟨fun h=>absurd hv3 (h _),fun ps y5=>?_⟩
           rw [hv3] at y5
           simp only [PV.tup.injEq] at y5
           subst y5
           refine ⟨us.toArray,?_,by simp [us],fun j p hj=>?_⟩
           · rw [dif_neg (by simpa [us] using h1)]
           · simp only [List.getElem?_map] at hj
             cases hr:(List.range fn.results.size)[j]? with
             | none=>rw [hr] at hj;cases hj
             | some k =>
               rw [hr] at hj;simp only [Option.map_some,Option.some.injEq] at hj
               obtain ⟨jI,ud⟩:=List.getElem?_eq_some_iff.1 hr
               simp only [List.getElem_range] at ud
               subst ud
               simp only [List.length_range] at jI
               exact ⟨by rw [S2.env _ (by omega)];exact hj,by simp [us,jI]⟩
      subst gT
      rcases gS with rfl | rfl<;>exact u9
    revert h
    cases hx:exec P H orc yo zB5 fn.ntmps (H f) n body (zA5 args hid) none with
    | none=>intro h;cases h
    | some r =>
      obtain ⟨x,e1,lg⟩:=r
      intro h
      cases x with
      | ex id=>cases lg<;>cases h
      | norm =>
        cases lg with
        | some g=>cases h
        | none =>
          cases wH:(zCA P (H f).frz 0 fn.results.toList).run orc e1 with
          | none=>simp only [wH] at h;cases h
          | some e'=>simp only [wH] at h;exact key .norm e1 hx (.inl rfl) e' wH h
      | ret =>
        cases lg with
        | some g=>cases h
        | none =>
          cases wH:(zCA P (H f).frz 0 fn.results.toList).run orc e1 with
          | none=>simp only [wH] at h;cases h
          | some e'=>simp only [wH] at h;exact key .ret e1 hx (.inr rfl) e' wH h
def zEJ (P:Program) (H:zBc):Prop:=∀ (f:FuncId) (fn:Func) (args hid:List PV) (v:PV) (hO:List PV),P.funcs[f]? = some fn→(H f).intr≠0→intrin P fn (H f).intr args hid=some (v,hO)→Callable P f∧Means P f args hid v hO
def Fit (P:Program) (H:zBc):Prop:=∀ (f:FuncId) (fn:Func),P.funcs[f]? = some fn→(H f).intr=0→zVC P fn=true
def zTT (P:Program) (g:FuncId) (first:List PV) (i:Nat) (caps:List PV) (k:Int) (plan:List (List PV)):Prop :=
  ∀ (J:List (List PV)→World→(Nat→Prop)→Prop) (Jx:World→Prop) (Ψ:Nat→Prop),Client P i plan k Ψ J Jx→∀ (w:World) (Φ:Nat→Prop) (rv:Nat→Value) (E:Nat→PV) (L:Nat→List Nat) (vs:Array Value) (B:Nat→Prop),
   (∀ s,s<zAb→E s=(zA5 (first++PV.yld i::caps) []).get s)→(∀ s,zAb≤s→E s = .bad)→Conf w (fun b=>∃ s,b∈L s) Φ w Φ rv E L→vs.size=(first++PV.yld i::caps).length→(∀ j,j<(first++PV.yld i::caps).length→vs[j]? = some (rv j)) →
   (∀ s,(first++PV.yld i::caps).length≤s→s<zAm→rv s=undef)→J [] w B→(∀ b,B b→∀ s,b∉L s)→(∀ b,Φ b→Ψ b∨¬ B b) →
   CallsIn (FF none) 0 P g vs w fun en w'=>(∃ v,en = .returned v)∧((k-plan.length≠0∧∃ B',J plan w' B')∨(k-plan.length=0∧Jx w'))
theorem zPf (zE4:P.follows .mixedOrders=true) (jF:zF9 P orc) (hnm:zEL P) (zMR:Fit P H) {n:Nat} {g:FuncId} {first caps:List PV} {i:Nat} {k:Int} {plan:List (List PV)} (h:zW0 P H orc yo zB5 n g first i caps k=some plan):Callable P g∧(first++PV.yld i::caps).length≤zAm∧zTT P g first i caps k plan:=by
 have hh:zAm=50000000:=rfl
 simp only [zW0] at h
 split at h
 ·rename_i fn hf
  split at h
  ·rename_i body yV
   rcases zBe h with ⟨hc,h⟩ | ⟨_,h⟩
   ·simp only [Bool.and_eq_true] at hc
    obtain ⟨⟨⟨⟨h1,h2⟩,h3⟩,h4⟩,hint⟩:=hc
    have hint:=Nat.eq_of_beq_eq_true hint
    have h1:=Nat.le_of_ble_eq_true h1
    have hwf:=zMR g fn hf hint
    simp only [zVC,yV,Bool.and_eq_true] at hwf
    obtain ⟨⟨⟨jJ,y8⟩,u5⟩,jP⟩:=hwf
    have u5:=Nat.le_of_ble_eq_true u5
    have u8:(first++PV.yld i::caps).all (fun p => !p.isTup)=true:=by
     rw [List.all_append,List.all_cons,Bool.and_eq_true] 
     rw [List.all_append,Bool.and_eq_true] at h3
     exact ⟨h3.1,by rw [h3.2];rfl⟩
    have hk:k≠0:=by simpa using h4
    refine ⟨⟨fn,hf,by rw [yV];rfl⟩,by omega,?_⟩
    have key:∀ {x:X} {e1:Env} {l:Log},exec P H orc yo zB5 fn.ntmps (H g) n body (zA5 (first++PV.yld i::caps) []) (some ⟨[],k,i⟩)=some (x,e1,some l)→(x = .norm∨x = .ret)→l.xs=plan→zTT P g first i caps k plan:=fun hx gS hg J Jx Ψ hC w Φ rv E L vs B hE kU C yE yf j0 hJ hBL hBΦ =>
     zVf zE4 jF hnm hC hf yV jJ u5 h1 u8 h2 hx gS hg hk hE kU C yE yf j0 hJ hBL hBΦ
    split at h
    ·rename_i e1 l hx
     simp only [Option.some.injEq] at h
     exact key hx (.inl rfl) h
    ·rename_i e1 l hx
     simp only [Option.some.injEq] at h
     exact key hx (.inr rfl) h
    ·cases h
   ·cases h
  ·cases h
 ·cases h
theorem zEU [Yo] (zE4:P.follows .mixedOrders=true) (hnm:zEL P) (zMR:Fit P H) (hin:zEJ P H) (qf:zMH P Yo.yo):∀ n,zF9 P (zCR P H n)
 | 0=>by intro f args hid v hO h;cases h
 | n + 1 => by
  have jF:=zEU zE4 hnm zMR hin qf n
  intro f args hid v hO h
  have h:zIQ P H (zCR P H n) Yo.yo zB5 (n+1) f args hid=some (v,hO):=h
  simp only [zIQ] at h
  split at h
  ·rename_i fn hf
   split at h
   ·rename_i hi
    exact hin f fn args hid v hO hf hi h
   ·rename_i hi
    split at h
    ·rename_i body yV
     exact ⟨⟨fn,hf,by rw [yV];rfl⟩,zVi zE4 jF hnm qf hf yV (zMR f fn hf (by simpa using hi)) h⟩
    ·cases h
  ·cases h
abbrev yo0:Yo:=⟨fun _ _ _ _ _=>none⟩
noncomputable def zTx (P:Program) (H:zBc) (n:Nat):zCD:=fun g first i caps k=>zW0 P H (@zCR P H yo0 n) yo0.yo zB5 (n+1) g first i caps k
open Classical in
noncomputable def zW5 (P:Program) (H:zBc):zCD:=fun g first i caps k=>if h:∃ xs n0,∀ n,n0≤n→zTx P H n g first i caps k=some xs then some (Classical.choose h) else none
noncomputable abbrev yo1 (P:Program) (H:zBc):Yo:=⟨zW5 P H⟩
theorem zUG {g:FuncId} {first:List PV} {i:Nat} {caps:List PV} {k:Int} {xs:List (List PV)} {n0:Nat} (h:∀ n,n0≤n→zTx P H n g first i caps k=some xs):zW5 P H g first i caps k=some xs:=by
 have h':∃ xs n0,∀ n,n0≤n→zTx P H n g first i caps k=some xs:=⟨xs,n0,h⟩
 simp only [zW5,dif_pos h']
 obtain ⟨n1,h1⟩:=Classical.choose_spec h'
 have h2:=h1 (max n0 n1) (by omega)
 rw [h (max n0 n1) (by omega)] at h2
 exact h2.symm
theorem zPW (zE4:P.follows .mixedOrders=true) (hnm:zEL P) (zMR:Fit P H) (hin:zEJ P H):zMH P (zW5 P H):=by
 intro g first i caps k plan h
 simp only [zW5] at h
 split at h
 ·rename_i h'
  simp only [Option.some.injEq] at h;subst h
  obtain ⟨n1,h1⟩:=Classical.choose_spec h'
  exact zPf zE4 (@zEU P H yo0 zE4 hnm zMR hin (fun g first i caps k plan h=>by cases h) n1) hnm zMR (h1 n1 (by omega))
 ·cases h
end
end Go.Eng
namespace Go.Eng
open Go
def zHl:zAC:=fun _ _ _=>none
def zVZ:zCD:=fun _ _ _ _ _=>none
def zG0:All:=fun _=>none
theorem zFE {o:zAC}:∀ {p:PM} {e e1:Env},p.run zHl e=some e1→p.run o e=some e1:=by
 intro p
 induction p with
 | ok=>intro e e1 h;exact h
 | fail=>intro e e1 h;cases h
 | view s k ih=>intro e e1 h;exact ih _ h
 | get s k ih=>intro e e1 h;simp only [PM.run] at h ⊢;split at h<;>first | (cases h;done) | exact ih _ h
 | set s q k ih=>intro e e1 h;exact ih h
 | cells r pre i c n k ih=>intro e e1 h;simp only [PM.run] at h ⊢;split at h<;>first | (cases h;done) | exact ih _ _ h
 | deep r pre k ih=>intro e e1 h;simp only [PM.run] at h ⊢;split at h<;>first | (cases h;done) | exact ih _ h
 | wcells r pre i c qs k ih=>intro e e1 h;simp only [PM.run] at h ⊢;split at h<;>first | (cases h;done) | exact ih h
 | wnode r pre q k ih =>
  intro e e1 h
  simp only [PM.run] at h ⊢
  rcases zBe h with ⟨_,h⟩ | ⟨hl,h⟩
  ·cases h
  ·rw [hl];simp only [cond_false]
   split at h
   ·exact ih h
   ·cases h
 | kill r pre k ih=>intro e e1 h;exact ih h
 | frz r pre k ih=>intro e e1 h;simp only [PM.run] at h ⊢;split at h<;>first | (cases h;done) | exact ih h
 | killEx r pre k ih=>intro e e1 h;exact ih h
 | forget r k ih=>intro e e1 h;exact ih h
 | call f args hid k ih=>intro e e1 h;cases h
theorem zAo {α β:Type} {x y:Option α} {f:α→β} {r:β} (h:x.map f=some r) (g:∀ a,x=some a→y=some a):y.map f=some r:=by
 obtain ⟨a,h1,h2⟩:=Option.map_eq_some_iff.1 h
 rw [g a h1];simp [h2]
theorem zIc {o:zAC}:∀ {p:PM} {e:Env} {r:Env×Tok},p.runT zHl e=some r→p.runT o e=some r:=by
 intro p
 induction p with
 | ok=>intro e e1 h;exact h
 | fail=>intro e e1 h;cases h
 | view s k ih=>intro e e1 h;exact zAo h fun a h=>ih _ h
 | get s k ih=>intro e e1 h;simp only [PM.runT] at h ⊢;split at h<;>first | (cases h;done) | exact zAo h fun a h=>ih _ h
 | set s q k ih=>intro e e1 h;exact zAo h fun a h=>ih h
 | cells r pre i c n k ih=>intro e e1 h;simp only [PM.runT] at h ⊢;split at h<;>first | (cases h;done) | exact zAo h fun a h=>ih _ _ h
 | deep r pre k ih=>intro e e1 h;simp only [PM.runT] at h ⊢;split at h<;>first | (cases h;done) | exact zAo h fun a h=>ih _ h
 | wcells r pre i c qs k ih=>intro e e1 h;simp only [PM.runT] at h ⊢;split at h<;>first | (cases h;done) | exact zAo h fun a h=>ih h
 | wnode r pre q k ih =>
  intro e e1 h
  simp only [PM.runT] at h ⊢
  rcases zBe h with ⟨_,h⟩ | ⟨hl,h⟩
  ·cases h
  ·rw [hl];simp only [cond_false]
   split at h
   ·exact zAo h fun a h=>ih h
   ·cases h
 | kill r pre k ih=>intro e e1 h;exact zAo h fun a h=>ih h
 | frz r pre k ih=>intro e e1 h;simp only [PM.runT] at h ⊢;split at h<;>first | (cases h;done) | exact zAo h fun a h=>ih h
 | killEx r pre k ih=>intro e e1 h;exact zAo h fun a h=>ih h
 | forget r k ih=>intro e e1 h;exact zAo h fun a h=>ih h
 | call f args hid k ih=>intro e e1 h;cases h
section
variable {P:Program} {H:zBc} {o:zAC} {fz tk nl:Bool} {fzs tks:List Nat} {ops:Array Oper} {nt:Nat} {hh:FHint} {yo:zCD} {al:All}
theorem zHL {x:Oper} {h0:Nat} {args:List PV} {l:Log} {e:Env} {r:Env×Option Log} (h:zBL zHl ops x h0 args l e=some r):zBL o ops x h0 args l e=some r:=by
 simp only [zBL] at h ⊢
 split at h
 ·rcases zBe h with ⟨hc,h⟩ | ⟨_,h⟩
  ·rw [hc];simp only [cond_true]
   refine zAo h fun a h=>?_
   rcases zBe h with ⟨hk,h⟩ | ⟨hk,h⟩<;>rw [hk]
   ·exact zFE h
   ·exact zFE h
  ·cases h
 ·exact zAo h fun a h=>zFE h
 ·cases h
theorem zRz {x:Oper} {e:Env} {lg:Option Log} {r:Env×Option Log} (h:zCF P H zHl fz tk nl ops x e lg=some r):zCF P H o fz tk nl ops x e lg=some r:=by
 simp only [zCF] at h ⊢
 split at h
 ·exact zAo h fun a h=>zFE h
 ·split at h
  ·exact zHL h
  ·exact zAo h fun a h=>zFE h
theorem zMM {x:Oper} {e:Env} {lg:Option Log} {r:Env×Option Log×Tok} (h:zEc P H zHl fz tk nl ops x e lg=some r):zEc P H o fz tk nl ops x e lg=some r:=by
 simp only [zEc] at h ⊢
 split at h
 ·exact zAo h fun a h=>zIc h
 ·split at h
  ·exact zAo h fun a h=>zHL h
  ·exact zAo h fun a h=>zIc h
theorem zHg:∀ {l:List Oper} {i:Nat} {e:Env} {lg:Option Log} {r:Env×Option Log},zA7 P H zHl fzs tks nl ops l i e lg=some r→zA7 P H o fzs tks nl ops l i e lg=some r
 | [],_,_,_,_,h=>h
 | x::l,i,e,lg,r,h=>by
  simp only [zA7] at h ⊢
  cases hs:zCF P H zHl (fzs.contains i) (tks.contains i) nl ops x e lg with
  | none=>rw [hs] at h;cases h
  | some q=>rw [hs] at h;rw [zRz hs];exact zHg h
theorem zIJ:∀ {l:List Oper} {i:Nat} {acc:List Nat} {ts:List Tok} {e:Env} {lg:Option Log} {r:Env×Option Log},zCk P H zHl fzs tks nl ops l i acc ts e lg=some r→zCk P H o fzs tks nl ops l i acc ts e lg=some r
 | [],_,_,_,_,_,_,h=>h
 | x :: l,i,acc,ts,e,lg,r,h=>by
  simp only [zCk] at h ⊢
  cases hs:zEc P H zHl (fzs.contains i) (tks.contains i) nl ops x e lg with
  | none=>rw [hs] at h;cases h
  | some q =>
   rw [hs] at h;rw [zMM hs]
   simp only at h ⊢
   rcases zBe h with ⟨hc,h⟩ | ⟨_,h⟩
   ·rw [hc];exact zIJ h
   ·cases h
theorem zOi:∀ {m:Nat} {c:Code} {e:Env} {lg:Option Log} {r:X×Env×Option Log},exec P H zHl zVZ zG0 nt hh m c e lg=some r→∀ {m':Nat},m≤m'→exec P H o yo al nt hh m' c e lg=some r
 | 0,_,_,_,_,h,_,_=>by cases h
 | m + 1,c,e,lg,r,h,m',hm=>by
  obtain ⟨m',rfl⟩:∃ k,m'=k+1:=⟨m'-1,by omega⟩
  have ih:∀ {c:Code} {e:Env} {lg:Option Log} {r:X×Env×Option Log},exec P H zHl zVZ zG0 nt hh m c e lg=some r→exec P H o yo al nt hh m' c e lg=some r:=fun h=>zOi h (by omega)
  cases c with
  | region id ops draw =>
   simp only [exec] at h ⊢
   split at h
   ·rename_i e1 lg1 h1
    have:(if draw=true then zCk P H o (hh.frzs id) (hh.take id) hh.nils ops ops.toList 0 [] [] e lg else zA7 P H o (hh.frzs id) (hh.take id) hh.nils ops ops.toList 0 e lg)=some (e1,lg1):=by
     cases draw with
     | true=>exact zIJ h1
     | false=>exact zHg h1
    rw [this];exact h
   ·cases h
  | seq a b =>
   simp only [exec] at h ⊢
   cases h1:exec P H zHl zVZ zG0 nt hh m a e lg with
   | none=>rw [h1] at h;cases h
   | some q =>
    rw [h1] at h;rw [ih h1]
    obtain ⟨x,e1,lg1⟩:=q
    cases x with
    | norm=>exact ih h
    | ex id=>exact h
    | ret=>exact h
  | cond c a b =>
   cases c with
   | tmp t =>
    simp only [exec] at h ⊢
    revert h
    cases e.get t with
    | bool v=>intro h;cases v<;>exact ih h
    | _=>intro h;cases h
   | const v =>
    simp only [exec] at h ⊢
    revert h
    cases v with
    | bool v=>intro h;cases v<;>exact ih h
    | _=>intro h;cases h
   | _=>cases h
  | block id b =>
   simp only [exec] at h ⊢
   cases h1:exec P H zHl zVZ zG0 nt hh m b e lg with
   | none=>rw [h1] at h;cases h
   | some q =>
    rw [h1] at h;rw [ih h1];exact h
  | loop b =>
   simp only [exec] at h ⊢
   cases h1:exec P H zHl zVZ zG0 nt hh m b (e.drop (hh.loopDrop (zAM b))) lg with
   | none=>rw [h1] at h;cases h
   | some q =>
    rw [h1] at h;rw [ih h1]
    obtain ⟨x,e1,lg1⟩:=q
    cases x with
    | norm=>exact ih h
    | ex id=>exact h
    | ret=>exact h
  | scope b=>exact ih h
  | rangeFunc x ps ca cb =>
   cases x with
   | tmp t =>
    simp only [exec] at h
    cases lg with
    | none =>
     simp only at h
     obtain ⟨q,h1,_⟩:=Option.map_eq_some_iff.1 h
     simp only [zHi] at h1
     split at h1
     ·cases h1
     ·cases h1
    | some _=>cases h
   | _=>cases h
  | skip=>exact h
  | exit id=>exact h
  | ret=>exact h
  | label l=>exact h
  | _=>cases h
end
def cl:Code→Code
 | .seq a _=>a
 | .cond _ a _=>a
 | .block _ b=>b
 | .loop b=>b
 | .scope b=>b
 | c=>c
def cr:Code→Code
 | .seq _ b=>b
 | .cond _ _ b=>b
 | c=>c
def zVw:Code→Bool
 | .seq .. => true
 | _=>false
def zOp:Code→Bool
 | .loop _=>true
 | _=>false
def zRy:Code→Bool
 | .scope _=>true
 | _=>false
def zQl:Code→Option Nat
 | .block n _=>some n
 | _=>none
def zQr:Code→Option Nat
 | .cond (.tmp t) _ _=>some t
 | _=>none
def zUh:Code→Option Nat
 | .exit n=>some n
 | _=>none
def zWW:Code→Bool
 | .ret=>true
 | _=>false
def zTZ:Code→Bool
 | .skip=>true
 | _=>false
def zU2:Code→Bool
 | .region .. => true
 | _=>false
def rid:Code→Nat
 | .region n _ _=>n
 | _=>0
def zFf:Code→Array Oper
 | .region _ o _=>o
 | _=>#[]
def zQN:Code→Bool
 | .region _ _ d=>d
 | _=>false
def zDP (c : Code) (i : Nat) : Oper := (zFf c)[i]?.getD { dst := none, op := .move (.const .nilIface), type := 0, pos := "", after := #[], guard := none }
theorem zSk {c:Code} (h:zVw c=true):c = .seq (cl c) (cr c):=by cases c<;>first | rfl | cases h
theorem zL3 {c:Code} (h:zOp c=true):c = .loop (cl c):=by cases c<;>first | rfl | cases h
theorem zPz {c:Code} (h:zRy c=true):c = .scope (cl c):=by cases c<;>first | rfl | cases h
theorem zS4 {c:Code} (h:zWW c=true):c = .ret:=by cases c<;>first | rfl | cases h
theorem zQU {c:Code} (h:zTZ c=true):c = .skip:=by cases c<;>first | rfl | cases h
theorem zS1 {c:Code} (h:zU2 c=true):c = .region (rid c) (zFf c) (zQN c):=by cases c<;>first | rfl | cases h
theorem zPO {c:Code} {n:Nat} (h:zQl c=some n):c = .block n (cl c):=by cases c<;>first | (cases h;rfl) | cases h
theorem zRW {c:Code} {n:Nat} (h:zUh c=some n):c = .exit n:=by cases c<;>first | (cases h;rfl) | cases h
theorem zPN {c:Code} {t:Nat} (h:zQr c=some t):c = .cond (.tmp t) (cl c) (cr c):=by
 cases c<;>try (cases h;done)
 rename_i x a b
 cases x<;>first | (cases h;rfl) | cases h
section
variable [Yo] (P:Program) (H:zBc)
def zAp (f:FuncId) (args hid:List PV) (v:PV) (hO:List PV):Prop:=∃ n0,∀ n,n0≤n→zCR P H n f args hid=some (v,hO)
def W (f:FuncId) (nt:Nat) (c:Code) (e:Env) (lg:Option Log) (K:X→Env→Option Log→Prop):Prop :=
 ∃ n0 x e' lg',(∀ n m,n0≤n→n0≤m→exec P H (zCR P H n) Yo.yo zB5 nt (H f) m c e lg=some (x,e',lg'))∧K x e' lg'
def zFd (dr:Option (List Nat×List Tok)) (i:Nat) (o:Oper) (t:Tok):Option (Option (List Nat×List Tok)) :=
 match dr with
 | none=>some none
 | some (acc,ts)=>bif o.after.toList.all (fun e => !Region.binds .any e||Nat.blt e.on i)&&zFQ (zH2 acc o) t 0 ts then some (some (acc++[zH2 acc o],ts++[t])) else none
def zUU (orc:zAC) (fzs tks:List Nat) (nl:Bool) (ops:Array Oper) (dr:Option (List Nat×List Tok)) (l:List Oper) (i:Nat) (e:Env) (lg:Option Log):Option (Env×Option Log) :=
 match dr with
 | none=>zA7 P H orc fzs tks nl ops l i e lg
 | some (acc,ts)=>zCk P H orc fzs tks nl ops l i acc ts e lg
def WR (f:FuncId) (id:Nat) (ops:Array Oper) (dr:Option (List Nat×List Tok)) (i:Nat) (e:Env) (lg:Option Log) (K:Env→Option Log→Prop):Prop :=
 ∃ n0 eN lg',(∀ n,n0≤n→∃ e',zUU P H (zCR P H n) ((H f).frzs id) ((H f).take id) (H f).nils ops dr (ops.toList.drop i) i e lg=some (e',lg')∧(e'.drop ((H f).drop id)).norm=eN)∧K eN lg'
end
section
variable [Yo] {P:Program} {H:zBc} {f:FuncId} {nt:Nat} {e e':Env} {lg:Option Log} {K:X→Env→Option Log→Prop}
def zX6 (P:Program) (H:zBc) (f:FuncId) (nt:Nat) (b:Code) (K:X→Env→Option Log→Prop):X→Env→Option Log→Prop
 | .norm,e,lg=>W P H f nt b e lg K
 | x,e,lg=>K x e lg
theorem zXp {a b:Code} (h:W P H f nt a e lg (zX6 P H f nt b K)):W P H f nt (.seq a b) e lg K:=by
 obtain ⟨n0,x,e1,lg1,h1,h2⟩:=h
 cases x with
 | norm =>
  obtain ⟨n2,x,e2,lg2,h3,h4⟩:=h2
  refine ⟨max n0 n2+1,x,e2,lg2,fun n m hn hm=>?_,h4⟩
  obtain ⟨m,rfl⟩:∃ k,m=k+1:=⟨m-1,by omega⟩
  simp only [exec,h1 n m (by omega) (by omega),h3 n m (by omega) (by omega)]
 | ex id =>
  refine ⟨n0+1,_,e1,lg1,fun n m hn hm=>?_,h2⟩
  obtain ⟨m,rfl⟩:∃ k,m=k+1:=⟨m-1,by omega⟩
  simp only [exec,h1 n m (by omega) (by omega)]
 | ret =>
  refine ⟨n0+1,_,e1,lg1,fun n m hn hm=>?_,h2⟩
  obtain ⟨m,rfl⟩:∃ k,m=k+1:=⟨m-1,by omega⟩
  simp only [exec,h1 n m (by omega) (by omega)]
theorem zSr (m:Nat) {c:Code} {x:X} {e1:Env} {lg1:Option Log} (h:exec P H zHl zVZ zG0 nt (H f) m c e lg=some (x,e1,lg1)) (hk:K x e1 lg1):W P H f nt c e lg K :=
 ⟨m,x,e1,lg1,fun _ _ _ hm=>zOi h hm,hk⟩
theorem zUl {c:Code} {K':X→Env→Option Log→Prop} (h:W P H f nt c e lg K) (hk:∀ x e lg,K x e lg→K' x e lg):W P H f nt c e lg K':=by
 obtain ⟨n0,x,e1,lg1,h1,h2⟩:=h
 exact ⟨n0,x,e1,lg1,h1,hk _ _ _ h2⟩
theorem zX0 (h:K .ret e lg):W P H f nt .ret e lg K:=zSr 1 rfl h
theorem zW8 (h:K .norm e lg):W P H f nt .skip e lg K:=zSr 1 rfl h
theorem zWz {id:Nat} (h:K (.ex id) (zVY ((H f).ices id) e) lg):W P H f nt (.exit id) e lg K:=zSr 1 rfl h
theorem zVh {b:Code} (h:W P H f nt b e lg K):W P H f nt (.scope b) e lg K:=by
 obtain ⟨n0,x,e1,lg1,h1,h2⟩:=h
 refine ⟨n0+1,x,e1,lg1,fun n m hn hm=>?_,h2⟩
 obtain ⟨m,rfl⟩:∃ k,m=k+1:=⟨m-1,by omega⟩
 exact h1 n m (by omega) (by omega)
def Blk (id:Nat) (K:X→Env→Option Log→Prop):X→Env→Option Log→Prop
 | .ex id',e,lg=>bif Nat.beq id' id then K .norm e lg else K (.ex id') e lg
 | x,e,lg=>K x e lg
theorem zUA {id:Nat} {b:Code} (h:W P H f nt b e lg (Blk id K)):W P H f nt (.block id b) e lg K:=by
 obtain ⟨n0,x,e1,lg1,h1,h2⟩:=h
 cases x with
 | ex id' =>
  by_cases hid:id'=id
  ·subst hid
   simp only [Blk,Nat.beq_refl,cond_true] at h2
   refine ⟨n0+1,.norm,e1,lg1,fun n m hn hm=>?_,h2⟩
   obtain ⟨m,rfl⟩:∃ k,m=k+1:=⟨m-1,by omega⟩
   simp only [exec,h1 n m (by omega) (by omega),if_true]
  ·have hb:Nat.beq id' id=false:=by
    cases hc:Nat.beq id' id with
    | false=>rfl
    | true=>exact (hid (Nat.eq_of_beq_eq_true hc)).elim
   simp only [Blk,hb,cond_false] at h2
   refine ⟨n0+1,.ex id',e1,lg1,fun n m hn hm=>?_,h2⟩
   obtain ⟨m,rfl⟩:∃ k,m=k+1:=⟨m-1,by omega⟩
   simp only [exec,h1 n m (by omega) (by omega),if_neg hid]
 | norm =>
  refine ⟨n0+1,_,e1,lg1,fun n m hn hm=>?_,h2⟩
  obtain ⟨m,rfl⟩:∃ k,m=k+1:=⟨m-1,by omega⟩
  simp only [exec,h1 n m (by omega) (by omega)]
 | ret =>
  refine ⟨n0+1,_,e1,lg1,fun n m hn hm=>?_,h2⟩
  obtain ⟨m,rfl⟩:∃ k,m=k+1:=⟨m-1,by omega⟩
  simp only [exec,h1 n m (by omega) (by omega)]
theorem zWS {t:Nat} {a b:Code} {c:Bool} (ht:e.get t = .bool c) (h1:c=true→W P H f nt a e lg K) (h2:c=false→W P H f nt b e lg K):W P H f nt (.cond (.tmp t) a b) e lg K:=by
 cases c with
 | true =>
  obtain ⟨n0,x,e1,lg1,h3,h4⟩:=h1 rfl
  refine ⟨n0+1,_,_,lg1,fun n m hn hm=>?_,h4⟩
  obtain ⟨m,rfl⟩:∃ k,m=k+1:=⟨m-1,by omega⟩
  simp only [exec,ht];exact h3 n m (by omega) (by omega)
 | false =>
  obtain ⟨n0,x,e1,lg1,h3,h4⟩:=h2 rfl
  refine ⟨n0+1,_,_,lg1,fun n m hn hm=>?_,h4⟩
  obtain ⟨m,rfl⟩:∃ k,m=k+1:=⟨m-1,by omega⟩
  simp only [exec,ht];exact h3 n m (by omega) (by omega)
theorem zWf {σ:Type} (Inv:σ→Prop) (I:σ→Env) (μ:σ→Nat) {b:Code} (h:∀ s,Inv s→W P H f nt b (I s) lg fun x e lg'=>match x with
   | .norm=>∃ s',Inv s'∧μ s'<μ s∧e.drop ((H f).loopDrop (zAM b))=I s'∧lg'=lg
   | x=>K x e lg'):∀ (n:Nat) (s:σ) (e:Env),μ s≤n→Inv s→e.drop ((H f).loopDrop (zAM b))=I s→W P H f nt (.loop b) e lg K:=by
 intro n
 induction n with
 | zero =>
  intro s e hs hi he
  obtain ⟨n0,x,e1,lg1,h1,h2⟩:=h s hi
  cases x with
  | norm=>obtain ⟨s',_,h3,_⟩:=h2;omega
  | ex id =>
   refine ⟨n0+1,_,e1,lg1,fun n m hn hm=>?_,h2⟩
   obtain ⟨m,rfl⟩:∃ k,m=k+1:=⟨m-1,by omega⟩
   simp only [exec,he,h1 n m (by omega) (by omega)]
  | ret =>
   refine ⟨n0+1,_,e1,lg1,fun n m hn hm=>?_,h2⟩
   obtain ⟨m,rfl⟩:∃ k,m=k+1:=⟨m-1,by omega⟩
   simp only [exec,he,h1 n m (by omega) (by omega)]
 | succ n ih =>
  intro s e hs hi he
  obtain ⟨n0,x,e1,lg1,h1,h2⟩:=h s hi
  cases x with
  | norm =>
   obtain ⟨s',h3,h4,h7,rfl⟩:=h2
   obtain ⟨n2,x,e2,lg2,h5,h6⟩:=ih s' e1 (by omega) h3 h7
   refine ⟨max n0 n2+1,x,e2,lg2,fun n m hn hm=>?_,h6⟩
   obtain ⟨m,rfl⟩:∃ k,m=k+1:=⟨m-1,by omega⟩
   simp only [exec,he,h1 n m (by omega) (by omega),h5 n m (by omega) (by omega)]
  | ex id =>
   refine ⟨n0+1,_,e1,lg1,fun n m hn hm=>?_,h2⟩
   obtain ⟨m,rfl⟩:∃ k,m=k+1:=⟨m-1,by omega⟩
   simp only [exec,he,h1 n m (by omega) (by omega)]
  | ret =>
   refine ⟨n0+1,_,e1,lg1,fun n m hn hm=>?_,h2⟩
   obtain ⟨m,rfl⟩:∃ k,m=k+1:=⟨m-1,by omega⟩
   simp only [exec,he,h1 n m (by omega) (by omega)]
theorem zAh {c:Code} (h:W P H f nt (cl c) e lg (zX6 P H f nt (cr c) K)) (hc:zVw c=true:=by kernel_rfl):W P H f nt c e lg K:=by rw [zSk hc];exact zXp h
theorem zAn {c:Code} (h:K .ret e lg) (hc:zWW c=true:=by kernel_rfl):W P H f nt c e lg K:=by rw [zS4 hc];exact zX0 h
theorem zAk {c:Code} (h:K .norm e lg) (hc:zTZ c=true:=by kernel_rfl):W P H f nt c e lg K:=by rw [zQU hc];exact zW8 h
theorem zAA {c:Code} (n:Nat) (h:K (.ex n) (zVY ((H f).ices n) e) lg) (hc:zUh c=some n:=by kernel_rfl):W P H f nt c e lg K:=by rw [zRW hc];exact zWz h
theorem zU3 {c:Code} (h:W P H f nt (cl c) e lg K) (hc:zRy c=true:=by kernel_rfl):W P H f nt c e lg K:=by rw [zPz hc];exact zVh h
theorem zAi {c:Code} (n:Nat) (h:W P H f nt (cl c) e lg (Blk n K)) (hc:zQl c=some n:=by kernel_rfl):W P H f nt c e lg K:=by rw [zPO hc];exact zUA h
def zEo (c:Code) (e:Env):Option Bool :=
 match zQr c with
 | some t=>match e.get t with
  | .bool b=>some b
  | _=>none
 | none=>none
theorem zEb (b:Bool) {c:Code} (h1:b=true→W P H f nt (cl c) e lg K) (h2:b=false→W P H f nt (cr c) e lg K) (hc:zEo c e=some b:=by kernel_rfl):W P H f nt c e lg K:=by
 simp only [zEo] at hc
 split at hc
 ·rename_i t ht
  rw [zPN ht]
  split at hc
  ·rename_i b' hb
   simp only [Option.some.injEq] at hc;subst hc
   exact zWS hb h1 h2
  ·cases hc
 ·cases hc
theorem zBR {c:Code} (h:W P H f nt (cl c) e lg K) (hc:zEo c e=some true:=by kernel_rfl):W P H f nt c e lg K:=zEb true (fun _=>h) (fun h=>by cases h) hc
theorem zA0 {c:Code} (h:W P H f nt (cr c) e lg K) (hc:zEo c e=some false:=by kernel_rfl):W P H f nt c e lg K:=zEb false (fun h=>by cases h) (fun _=>h) hc
theorem zWy {σ:Type} {c:Code} (Inv:σ→Prop) (I:σ→Env) (μ:σ→Nat) (s:σ) (hi:Inv s) (h:∀ s,Inv s→W P H f nt (cl c) (I s) lg fun x e lg'=>match x with
   | .norm=>∃ s',Inv s'∧μ s'<μ s∧e.drop ((H f).loopDrop (zAM (cl c)))=I s'∧lg'=lg
   | x=>K x e lg') (hs:e.drop ((H f).loopDrop (zAM (cl c)))=I s:=by kernel_rfl) (hc:zOp c=true:=by kernel_rfl):W P H f nt c e lg K:=by
 rw [zL3 hc];exact zWf Inv I μ h (μ s) s e (Nat.le_refl _) hi hs
def zLY (o:Option Env):Env :=
 match o with
 | some e=>e
 | none=>[]
structure RS where
 dr:Option (List Nat×List Tok)
 e:Env
 lg:Option Log
def noY (lg:Option Log) (e:Env) (o:Oper):Bool :=
 match lg with
 | none=>true
 | some _=>(zB7 e o).isNone
def WS (P:Program) (H:zBc) (f:FuncId) (c:Code) (i:Nat) (s:RS) (R:Env→Option Log→Prop):Prop:=WR P H f (rid c) (zFf c) s.dr i s.e s.lg R
def zUT (P:Program) (H:zBc) (f:FuncId) (c:Code) (i:Nat) (s:RS):Option RS :=
 match zEc P H zHl (((H f).frzs (rid c)).contains i) (((H f).take (rid c)).contains i) (H f).nils (zFf c) (zDP c i) s.e s.lg with
 | some (e',lg',t)=>(zFd s.dr i (zDP c i) t).map fun dr=>⟨dr,e',lg'⟩
 | none=>none
def zHV (P:Program) (H:zBc) (f:FuncId) (c:Code):Nat→Nat→RS→Option RS
 | 0,_,s=>some s
 | m+1,i,s=>match zUT P H f c i s with
  | some s'=>zHV P H f c m (i+1) s'
  | none=>none
variable {i:Nat} {c:Code} {s s':RS} {R:Env→Option Log→Prop}
abbrev zWN (P:Program) (H:zBc) (f:FuncId) (c:Code) (i:Nat):PM:=opM P H (((H f).frzs (rid c)).contains i) (((H f).take (rid c)).contains i) (H f).nils (zDP c i)
def zVT (o:Option RS):RS :=
 match o with
 | some s=>s
 | none=>⟨none,[],none⟩
theorem zLV {o:Option RS} (h:o.isSome=true):o=some (zVT o):=by cases o<;>first | rfl | cases h
theorem zAf (h:WS P H f c 0 ⟨bif zQN c then some ([],[]) else none,e,lg⟩ (K .norm)) (hc:zU2 c=true:=by kernel_rfl):W P H f nt c e lg K:=by
 obtain ⟨n0,e1,lg1,h1,h2⟩:=h
 rw [zS1 hc]
 refine ⟨n0+1,_,_,lg1,fun n m hn hm=>?_,h2⟩
 obtain ⟨m,rfl⟩:∃ k,m=k+1:=⟨m-1,by omega⟩
 obtain ⟨e2,this,h3⟩:=h1 n (by omega)
 cases hd:zQN c with
 | true=>simp only [hd,cond_true,zUU,List.drop_zero] at this;simp only [exec,this,if_true,h3]
 | false=>simp only [hd,cond_false,zUU,List.drop_zero] at this;simp only [exec,this,← h3];rfl
theorem zWg (e1:Env) (h:R e1 s.lg) (he:(s.e.drop ((H f).drop (rid c))).norm=e1:=by kernel_rfl) (hi:Nat.ble (zFf c).size i=true:=by kernel_rfl):WS P H f c i s R:=by
 have hi:=Nat.le_of_ble_eq_true hi
 refine ⟨0,e1,s.lg,fun n _=>⟨s.e,?_,he⟩,h⟩
 rw [List.drop_eq_nil_of_le (by simpa using hi)]
 cases s.dr<;>rfl
theorem zAa (h:R ((s.e.drop ((H f).drop (rid c))).norm) s.lg) (hi:Nat.ble (zFf c).size i=true:=by kernel_rfl):WS P H f c i s R:=zWg _ h rfl hi
theorem zUy (h:Nat.blt i (zFf c).size=true):(zFf c)[i]? = some (zDP c i):=by
 have:i<(zFf c).size:=by simpa using h
 simp [zDP,this]
theorem zRR (h:Nat.blt i (zFf c).size=true):(zFf c).toList.drop i=zDP c i::(zFf c).toList.drop (i+1):=by
 have h1:(zFf c).toList[i]? = some (zDP c i):=by rw [Array.getElem?_toList];exact zUy h
 obtain ⟨h2,h3⟩:=List.getElem?_eq_some_iff.1 h1
 rw [← h3];exact (List.drop_eq_getElem_cons h2)
theorem zJZ {orc:zAC} {fz tk nl:Bool} {ops:Array Oper} {o:Oper} {lg':Option Log} {t:Tok} (h:zEc P H orc fz tk nl ops o e lg=some (e',lg',t)):zCF P H orc fz tk nl ops o e lg=some (e',lg'):=by
 simp only [zEc] at h
 simp only [zCF]
 split at h
 ·obtain ⟨a,h1,h2⟩:=Option.map_eq_some_iff.1 h
  cases h2
  rw [zD3 h1];rfl
 ·split at h
  ·obtain ⟨a,h1,h2⟩:=Option.map_eq_some_iff.1 h
   cases h2
   rw [h1]
  ·obtain ⟨a,h1,h2⟩:=Option.map_eq_some_iff.1 h
   cases h2
   rw [zD3 h1];rfl
theorem zLa {t:Tok} {dr':Option (List Nat×List Tok)} {lg':Option Log} (hi:Nat.blt i (zFf c).size=true) (hT:∃ n0,∀ n,n0≤n→zEc P H (zCR P H n) (((H f).frzs (rid c)).contains i) (((H f).take (rid c)).contains i) (H f).nils (zFf c) (zDP c i) s.e s.lg=some (e',lg',t))
  (hd:zFd s.dr i (zDP c i) t=some dr') (h:WS P H f c (i+1) ⟨dr',e',lg'⟩ R):WS P H f c i s R:=by
 obtain ⟨n0,hT⟩:=hT
 obtain ⟨n2,e2,lg2,h1,h2⟩:=h
 obtain ⟨dr,e,lg⟩:=s
 refine ⟨max n0 n2,e2,lg2,fun n hn=>?_,h2⟩
 have hs:=hT n (by omega)
 obtain ⟨e3,h1,h3⟩:=h1 n (by omega)
 refine ⟨e3,?_,h3⟩
 rw [zRR hi]
 cases dr with
 | none =>
  simp only [zFd,Option.some.injEq] at hd;subst hd
  simp only [zUU] at h1 ⊢
  simp only [zA7,zJZ hs];exact h1
 | some d =>
  obtain ⟨acc,ts⟩:=d
  simp only [zFd] at hd
  rcases zBe hd with ⟨hc,hd⟩ | ⟨_,hd⟩
  ·simp only [Option.some.injEq] at hd;subst hd
   simp only [zUU] at h1 ⊢
   simp only [zCk,hs,hc,cond_true];exact h1
  ·cases hd
theorem zQj {orc:zAC} {fz tk nl:Bool} {ops:Array Oper} {o:Oper} {t:Tok} (hy:noY lg e o=true) (h:(zFo P H ops fz tk nl o).runT orc e=some (e',t)):zEc P H orc fz tk nl ops o e lg=some (e',lg,t):=by
 cases lg with
 | none=>simp only [zEc,h];rfl
 | some l =>
  simp only [noY,Option.isNone_iff_eq_none] at hy
  simp only [zEc,hy,h];rfl
theorem zWY {t:Tok} {dr':Option (List Nat×List Tok)} (hi:Nat.blt i (zFf c).size=true) (hT:∃ n0,∀ n,n0≤n→(zFo P H (zFf c) (((H f).frzs (rid c)).contains i) (((H f).take (rid c)).contains i) (H f).nils (zDP c i)).runT (zCR P H n) s.e=some (e',t))
  (hd:zFd s.dr i (zDP c i) t=some dr') (h:WS P H f c (i+1) ⟨dr',e',s.lg⟩ R) (hy:noY s.lg s.e (zDP c i)=true):WS P H f c i s R:=by
 obtain ⟨n0,hT⟩:=hT
 exact zLa hi ⟨n0,fun n hn=>zQj hy (hT n hn)⟩ hd h
theorem zSD (hi:Nat.blt i (zFf c).size=true) (hs:zUT P H f c i s=some s') (h:WS P H f c (i+1) s' R):WS P H f c i s R:=by
 simp only [zUT] at hs
 split at hs
 ·rename_i e1 lg1 t ht
  obtain ⟨dr,hd,rfl⟩:=Option.map_eq_some_iff.1 hs
  exact zLa hi ⟨0,fun n _=>zMM ht⟩ hd h
 ·cases hs
theorem zMB:∀ (m:Nat) {i:Nat} {s s':RS},Nat.ble (i+m) (zFf c).size=true→zHV P H f c m i s=some s'→WS P H f c (i+m) s' R→WS P H f c i s R
 | 0,i,s,s',_,hs,h=>by simp only [zHV,Option.some.injEq] at hs;subst hs;exact h
 | m + 1,i,s,s',hi,hs,h=>by
  have qz:=Nat.le_of_ble_eq_true hi
  simp only [zHV] at hs
  split at hs
  ·rename_i s1 h1
   refine zSD (by simp;omega) h1 (zMB m ?_ hs ?_)
   ·rw [show i+1+m=i+(m+1) by omega];exact hi
   ·rw [show i+1+m=i+(m+1) by omega];exact h
  ·cases hs
theorem zAd (m:Nat) (h:WS P H f c (i+m) (zVT (zHV P H f c m i s)) R) (hs:(zHV P H f c m i s).isSome=true:=by kernel_rfl) (hi:Nat.ble (i+m) (zFf c).size=true:=by kernel_rfl):WS P H f c i s R :=
 zMB m hi (zLV hs) h
def zLc (c:Code) (i:Nat) (e:Env):Bool :=
 match (zDP c i).guard with
 | none=>true
 | some (j,want)=>match ((zFf c)[j]?).bind (·.dst) with
  | some t=>match e.get t with
   | .bool b=>b==want
   | _=>false
  | none=>false
theorem zWV {e':Env} (hm:∃ n0,∀ n,n0≤n→(zWN P H f c i).run (zCR P H n) s.e=some e') (h:WS P H f c (i+1) ⟨none,e',s.lg⟩ R) (jg:s.dr=none:=by kernel_rfl) (hy:noY s.lg s.e (zDP c i)=true:=by kernel_rfl) (hg:zLc c i s.e=true:=by kernel_rfl) (hi:Nat.blt i (zFf c).size=true:=by kernel_rfl):WS P H f c i s R:=by
 obtain ⟨n0,hm⟩:=hm
 obtain ⟨n2,e2,lg2,h1,h2⟩:=h
 obtain ⟨dr,e,lg⟩:=s
 simp only at jg hg hm hy;subst jg
 refine ⟨max n0 n2,e2,lg2,fun n hn=>?_,h2⟩
 obtain ⟨e3,h1,h3⟩:=h1 n (by omega)
 refine ⟨e3,?_,h3⟩
 have hr:(zFo P H (zFf c) (((H f).frzs (rid c)).contains i) (((H f).take (rid c)).contains i) (H f).nils (zDP c i)).run (zCR P H n) e=some e':=by
  have hm:=hm n (by omega)
  revert hg
  simp only [zLc]
  cases qY:(zDP c i).guard with
  | none=>intro _;simp only [zFo,qY];exact hm
  | some w =>
   obtain ⟨j,want⟩:=w
   intro hg
   simp only at hg
   cases hj:((zFf c)[j]?).bind (·.dst) with
   | none=>rw [hj] at hg;cases hg
   | some u =>
    rw [hj] at hg;simp only at hg
    cases hv:e.get u<;>rw [hv] at hg<;>try (cases hg;done)
    have hb:=eq_of_beq hg
    simp only [zFo,qY,hj,PM.run,hv,hb,if_true]
    exact hm
 rw [zRR hi]
 simp only [zUU] at h1 ⊢
 have hs:zCF P H (zCR P H n) (((H f).frzs (rid c)).contains i) (((H f).take (rid c)).contains i) (H f).nils (zFf c) (zDP c i) e lg=some (e',lg):=by
  cases lg with
  | none=>simp only [zCF,hr,Option.map_some]
  | some l =>
   simp only [noY,Option.isNone_iff_eq_none] at hy
   simp only [zCF,hy,hr,Option.map_some]
 simp only [zA7,hs];exact h1
end
end Go.Eng
namespace Go.Eng
open Go
section
variable {P:Program} {H:zBc} {f:FuncId} {e e':Env} {i:Nat} {c:Code} {fz tk nl:Bool} {orc:zAC}
def zXg (e:Env):Operand→PV
 | .tmp t=>view t (e.get t)
 | .const v=>zEq v
 | .func f => .func f [] []
 | .global _ => .bad
theorem zPC {α β:Type} {f:β→α→β} {b:β} {l:List α} {i:Nat} (h:i<l.length):(l.take (i+1)).foldl f b=f ((l.take i).foldl f b) l[i]:=by
 rw [List.take_add_one,List.getElem?_eq_getElem h]
 simp only [Option.toList,List.foldl_append,List.foldl]
def two (o:Oper) (r:PV):PM :=
 match o.op with
 | .binOp _ _ x y _=>opd x fun _=>opd y fun _=>put o.dst r
 | .indexAddr _ x y=>opd x fun _=>opd y fun _=>put o.dst r
 | .index _ x y=>opd x fun _=>opd y fun _=>put o.dst r
 | _ => .fail
theorem zWA {a:Int} (h : -9223372036854775808≤a∧a<9223372036854775808):IntKind.i64.wrap a=a:=by
 rw [IntKind.wrap_i64];omega
end
end Go.Eng
namespace Go.Eng
open Go
section
variable [Yo] {P:Program} {H:zBc} {f:FuncId} {e e':Env} {i:Nat} {c:Code} {s:RS} {R:Env→Option Log→Prop} {fz tk nl:Bool} {orc:zAC}
def zY9 (e:Env) (p q:PV) (l:List (Nat×zAO)):Prop:=∀ (orc:zAC) (k:PV→List (Nat×zAO)→PM),(zPp p k).run orc e=(k q l).run orc e
inductive SeenAll (e:Env):List Nat→List PV→List Arg→Prop where
 | nil {ms}:SeenAll e ms [] []
 | ref {ms ps as p}:Nat.beq (ms.headD 0) 1=true→SeenAll e ms.tail ps as→SeenAll e ms (p::ps) ({p:=p,byref:=true}::as)
 | one {ms ps as p q l}:Nat.beq (ms.headD 0) 1=false→zY9 e p q l→SeenAll e ms.tail ps as→SeenAll e ms (p::ps) ({p:=q,shared:=l}::as)
theorem zKC {o o':zAC} (ho:∀ g a h r,o g a h=some r→o' g a h=some r):∀ {p:PM} {e e1:Env},p.run o e=some e1→p.run o' e=some e1:=by
 intro p
 induction p with
 | ok=>intro e e1 h;exact h
 | fail=>intro e e1 h;cases h
 | view s k ih=>intro e e1 h;exact ih _ h
 | get s k ih=>intro e e1 h;simp only [PM.run] at h ⊢;split at h<;>first | (cases h;done) | exact ih _ h
 | set s q k ih=>intro e e1 h;exact ih h
 | cells r pre i c n k ih=>intro e e1 h;simp only [PM.run] at h ⊢;split at h<;>first | (cases h;done) | exact ih _ _ h
 | deep r pre k ih=>intro e e1 h;simp only [PM.run] at h ⊢;split at h<;>first | (cases h;done) | exact ih _ h
 | wcells r pre i c qs k ih=>intro e e1 h;simp only [PM.run] at h ⊢;split at h<;>first | (cases h;done) | exact ih h
 | wnode r pre q k ih =>
  intro e e1 h
  simp only [PM.run] at h ⊢
  rcases zBe h with ⟨_,h⟩ | ⟨hl,h⟩
  ·cases h
  ·rw [hl];simp only [cond_false]
   split at h
   ·exact ih h
   ·cases h
 | kill r pre k ih=>intro e e1 h;exact ih h
 | frz r pre k ih=>intro e e1 h;simp only [PM.run] at h ⊢;split at h<;>first | (cases h;done) | exact ih h
 | killEx r pre k ih=>intro e e1 h;exact ih h
 | forget r k ih=>intro e e1 h;exact ih h
 | call f args hid k ih =>
  intro e e1 h
  simp only [PM.run] at h ⊢
  split at h
  ·rename_i v hO hq
   rw [ho _ _ _ _ hq];exact ih _ _ h
  ·cases h
end
end Go.Eng
namespace Go.Eng
open Go
section
variable [Yo] {P:Program} {H:zBc} {f:FuncId} {e e':Env} {i:Nat} {c:Code} {s:RS} {R:Env→Option Log→Prop} {fz tk nl:Bool} {orc:zAC}
def zRh (c:Code) (i:Nat) (s:RS) (e':Env) (t:Tok):Option RS :=
 bif noY s.lg s.e (zDP c i) then match (match (zDP c i).guard with
  | none=>some t
  | some (j,want)=>match ((zFf c)[j]?).bind (·.dst) with
   | some u=>match s.e.get u with
    | .bool b=>bif b==want then some (Tok.join {rd:=[u]} t) else none
    | _=>none
   | none=>none) with
 | some t=>(zFd s.dr i (zDP c i) t).map fun dr=>⟨dr,e',s.lg⟩
 | none=>none else none
theorem zYv {m:Option (Env×Tok)} (hm:∃ n0,∀ n,n0≤n→(zWN P H f c i).runT (zCR P H n) s.e=m) (h:WS P H f c (i+1) (zVT (m.bind fun r=>zRh c i s r.1 r.2)) R) (hs:(m.bind fun r=>zRh c i s r.1 r.2).isSome=true:=by kernel_rfl) (hi:Nat.blt i (zFf c).size=true:=by kernel_rfl):WS P H f c i s R:=by
 cases m with
 | none=>cases hs
 | some r =>
 obtain ⟨e',t⟩:=r
 have yy:=zLV hs
 revert h
 generalize zVT ((some (e',t)).bind fun r=>zRh c i s r.1 r.2)=s' at yy
 intro h
 obtain ⟨n0,hm⟩:=hm
 simp only [Option.bind_some,zRh] at yy
 rcases zBe yy with ⟨hy,yy⟩ | ⟨_,yy⟩
 case inr=>cases yy
 split at yy
 ·rename_i t' ht
  obtain ⟨dr,hd,rfl⟩:=Option.map_eq_some_iff.1 yy
  refine zWY hi ⟨n0,fun n hn=>?_⟩ hd h hy
  revert ht
  cases hg:(zDP c i).guard with
  | none=>intro ht;simp only [Option.some.injEq] at ht;subst ht;simp only [zFo,hg];exact hm n hn
  | some w =>
   obtain ⟨j,want⟩:=w
   intro ht
   simp only at ht
   cases hj:((zFf c)[j]?).bind (·.dst) with
   | none=>rw [hj] at ht;cases ht
   | some u =>
    rw [hj] at ht;simp only at ht
    cases hv:s.e.get u<;>rw [hv] at ht<;>try (cases ht;done)
    rcases zBe ht with ⟨hb,ht⟩ | ⟨_,ht⟩
    ·have hb:=eq_of_beq hb
     simp only [Option.some.injEq] at ht;subst ht
     simp only [zFo,hg,hj,PM.runT,hv,hb,if_true]
     rw [hm n hn];rfl
    ·cases ht
 ·cases yy
theorem zNe {x:Operand} {p:PV} {k:PV→PM} (hx:zXg e x=p) (hp:p ≠ .bad):(opd x k).run orc e=(k p).run orc e:=by
 subst hx
 cases x with
 | tmp t=>rfl
 | const v=>rfl
 | func g=>rfl
 | global g=>exact (hp rfl).elim
theorem zNf {v:PV} (hh:v.heavy=false):v.cells.all (fun q => !q.heavy)=true:=by
 cases v<;>simp only [PV.cells,List.all_cons,List.all_nil,Bool.and_true,hh,Bool.not_false]
 rename_i cs
 simp only [PV.heavy] at hh
 refine List.all_eq_true.2 fun q hq=>?_
 obtain ⟨i,hi⟩:=List.getElem?_of_mem hq
 rw [zEj hh hi];rfl
theorem zL9:∀ {ps:List PV},ps.all (fun q=>q.ways.isEmpty)=true→zBn ps=[]
 | [],_=>rfl
 | p::ps,h=>by
  simp only [List.all_cons,Bool.and_eq_true,List.isEmpty_iff] at h
  simp only [zBn,h.1,List.nil_append,zL9 h.2]
end
end Go.Eng
namespace Go.Eng
open Go
section
variable [Yo] {P:Program} {H:zBc} {f:FuncId} {e e':Env} {i:Nat} {c:Code} {s:RS} {R:Env→Option Log→Prop} {fz tk nl:Bool} {orc:zAC}
theorem zHv {x:Option Env} (h:x.isSome=true):x=some (zLY x):=by cases x<;>first | rfl | cases h
theorem zTL {α:Type} {xs ys:List α} {y:α} {j:Nat} (h:j+(ys.length+1)≤xs.length):(xs.set j y).take (j+1)++ys++(xs.set j y).drop (j+1+ys.length)=xs.take j++(y::ys)++xs.drop (j+(ys.length+1)):=by
 obtain ⟨A, x, B, rfl, rfl⟩ : ∃ A x B, xs = A ++ x :: B ∧ A.length = j := ⟨xs.take j, xs[j]'(by omega), xs.drop (j + 1), by rw [← List.drop_eq_getElem_cons (by omega), List.take_append_drop], by simp; omega⟩
 have h1:(A++x::B).set A.length y=A++y::B:=by simp
 have h2:(A++y::B).take (A.length+1)=A++[y]:=by rw [List.take_append,List.take_of_length_le (by omega)];simp
 have h3:(A++y::B).drop (A.length+1+ys.length)=B.drop ys.length:=by
  rw [List.drop_append,List.drop_eq_nil_of_le (by omega)]
  simp [show A.length+1+ys.length-A.length=ys.length+1 by omega]
 have h4:(A++x::B).drop (A.length+(ys.length+1))=B.drop ys.length:=by
  rw [List.drop_append,List.drop_eq_nil_of_le (by omega)]
  simp
 have h5:(A++x::B).take A.length=A:=by simp
 rw [h1,h2,h3,h4,h5];simp
end
end Go.Eng
namespace Go.Eng
open Go
def Srt (e:Env):Prop:=e.Pairwise (fun a b=>a.1<b.1)∧∀ x∈e,x.2 ≠ .bad
theorem zLR:∀ {e:Env} {k:Nat},(∀ x∈e,k<x.1)→e.get k = .bad
 | [],_,_=>rfl
 | (k',v)::e,k,h=>by
  have h1:k<k':=h (k',v) (by simp)
  have:Nat.beq k' k=false:=by
   cases hb:Nat.beq k' k with
   | false=>rfl
   | true=>have:=Nat.eq_of_beq_eq_true hb;omega
  simp only [Env.get,this,cond_false]
  exact zLR fun x hx=>h x (by simp [hx])
theorem Srt.eq:∀ {e e':Env},Srt e→Srt e'→(∀ s,e.get s=e'.get s)→e=e'
 | [],[],_,_,_=>rfl
 | [],(k,v)::e',_,h2,h=>by
  have:=h k
  simp only [Env.get,Nat.beq_refl,cond_true] at this
  exact (h2.2 (k,v) (by simp) this.symm).elim
 | (k,v)::e,[],h1,_,h=>by
  have:=h k
  simp only [Env.get,Nat.beq_refl,cond_true] at this
  exact (h1.2 (k,v) (by simp) this).elim
 | (k, v)::e,(k',v')::e',h1,h2,h=>by
  obtain ⟨p1,q1⟩:=h1
  obtain ⟨p2,q2⟩:=h2
  obtain ⟨a1,b1⟩:=List.pairwise_cons.1 p1
  obtain ⟨a2,b2⟩:=List.pairwise_cons.1 p2
  have hk:k=k':=by
   rcases Nat.lt_trichotomy k k' with yF | u7 | yF
   ·have:=h k
    rw [zLR (e:=(k',v')::e') (k:=k) (fun x hx=>by
     rcases List.mem_cons.1 hx with rfl | hx
     ·exact yF
     ·exact Nat.lt_trans yF (a2 x hx))] at this
    simp only [Env.get,Nat.beq_refl,cond_true] at this
    exact (q1 (k,v) (by simp) this).elim
   ·exact u7
   ·have:=h k'
    rw [zLR (e:=(k,v)::e) (k:=k') (fun x hx=>by
     rcases List.mem_cons.1 hx with rfl | hx
     ·exact yF
     ·exact Nat.lt_trans yF (a1 x hx))] at this
    simp only [Env.get,Nat.beq_refl,cond_true] at this
    exact (q2 (k',v') (by simp) this.symm).elim
  subst hk
  have hv:=h k
  simp only [Env.get,Nat.beq_refl,cond_true] at hv
  subst hv
  congr 1
  refine Srt.eq ⟨b1,fun x hx=>q1 x (by simp [hx])⟩ ⟨b2,fun x hx=>q2 x (by simp [hx])⟩ fun s=>?_
  have hs:=h s
  simp only [Env.get] at hs
  cases hb:Nat.beq k s with
  | false=>rw [hb] at hs;exact hs
  | true =>
   have:=Nat.eq_of_beq_eq_true hb;subst this
   rw [zLR a1,zLR a2]
theorem zKO:∀ {e:Env} {k:Nat} {v:PV} {x:Nat×PV},x∈e.set k v→x=(k,v)∨x∈e
 | [],k,v,x,h=>by simp only [Env.set,List.mem_singleton] at h;exact .inl h
 | (k',v')::e,k,v,x,h=>by
  simp only [Env.set] at h
  cases hb:Nat.beq k' k with
  | true=>rw [hb] at h;simp only [cond_true,List.mem_cons] at h;rcases h with h | h<;>simp [h]
  | false =>
   rw [hb] at h;simp only [cond_false] at h
   cases hl:Nat.ble k k' with
   | true=>rw [hl] at h;simp only [cond_true,List.mem_cons] at h;rcases h with h | h | h<;>simp [h]
   | false =>
    rw [hl] at h;simp only [cond_false,List.mem_cons] at h
    rcases h with h | h
    ·simp [h]
    ·rcases zKO h with h | h<;>simp [h]
theorem Srt.set:∀ {e:Env} {k:Nat} {v:PV},Srt e→v ≠ .bad→Srt (e.set k v)
 | [],k,v,_,hv=>⟨by simp [Env.set],by simp [Env.set,hv]⟩
 | (k',v')::e,k,v,h,hv=>by
  obtain ⟨p,q⟩:=h
  obtain ⟨a,b⟩:=List.pairwise_cons.1 p
  refine ⟨?_,fun x hx=>by
   rcases zKO hx with rfl | hx
   ·exact hv
   ·exact q x hx⟩
  simp only [Env.set]
  cases hb:Nat.beq k' k with
  | true =>
   have:=Nat.eq_of_beq_eq_true hb;subst this
   exact List.pairwise_cons.2 ⟨a,b⟩
  | false =>
   have hI:k'≠k:=by intro h;subst h;rw [Nat.beq_refl] at hb;cases hb
   cases hl:Nat.ble k k' with
   | true =>
    have:=Nat.le_of_ble_eq_true hl
    exact List.pairwise_cons.2 ⟨fun x hx=>by
     rcases List.mem_cons.1 hx with rfl | hx
     ·show k<k';omega
     ·have:k'<x.1:=a x hx
      show k<x.1;omega,p⟩
   | false =>
    have yF:k'<k:=by
     have:¬ k≤k':=fun hh=>by rw [← Nat.ble_eq] at hh;rw [hh] at hl;cases hl
     omega
    refine List.pairwise_cons.2 ⟨fun x hx=>?_,(Srt.set ⟨b,fun x hx=>q x (by simp [hx])⟩ hv).1⟩
    rcases zKO hx with rfl | hx
    ·exact yF
    ·exact a x hx
theorem Srt.norm:∀ (e:Env),Srt e.norm
 | []=>⟨by simp [Env.norm],by simp [Env.norm]⟩
 | (k,v)::e=>by
  have ih:=Srt.norm e
  simp only [Env.norm,Env.put]
  split
  ·exact ⟨ih.1.filter _,fun x hx=>ih.2 x (List.mem_filter.1 hx).1⟩
  ·rename_i hv;exact ih.set (fun h=>hv h)
theorem zVA {e e':Env} (h:∀ s,e.get s=e'.get s):e.norm=e'.norm:=(Srt.norm e).eq (Srt.norm e') fun s=>by rw [zIr,zIr];exact h s
section
variable [Yo] {P:Program} {H:zBc} {f:FuncId} {i:Nat} {c:Code} {R:Env→Option Log→Prop}
theorem zFl {o:zAC} {fzs tks:List Nat} {nl:Bool} {ops:Array Oper}:∀ {l:List Oper} {i:Nat} {e g:Env} {r:Env×Option Log},g.get=e.get→zA7 P H o fzs tks nl ops l i e none=some r→∃ g1,zA7 P H o fzs tks nl ops l i g none=some (g1,r.2)∧g1.get=r.1.get
 | [],_,e,g,r,he,h=>by simp only [zA7,Option.some.injEq] at h;subst h;exact ⟨g,rfl,he⟩
 | x :: l,i,e,g,r,he,h=>by
  simp only [zA7,zCF] at h ⊢
  cases hs:(zFo P H ops (fzs.contains i) (tks.contains i) nl x).run o e with
  | none=>rw [hs] at h;cases h
  | some e1 =>
   rw [hs] at h
   obtain ⟨g1,h1,h2⟩:=zFL he hs
   rw [h1]
   exact zFl h2 h
theorem zUj {e e':Env} (h:WS P H f c i ⟨none,e',none⟩ R) (he:∀ s,e.get s=e'.get s):WS P H f c i ⟨none,e,none⟩ R:=by
 obtain ⟨n0,eN,lg',h1,h2⟩:=h
 refine ⟨n0,eN,lg',fun n hn=>?_,h2⟩
 obtain ⟨e1,h3,h4⟩:=h1 n hn
 simp only [zUU] at h3
 obtain ⟨g1,h5,h6⟩:=zFl (funext he) h3
 refine ⟨g1,h5,?_⟩
 rw [← h4]
 refine zVA fun s=>?_
 rw [Env.get_drop,Env.get_drop,h6]
def zTN (P:Program) (e:Env) (o:Oper):Option (Nat×PV×PV) :=
 match o.op with
 | .call c=>match c.callee,c.args.toList,c.argTypes.toList with
  | .builtin .copy,[x,y],t::_=>match (zBM P t).bind (szT P) with
   | some s=>some (s,zXg e x,zXg e y)
   | none=>none
  | _,_,_=>none
 | _=>none
def zWe (s:Nat) (x y:PV):Prop:=y.plain=true∧y.cells.length=s∧y.heavy=false∧y.cells.all (fun q=>q.ways.isEmpty)=true∧y.cells.length≤x.cells.length∧zAy x 0 y.cells=y
end
end Go.Eng
namespace Go.Eng
open Go
def Le (o o':zAC):Prop:=∀ g a h r,o g a h=some r→o' g a h=some r
theorem zRQ {o0 o:zAC} (ho:Le o0 o):∀ {p:PM} {e:Env} {r:Env×Tok},p.runT o0 e=some r→p.runT o e=some r:=by
 intro p
 induction p with
 | ok=>intro e e1 h;exact h
 | fail=>intro e e1 h;cases h
 | view s k ih=>intro e e1 h;exact zAo h fun a h=>ih _ h
 | get s k ih=>intro e e1 h;simp only [PM.runT] at h ⊢;split at h<;>first | (cases h;done) | exact zAo h fun a h=>ih _ h
 | set s q k ih=>intro e e1 h;exact zAo h fun a h=>ih h
 | cells r pre i c n k ih=>intro e e1 h;simp only [PM.runT] at h ⊢;split at h<;>first | (cases h;done) | exact zAo h fun a h=>ih _ _ h
 | deep r pre k ih=>intro e e1 h;simp only [PM.runT] at h ⊢;split at h<;>first | (cases h;done) | exact zAo h fun a h=>ih _ h
 | wcells r pre i c qs k ih=>intro e e1 h;simp only [PM.runT] at h ⊢;split at h<;>first | (cases h;done) | exact zAo h fun a h=>ih h
 | wnode r pre q k ih =>
  intro e e1 h
  simp only [PM.runT] at h ⊢
  rcases zBe h with ⟨_,h⟩ | ⟨hl,h⟩
  ·cases h
  ·rw [hl];simp only [cond_false]
   split at h
   ·exact zAo h fun a h=>ih h
   ·cases h
 | kill r pre k ih=>intro e e1 h;exact zAo h fun a h=>ih h
 | frz r pre k ih=>intro e e1 h;simp only [PM.runT] at h ⊢;split at h<;>first | (cases h;done) | exact zAo h fun a h=>ih h
 | killEx r pre k ih=>intro e e1 h;exact zAo h fun a h=>ih h
 | forget r k ih=>intro e e1 h;exact zAo h fun a h=>ih h
 | call f args hid k ih =>
  intro e e1 h
  simp only [PM.runT] at h ⊢
  split at h
  ·rename_i v hO hq
   rw [ho _ _ _ _ hq];exact ih _ _ h
  ·cases h
section
variable [Yo] {P:Program} {H:zBc} {o0 o:zAC} (ho:Le o0 o) {fz tk nl:Bool} {fzs tks:List Nat} {ops:Array Oper} {nt:Nat} {hh:FHint} {yo0 yo:zCD} {al:All}
include ho in
theorem zJz {x:Oper} {h0:Nat} {args:List PV} {l:Log} {e:Env} {r:Env×Option Log} (h:zBL o0 ops x h0 args l e=some r):zBL o ops x h0 args l e=some r:=by
 simp only [zBL] at h ⊢
 split at h
 ·rcases zBe h with ⟨hc,h⟩ | ⟨_,h⟩
  ·rw [hc];simp only [cond_true]
   refine zAo h fun a h=>?_
   rcases zBe h with ⟨hk,h⟩ | ⟨hk,h⟩<;>rw [hk]
   ·exact zKC ho h
   ·exact zKC ho h
  ·cases h
 ·exact zAo h fun a h=>zKC ho h
 ·cases h
include ho in
theorem zTw {x:Oper} {e:Env} {lg:Option Log} {r:Env×Option Log} (h:zCF P H o0 fz tk nl ops x e lg=some r):zCF P H o fz tk nl ops x e lg=some r:=by
 simp only [zCF] at h ⊢
 split at h
 ·exact zAo h fun a h=>zKC ho h
 ·split at h
  ·exact zJz ho h
  ·exact zAo h fun a h=>zKC ho h
include ho in
theorem zTB {x:Oper} {e:Env} {lg:Option Log} {r:Env×Option Log×Tok} (h:zEc P H o0 fz tk nl ops x e lg=some r):zEc P H o fz tk nl ops x e lg=some r:=by
 simp only [zEc] at h ⊢
 split at h
 ·exact zAo h fun a h=>zRQ ho h
 ·split at h
  ·exact zAo h fun a h=>zJz ho h
  ·exact zAo h fun a h=>zRQ ho h
include ho in
theorem zHO:∀ {l:List Oper} {i:Nat} {e:Env} {lg:Option Log} {r:Env×Option Log},zA7 P H o0 fzs tks nl ops l i e lg=some r→zA7 P H o fzs tks nl ops l i e lg=some r
 | [],_,_,_,_,h=>h
 | x::l,i,e,lg,r,h=>by
  simp only [zA7] at h ⊢
  cases hs:zCF P H o0 (fzs.contains i) (tks.contains i) nl ops x e lg with
  | none=>rw [hs] at h;cases h
  | some q=>rw [hs] at h;rw [zTw ho hs];exact zHO h
include ho in
theorem zKz:∀ {l:List Oper} {i:Nat} {acc:List Nat} {ts:List Tok} {e:Env} {lg:Option Log} {r:Env×Option Log},zCk P H o0 fzs tks nl ops l i acc ts e lg=some r→zCk P H o fzs tks nl ops l i acc ts e lg=some r
 | [],_,_,_,_,_,_,h=>h
 | x :: l,i,acc,ts,e,lg,r,h=>by
  simp only [zCk] at h ⊢
  cases hs:zEc P H o0 (fzs.contains i) (tks.contains i) nl ops x e lg with
  | none=>rw [hs] at h;cases h
  | some q =>
   rw [hs] at h;rw [zTB ho hs]
   simp only at h ⊢
   rcases zBe h with ⟨hc,h⟩ | ⟨_,h⟩
   ·rw [hc];exact zKz h
   ·cases h
include ho in
theorem zQd:∀ {m:Nat} {c:Code} {e:Env} {lg:Option Log} {r:X×Env×Option Log},exec P H o0 yo0 zG0 nt hh m c e lg=some r→∀ {m':Nat},m≤m'→exec P H o yo al nt hh m' c e lg=some r
 | 0,_,_,_,_,h,_,_=>by cases h
 | m + 1,c,e,lg,r,h,m',hm=>by
  obtain ⟨m',rfl⟩:∃ k,m'=k+1:=⟨m'-1,by omega⟩
  have ih:∀ {c:Code} {e:Env} {lg:Option Log} {r:X×Env×Option Log},exec P H o0 yo0 zG0 nt hh m c e lg=some r→exec P H o yo al nt hh m' c e lg=some r:=fun h=>zQd h (by omega)
  cases c with
  | region id ops draw =>
   simp only [exec] at h ⊢
   split at h
   ·rename_i e1 lg1 h1
    have:(if draw=true then zCk P H o (hh.frzs id) (hh.take id) hh.nils ops ops.toList 0 [] [] e lg else zA7 P H o (hh.frzs id) (hh.take id) hh.nils ops ops.toList 0 e lg)=some (e1,lg1):=by
     cases draw with
     | true=>exact zKz ho h1
     | false=>exact zHO ho h1
    rw [this];exact h
   ·cases h
  | seq a b =>
   simp only [exec] at h ⊢
   cases h1:exec P H o0 yo0 zG0 nt hh m a e lg with
   | none=>rw [h1] at h;cases h
   | some q =>
    rw [h1] at h;rw [ih h1]
    obtain ⟨x,e1,lg1⟩:=q
    cases x with
    | norm=>exact ih h
    | ex id=>exact h
    | ret=>exact h
  | cond c a b =>
   cases c with
   | tmp t =>
    simp only [exec] at h ⊢
    revert h
    cases e.get t with
    | bool v=>intro h;cases v<;>exact ih h
    | _=>intro h;cases h
   | const v =>
    simp only [exec] at h ⊢
    revert h
    cases v with
    | bool v=>intro h;cases v<;>exact ih h
    | _=>intro h;cases h
   | _=>cases h
  | block id b =>
   simp only [exec] at h ⊢
   cases h1:exec P H o0 yo0 zG0 nt hh m b e lg with
   | none=>rw [h1] at h;cases h
   | some q =>
    rw [h1] at h;rw [ih h1];exact h
  | loop b =>
   simp only [exec] at h ⊢
   cases h1:exec P H o0 yo0 zG0 nt hh m b (e.drop (hh.loopDrop (zAM b))) lg with
   | none=>rw [h1] at h;cases h
   | some q =>
    rw [h1] at h;rw [ih h1]
    obtain ⟨x,e1,lg1⟩:=q
    cases x with
    | norm=>exact ih h
    | ex id=>exact h
    | ret=>exact h
  | scope b=>exact ih h
  | rangeFunc x ps ca cb =>
   cases x with
   | tmp t =>
    simp only [exec] at h
    cases lg with
    | none =>
     simp only at h
     obtain ⟨q,h1,_⟩:=Option.map_eq_some_iff.1 h
     simp only [zHi] at h1
     split at h1
     ·cases h1
     ·cases h1
    | some _=>cases h
   | _=>cases h
  | skip=>exact h
  | exit id=>exact h
  | ret=>exact h
  | label l=>exact h
  | _=>cases h
end
section
variable [Yo] {P:Program} {H:zBc}
theorem zSm {o0 o:zAC} (ho:Le o0 o) {yo0 yo:zCD} {al:All} {n n':Nat} (hn:n≤n') {f:FuncId} {args hid:List PV} {r:PV×List PV} (h:zIQ P H o0 yo0 zG0 n f args hid=some r):zIQ P H o yo al n' f args hid=some r:=by
 simp only [zIQ] at h ⊢
 cases hf:P.funcs[f]? with
 | none=>rw [hf] at h;cases h
 | some fn =>
  rw [hf] at h
  simp only at h ⊢
  by_cases hi:(H f).intr≠0
  ·rw [if_pos hi] at h ⊢;exact h
  ·rw [if_neg hi] at h ⊢
   cases hb:fn.body with
   | none=>rw [hb] at h;cases h
   | some body =>
    rw [hb] at h
    simp only [zJv] at h ⊢
    rcases zBe h with ⟨hc,h⟩ | ⟨_,h⟩
    ·rw [hc];simp only [cond_true]
     cases hx:exec P H o0 yo0 zG0 fn.ntmps (H f) n body (zA5 args hid) none with
     | none=>rw [hx] at h;cases h
     | some q =>
      rw [hx] at h;rw [zQd ho hx hn]
      obtain ⟨x,e1,lg⟩:=q
      cases x<;>cases lg<;>simp only at h ⊢ <;> try (cases h;done)
      all_goals
       cases hr:(zCA P (H f).frz 0 fn.results.toList).run o0 e1 with
       | none=>rw [hr] at h;cases h
       | some e2=>rw [hr] at h;rw [zKC ho hr];exact h
    ·cases h
abbrev zWQ (P:Program) (H:zBc) (n:Nat):zAC:=(zRw P H zG0 n).1
theorem zOX:∀ (n n':Nat),n≤n'→Le (zWQ P H n) (zCR P H n')
 | 0,_,_=>fun g a h r hh=>by cases hh
 | n+1,n',hn=>by
  obtain ⟨k,rfl⟩:∃ k,n'=k+1:=⟨n'-1,by omega⟩
  intro g a h r hh
  exact zSm (zOX n k (by omega)) (by omega) hh
theorem zAp.closed {f:FuncId} {args hid hO:List PV} {v:PV} (n:Nat) (h:zWQ P H n f args hid=some (v,hO):=by kernel_rfl):zAp P H f args hid v hO:=⟨n,fun n' hn=>zOX n n' hn _ _ _ _ h⟩
end
end Go.Eng
namespace Go.Eng
open Go
section
variable {P:Program} {H:zBc}
theorem zRG (zE4:P.follows .mixedOrders=true) (hnm:zEL P) (zMR:Fit P H) (hin:zEJ P H) {f:FuncId} {args:List PV} (hg:@zAp (yo1 P H) P H f args [] (.bool true) []) {w:World} {Φ:Nat→Prop} {vs:Array Value} (hΦ:∀ b,Φ b→b<w.heap.size) (hr:zAX w Φ zB6 args vs.toList []) (uU:args.length≤zAm) :
  Calls P f vs w fun e w'=>e = .returned (.bool true)∧w.heap.size≤w'.heap.size∧(∀ b,b<w.heap.size→w'.heap[b]? = w.heap[b]?)∧w'.os=w.os∧w'.tape=w.tape∧w'.output=w.output:=by
 have wV:zAb=1000000000:=rfl
 have hhh:zAm=50000000:=rfl
 obtain ⟨n0,hg⟩:=hg
 obtain ⟨_,hm⟩:=@zEU P H (yo1 P H) zE4 hnm zMR hin (zPW zE4 hnm zMR hin) n0 f args [] (.bool true) [] (hg n0 (Nat.le_refl _))
 obtain ⟨hZ,jl⟩:=zLs hr
 have hvz:vs.size=args.length:=by rw [← hZ];simp
 have p2:Conf w (fun b=>∃ s,b∈((fun _=>[]):Nat→List Nat) s) Φ w Φ (fun s=>(vs[s]?).getD undef) (fun s=>(zA5 args []).get s) (fun _=>[]):=by
  refine ⟨fun s=>?_,fun _=>List.nodup_nil,fun _ _ _ _ h=>(by cases h),fun _ _ h=>(by cases h),fun b hb=>⟨hΦ b hb,.inl hb⟩,fun _ h=>h,Nat.le_refl _,fun _ _ _=>rfl,rfl,rfl,rfl⟩
  show Rep _ _ _ ((zA5 args []).get s) _ _
  rw [zC8 (by omega)]
  by_cases h1:s<args.length
  ·rw [if_pos h1]
   obtain ⟨v,uL,ke⟩:=jl s args[s] (List.getElem?_eq_getElem h1)
   have:vs[s]? = some v:=by rw [← Array.getElem?_toList];exact uL
   rw [this]
   simp only [List.getD,List.getElem?_eq_getElem h1,Option.getD_some]
   exact ke.mono (fun b hb=>⟨hb,rfl⟩) (fun _ _ _ h=>h.elim) (by simp)
  ·rw [if_neg h1,if_neg (by simp only [List.length_nil];omega)]
   rfl
 have hc:=hm w Φ (fun s=>(vs[s]?).getD undef) (fun s=>(zA5 args []).get s) (fun _=>[]) vs (fun _ _=>rfl) (fun s hs=>by
   rw [zC8 (by omega),if_neg (by omega),if_neg (by simp only [List.length_nil];omega)]) p2 hvz (fun j hj=>by rw [Array.getElem?_eq_getElem (by omega)];rfl) (fun s hs _=>by rw [Array.getElem?_eq_none (by omega)];rfl)
 refine hc.mono fun e w' ⟨u,Φ',rv',E',L',he,C,_,_,uv⟩=>?_
 obtain ⟨h1,h2⟩:=uv.one (fun ps h=>by cases h)
 have hX:=C.rep zAx
 rw [h1] at hX
 have hu:u = .bool true:=by rw [← h2];exact hX.1
 refine ⟨by rw [he,hu],C.size,fun b hb=>C.kept b hb (fun ⟨s,hs⟩=>by cases hs),C.os,C.tape,C.output⟩
end
end Go.Eng
namespace Go.Eng
open Go
section
variable [Yo] {P:Program} {H:zBc} {f:FuncId} {nt:Nat} {e e':Env} {lg:Option Log} {K:X→Env→Option Log→Prop} {i:Nat} {c:Code} {s:RS} {R:Env→Option Log→Prop} {fz tk nl:Bool} {orc:zAC}
theorem zB3 (p:Prop) [Decidable p] (h1:p→W P H f nt (cl c) e lg K) (h2:¬p→W P H f nt (cr c) e lg K) (hc:zEo c e=some (decide p):=by kernel_rfl):W P H f nt c e lg K :=
 zEb (decide p) (fun h=>h1 (of_decide_eq_true h)) (fun h=>h2 (of_decide_eq_false h)) hc
theorem zAU (p:Prop) [Decidable p] (hp:p) (h1:W P H f nt (cl c) e lg K) (hc:zEo c e=some (decide p):=by kernel_rfl):W P H f nt c e lg K :=
 zEb (decide p) (fun _=>h1) (fun h=>absurd hp (of_decide_eq_false h)) hc
theorem zAT (p:Prop) [Decidable p] (hp:¬p) (h2:W P H f nt (cr c) e lg K) (hc:zEo c e=some (decide p):=by kernel_rfl):W P H f nt c e lg K :=
 zEb (decide p) (fun h=>absurd (of_decide_eq_true h) hp) (fun _=>h2) hc
theorem zDh (p:Prop) [Decidable p] (h1:¬p→W P H f nt (cl c) e lg K) (h2:p→W P H f nt (cr c) e lg K) (hc:zEo c e=some (!decide p):=by kernel_rfl):W P H f nt c e lg K :=
 zEb (!decide p) (fun h=>h1 (by simpa using h)) (fun h=>h2 (by simpa using h)) hc
theorem zD8 (p:Prop) [Decidable p] (hp:¬p) (h1:W P H f nt (cl c) e lg K) (hc:zEo c e=some (!decide p):=by kernel_rfl):W P H f nt c e lg K :=
 zDh p (fun _=>h1) (fun h=>absurd h hp) hc
theorem zHm (p:Prop) [Decidable p] (hp:p) (h1:W P H f nt (cr c) e lg K) (hc:zEo c e=some (!decide p):=by kernel_rfl):W P H f nt c e lg K :=
 zDh p (fun h=>absurd hp h) (fun _=>h1) hc
theorem zEi (t:Nat) (b:Bool) (h1:b=true→WS P H f c i ⟨s.dr,s.e.set t (.bool true),s.lg⟩ R) (h2:b=false→WS P H f c i ⟨s.dr,s.e.set t (.bool false),s.lg⟩ R) (hb:s.e.set t (.bool b)=s.e:=by kernel_rfl):WS P H f c i s R:=by
 obtain ⟨dr,e,lg⟩:=s
 simp only at h1 h2 hb
 rw [← hb]
 cases b with
 | true=>exact h1 rfl
 | false=>exact h2 rfl
theorem zEM (t:Nat) (p:Prop) [Decidable p] (h1:p→WS P H f c i ⟨s.dr,s.e.set t (.bool true),s.lg⟩ R) (h2:¬p→WS P H f c i ⟨s.dr,s.e.set t (.bool false),s.lg⟩ R) (hb:s.e.set t (.bool (decide p))=s.e:=by kernel_rfl):WS P H f c i s R :=
 zEi t (decide p) (fun h=>h1 (of_decide_eq_true h)) (fun h=>h2 (of_decide_eq_false h)) hb
theorem zIS (t:Nat) (p:Prop) [Decidable p] (hp:p) (h1:WS P H f c i ⟨s.dr,s.e.set t (.bool true),s.lg⟩ R) (hb:s.e.set t (.bool (decide p))=s.e:=by kernel_rfl):WS P H f c i s R :=
 zEM t p (fun _=>h1) (fun h=>absurd hp h) hb
theorem zT6 (t:Nat) (p:Prop) [Decidable p] (hp:¬p) (h1:WS P H f c i ⟨s.dr,s.e.set t (.bool false),s.lg⟩ R) (hb:s.e.set t (.bool (decide p))=s.e:=by kernel_rfl):WS P H f c i s R :=
 zEM t p (fun h=>absurd h hp) (fun _=>h1) hb
theorem zWL (t:Nat) (p:Prop) [Decidable p] (h1:¬p→WS P H f c i ⟨s.dr,s.e.set t (.bool true),s.lg⟩ R) (h2:p→WS P H f c i ⟨s.dr,s.e.set t (.bool false),s.lg⟩ R) (hb:s.e.set t (.bool (!decide p))=s.e:=by kernel_rfl):WS P H f c i s R :=
 zEi t (!decide p) (fun h=>h1 (by simpa using h)) (fun h=>h2 (by simpa using h)) hb
theorem get_map {α β:Type} {g:α→β} {l:List α} {i:Nat} {d:α} (h:i<l.length):(l.map g)[i]? = some (g (l.getD i d)):=by
 simp [List.getD,List.getElem?_eq_getElem h]
def zXt (e:Env) (p q:PV) (l:List (Nat×zAO)) (t:Tok):Prop:=∀ (orc:zAC) (k:PV→List (Nat×zAO)→PM),(zPp p k).runT orc e=((k q l).runT orc e).map fun y=>(y.1,Tok.join t y.2)
inductive SeenAllT (e:Env):List Nat→List PV→List Arg→List Tok→Prop where
 | nil {ms}:SeenAllT e ms [] [] []
 | ref {ms ps as ts p}:SeenAllT e ms.tail ps as ts→(hb:Nat.beq (ms.headD 0) 1=true:=by kernel_rfl)→SeenAllT e ms (p::ps) ({p:=p,byref:=true}::as) ts
 | one {ms ps as ts p q l t}:zXt e p q l t→SeenAllT e ms.tail ps as ts→(hb:Nat.beq (ms.headD 0) 1=false:=by kernel_rfl)→SeenAllT e ms (p::ps) ({p:=q,shared:=l}::as) (t::ts)
def zM4:List (Nat×PV)→Env→Env
 | [],e=>e
 | (k,v)::l,e=>zM4 l (e.set k v)
theorem zAq {σ:Type} {c:Code} (Inv:σ→Prop) (upd:σ→List (Nat×PV)) (μ:σ→Nat) (s:σ) (hi:Inv s) (h:∀ s,Inv s→W P H f nt (cl c) (zM4 (upd s) (e.drop ((H f).loopDrop (zAM (cl c))))) lg fun x e' lg'=>match x with
   | .norm=>∃ s',Inv s'∧μ s'<μ s∧e'.drop ((H f).loopDrop (zAM (cl c)))=zM4 (upd s') (e.drop ((H f).loopDrop (zAM (cl c))))∧lg'=lg
   | x=>K x e' lg') (hs:e.drop ((H f).loopDrop (zAM (cl c)))=zM4 (upd s) (e.drop ((H f).loopDrop (zAM (cl c)))):=by kernel_rfl) (hc:zOp c=true:=by kernel_rfl):W P H f nt c e lg K :=
 zWy Inv (fun s=>zM4 (upd s) (e.drop ((H f).loopDrop (zAM (cl c))))) μ s hi h hs hc
end
end Go.Eng
namespace Go.Eng
open Go
theorem zJc {x:Nat→Option (List (List PV))} {r:List (List PV)} (h:∀ i,x i=some r):zB5 x=some r:=by
 have h':∃ r,∀ i,x i=some r:=⟨r,h⟩
 simp only [zB5,dif_pos h']
 have:=(Classical.choose_spec h') 0
 rw [h 0] at this
 exact this.symm
section
def zSQ [Yo] (g:FuncId) (first caps:List PV) (k:Int) (xs:List (List PV)):Prop:=∀ i,Yo.yo g first i caps k=some xs
def zFY [Yo] (g:FuncId) (first caps:List PV) (xs:List (List PV)):Prop:=zSQ g first caps (-1) xs∧∀ j:Nat,1≤j→j≤xs.length→zSQ g first caps j (xs.take j)
variable [Yo] (P:Program) (H:zBc)
def zLx (f:FuncId) (nt:Nat) (ps:List Tmp) (assign body:Code) (x:List PV) (e:Env) (K:X→Env→Prop):Prop :=
 ∃ e1,zCh ps x e=some e1∧W P H f nt assign e1 none fun y e2 lg=>y = .norm∧lg=none∧W P H f nt body e2 none fun y e3 lg=>lg=none∧K y e3
def Rg (f:FuncId) (nt:Nat) (ps:List Tmp) (assign body:Code) (R ds:List Nat) (K:X→Env→Option Log→Prop):List (List PV)→Env→Prop
 | [],e=>K .norm e none
 | x :: xs,e=>zLx P H f nt ps assign body x e fun y e3=>match y with
  | .norm=>match R with
   | []=>Rg f nt ps assign body R ds K xs (after nt [] ds e e3)
   | r::R'=>zFT e (zCJ e (r::R'))=true∧∃ e1,zEd (zCJ e (r::R')) e=some e1∧zLx P H f nt ps assign body x e1 fun y e3=>y = .norm∧Rg f nt ps assign body R ds K xs (after nt (zCJ e (r::R')) ds e e3)
  | y=>K y (after nt [] ds e e3) none
end
section
variable [Yo] {P:Program} {H:zBc} {f:FuncId} {nt:Nat} {e e':Env} {lg:Option Log} {K:X→Env→Option Log→Prop}
noncomputable abbrev zNP (P:Program) (H:zBc) (f:FuncId) (nt n m:Nat):Code→Env→Option (X×Env):=fun c e=>match exec P H (zCR P H n) Yo.yo zB5 nt (H f) m c e none with | some (x,e',none)=>some (x,e') | _=>none
def zOH (run:Code→Env→Option (X×Env)) (ps:List Tmp) (assign body:Code) (x:List PV) (e:Env):Option (X×Env):=match zCh ps x e with
 | some e1=>match run assign e1 with
  | some (.norm,e2)=>run body e2
  | _=>none
 | none=>none
theorem zBF {run:Code→Env→Option (X×Env)} {ps:List Tmp} {assign body:Code} {R ds:List Nat} {x:List PV} {xs:List (List PV)} {j:Nat}:zC0 nt run ps assign body R ds (x::xs) e j=(match zOH run ps assign body x e with
  | some (.norm,e3)=>match R with
   | []=>zC0 nt run ps assign body R ds xs (after nt [] ds e e3) (j+1)
   | r :: R=>match (bif zFT e (zCJ e (r::R)) then zEd (zCJ e (r::R)) e else none) with
    | some e1=>match zOH run ps assign body x e1 with
     | some (.norm,e3)=>zC0 nt run ps assign body (r::R) ds xs (after nt (zCJ e (r::R)) ds e e3) (j+1)
     | _=>none
    | none=>none
  | some (r,e3)=>some (some (j+1,r),after nt [] ds e e3)
  | none=>none):=by
 cases R<;>rfl
theorem zLx.run {ps:List Tmp} {assign body:Code} {x:List PV} {K:X→Env→Prop} (h:zLx P H f nt ps assign body x e K):∃ n0 y e3,(∀ n m,n0≤n→n0≤m→zOH (zNP P H f nt n m) ps assign body x e=some (y,e3))∧K y e3:=by
 obtain ⟨e1,h1,n1,y,e2,lg,h2,rfl,rfl,n2,z,e3,lg,h3,rfl,h4⟩:=h
 refine ⟨max n1 n2,z,e3,fun n m hn hm=>?_,h4⟩
 simp only [zOH,h1,zNP,h2 n m (by omega) (by omega),h3 n m (by omega) (by omega)]
theorem Rg.run {ps:List Tmp} {assign body:Code} {R ds:List Nat}:∀ {xs:List (List PV)} {e:Env},Rg P H f nt ps assign body R ds K xs e→∃ n0,
  (∃ e',(∀ n m j,n0≤n→n0≤m→zC0 nt (zNP P H f nt n m) ps assign body R ds xs e j=some (none,e'))∧K .norm e' none) ∨
  (∃ i y e',i<xs.length∧y ≠ .norm∧(∀ n m j,n0≤n→n0≤m→zC0 nt (zNP P H f nt n m) ps assign body R ds xs e j=some (some (j+i+1,y),e')) ∧
   (∀ n m j,n0≤n→n0≤m→zC0 nt (zNP P H f nt n m) ps assign body R ds (xs.take (i+1)) e j=some (some (j+i+1,y),e'))∧K y e' none)
 | [],e,h=>⟨0,.inl ⟨e,fun _ _ _ _ _=>rfl,h⟩⟩
 | x :: xs,e,h=>by
  obtain ⟨n1,y,e3,h1,h2⟩:=zLx.run h
  cases y with
  | norm =>
   cases R with
   | nil =>
    simp only at h2
    obtain ⟨n2,h3⟩:=Rg.run h2
    refine ⟨max n1 n2,?_⟩
    rcases h3 with ⟨e',h3,h4⟩ | ⟨i,y,e',hi,hy,h3,h4,h5⟩
    ·exact .inl ⟨e',fun n m j hn hm=>by rw [zBF,h1 n m (by omega) (by omega)];exact h3 n m _ (by omega) (by omega),h4⟩
    ·refine .inr ⟨i+1,y,e',by simp;omega,hy,fun n m j hn hm=>?_,fun n m j hn hm=>?_,h5⟩
     ·rw [zBF,h1 n m (by omega) (by omega)];simp only;rw [h3 n m _ (by omega) (by omega)];simp only [Option.some.injEq,Prod.mk.injEq,and_true];omega
     ·rw [List.take_succ_cons,zBF,h1 n m (by omega) (by omega)];simp only;rw [h4 n m _ (by omega) (by omega)];simp only [Option.some.injEq,Prod.mk.injEq,and_true];omega
   | cons r R' =>
    simp only at h2
    obtain ⟨hc,e1,hf,hr⟩:=h2
    obtain ⟨n3,z,e4,h6,rfl,h7⟩:=zLx.run hr
    obtain ⟨n2,h3⟩:=Rg.run h7
    refine ⟨max n1 (max n2 n3),?_⟩
    rcases h3 with ⟨e',h3,h4⟩ | ⟨i,y,e',hi,hy,h3,h4,h5⟩
    ·exact .inl ⟨e',fun n m j hn hm=>by rw [zBF,h1 n m (by omega) (by omega)];simp only [hc,cond_true,hf,h6 n m (by omega) (by omega)];exact h3 n m _ (by omega) (by omega),h4⟩
    ·refine .inr ⟨i+1,y,e',by simp;omega,hy,fun n m j hn hm=>?_,fun n m j hn hm=>?_,h5⟩
     ·rw [zBF,h1 n m (by omega) (by omega)];simp only [hc,cond_true,hf,h6 n m (by omega) (by omega)];rw [h3 n m _ (by omega) (by omega)];simp only [Option.some.injEq,Prod.mk.injEq,and_true];omega
     ·rw [List.take_succ_cons,zBF,h1 n m (by omega) (by omega)];simp only [hc,cond_true,hf,h6 n m (by omega) (by omega)];rw [h4 n m _ (by omega) (by omega)];simp only [Option.some.injEq,Prod.mk.injEq,and_true];omega
  | ex id =>
   refine ⟨n1,.inr ⟨0,.ex id,_,by simp,by simp,fun n m j hn hm=>?_,fun n m j hn hm=>?_,h2⟩⟩
   ·rw [zBF,h1 n m (by omega) (by omega)]
   ·rw [List.take_succ_cons,zBF,h1 n m (by omega) (by omega)]
  | ret =>
   refine ⟨n1,.inr ⟨0,.ret,_,by simp,by simp,fun n m j hn hm=>?_,fun n m j hn hm=>?_,h2⟩⟩
   ·rw [zBF,h1 n m (by omega) (by omega)]
   ·rw [List.take_succ_cons,zBF,h1 n m (by omega) (by omega)]
def rgT:Code→Option Nat
 | .rangeFunc (.tmp t) _ _ _=>some t
 | _=>none
def zWJ:Code→List Tmp
 | .rangeFunc _ ps _ _=>ps.toList
 | _=>[]
def rgA:Code→Code
 | .rangeFunc _ _ a _=>a
 | c=>c
def rgB:Code→Code
 | .rangeFunc _ _ _ b=>b
 | c=>c
def zVS (c:Code):List Nat:=zWJ c++zBI (rgA c)++zBI (rgB c)
theorem zVI {t:Tmp} {ps:Array Tmp} {assign body:Code} {g:FuncId} {first caps:List PV} {R:List Nat} {xs:List (List PV)} (yN:zDC e t=some (g,first,caps,R)) (hY:zFY g first caps xs)
  (h:Rg P H f nt ps.toList assign body R (ps.toList++zBI assign++zBI body) K xs e):W P H f nt (.rangeFunc (.tmp t) ps assign body) e none K:=by
 obtain ⟨hY1,hY2⟩:=hY
 obtain ⟨n2,hr⟩:=Rg.run h
 rcases hr with ⟨e',h3,h4⟩ | ⟨i,y,e',hi,hy,h3,h4,h5⟩
 ·refine ⟨n2+1,.norm,e',none,fun n m hn hm=>?_,h4⟩
  obtain ⟨m,rfl⟩:∃ k,m=k+1:=⟨m-1,by omega⟩
  show (zHi nt Yo.yo zB5 (zNP P H f nt n m) t ps.toList assign body e).map (fun x=>(x.1,x.2,none))=_
  simp only [zHi,yN,zJc (fun i=>hY1 i),h3 n m 0 (by omega) (by omega),Option.map_some]
 ·have hY2:=hY2 (i+1) (by omega) (by omega)
  refine ⟨n2+1,y,e',none,fun n m hn hm=>?_,h5⟩
  obtain ⟨m,rfl⟩:∃ k,m=k+1:=⟨m-1,by omega⟩
  show (zHi nt Yo.yo zB5 (zNP P H f nt n m) t ps.toList assign body e).map (fun x=>(x.1,x.2,none))=_
  simp only [zHi,yN,zJc (fun i=>hY1 i),h3 n m 0 (by omega) (by omega)]
  have hcast:((0+i+1:Nat):Int)=((i+1:Nat):Int):=by omega
  rw [hcast,zJc (fun i=>hY2 i)]
  simp only [h4 n m 0 (by omega) (by omega),List.length_take]
  rw [if_pos ⟨trivial,by omega⟩]
  rfl
theorem zRs {c:Code} {t g:Nat} {first caps:List PV} {R:List Nat} {xs:List (List PV)} (hY:zFY g first caps xs) (h:Rg P H f nt (zWJ c) (rgA c) (rgB c) R (zVS c) K xs e) (yN:zDC e t=some (g,first,caps,R):=by kernel_rfl) (hc:rgT c=some t:=by kernel_rfl) (hl:lg=none:=by kernel_rfl):W P H f nt c e lg K:=by
 subst hl
 cases c<;>try (cases hc;done)
 rename_i x ps a b
 cases x<;>try (cases hc;done)
 rename_i u
 simp only [rgT,Option.some.injEq] at hc;subst hc
 exact zVI yN hY h
theorem zVJ {σ:Type} {c:Code} {t g:Nat} {first caps:List PV} {xs:List (List PV)} (hY:zFY g first caps xs) (Inv:Nat→σ→Prop) (I:σ→Env) (s:σ) (hi:Inv 0 s)
  (h:∀ j x s,xs[j]? = some x→Inv j s→zLx P H f nt (zWJ c) (rgA c) (rgB c) x (I s) fun y e3=>match y with
   | .norm=>∃ s',Inv (j+1) s'∧after nt [] (zVS c) (I s) e3=I s'
   | y=>K y (after nt [] (zVS c) (I s) e3) none) (hK:∀ s,Inv xs.length s→K .norm (I s) none) (hs:e=I s:=by kernel_rfl) (yN:zDC e t=some (g,first,caps,[]):=by kernel_rfl) (hc:rgT c=some t:=by kernel_rfl) (hl:lg=none:=by kernel_rfl):W P H f nt c e lg K:=by
 refine zRs hY ?_ yN hc hl
 clear yN hY
 subst hs
 have key:∀ (ys:List (List PV)) (j:Nat) (s:σ),xs.drop j=ys→j≤xs.length→Inv j s→Rg P H f nt (zWJ c) (rgA c) (rgB c) [] (zVS c) K ys (I s):=by
  intro ys
  induction ys with
  | nil =>
   intro j s hd hj hi
   have:j=xs.length:=by
    have:=congrArg List.length hd;simp at this;omega
   subst this
   exact hK s hi
  | cons x ys ih =>
   intro j s hd hj hi
   have hx:xs[j]? = some x:=by
    have:=congrArg (fun l=>l[0]?) hd
    simpa using this
   have yF:=(List.getElem?_eq_some_iff.1 hx).1
   obtain ⟨e1,h1,h2⟩:=h j x s hx hi
   refine ⟨e1,h1,zUl h2 fun y e2 lg ⟨a1,a2,a3⟩=>⟨a1,a2,zUl a3 fun y e3 lg ⟨b1,b2⟩=>⟨b1,?_⟩⟩⟩
   cases y with
   | norm =>
    obtain ⟨s',yy,he⟩:=b2
    simp only
    rw [he]
    refine ih (j+1) s' ?_ (by omega) yy
    rw [← List.drop_drop,hd];rfl
   | ex id=>exact b2
   | ret=>exact b2
 exact key xs 0 s rfl (by omega) hi
theorem zOB {ps:List Tmp} {a b:Code} {x:List PV} {K:X→Env→Prop} (h:W P H f nt a ((zCh ps x e).getD []) none fun y e2 lg=>y = .norm∧lg=none∧W P H f nt b e2 none fun y e3 lg=>lg=none∧K y e3) (hp:(zCh ps x e).isSome=true:=by kernel_rfl):zLx P H f nt ps a b x e K:=by
 obtain ⟨e1,h1⟩:=Option.isSome_iff_exists.1 hp
 rw [h1] at h
 exact ⟨e1,h1,h⟩
omit [Yo] in
theorem zSl (fn:Func) {g:FuncId} {first caps:List PV} {k:Int} {xs:List (List PV)} (h:∀ i,@W yo0 P H g fn.ntmps (fn.body.getD .ret) (zA5 (first++PV.yld i::caps) []) (some ⟨[],k,i⟩) fun x _ lg=>(x = .norm∨x = .ret)∧lg.map (·.xs)=some xs) (hk:k≠0)
  (hf:P.funcs[g]? = some fn:=by kernel_rfl) (hb:fn.body.isSome=true:=by kernel_rfl) (hc:∀ i,(Nat.ble (first++PV.yld i::caps).length fn.ntmps&&fn.results.isEmpty&&(first++caps).all (fun p => !p.isTup))=true:=by intro i;kernel_rfl) (hin:Nat.beq (H g).intr 0=true:=by kernel_rfl):@zSQ (yo1 P H) g first caps k xs:=by
 intro i
 obtain ⟨body,hb⟩:∃ body,fn.body=some body:=by cases hx:fn.body<;>first | exact ⟨_,rfl⟩ | (rw [hx] at hb;cases hb)
 have h:=h i
 simp only [hb,Option.getD_some] at h
 obtain ⟨n0,x,e1,lg1,h1,hx,hl⟩:=h
 refine zUG (n0:=n0) fun n hn=>?_
 have j6:=h1 n (n+1) (by omega) (by omega)
 cases lg1 with
 | none=>cases hl
 | some l =>
  simp only [Option.map_some,Option.some.injEq] at hl
  simp only [zTx,zW0,hf,hb]
  have wN:(k != 0)=true:=by simpa using hk
  have hc':=hc i
  rw [hc',wN,hin]
  simp only [Bool.and_self,cond_true,j6]
  rcases hx with rfl | rfl<;>simp [hl]
end
end Go.Eng
namespace Go.Eng
open Go
inductive PX where
 | ok | fail | emb (p:PM)
 | view (s:Nat) (k:PV→PX) | get (s:Nat) (k:PV→PX) | set (s:Nat) (p:PV) (k:PX)
 | cells (r:Nat) (pre:zAO) (i c n:Nat) (k:Bool→List PV→PX) | deep (r:Nat) (pre:zAO) (k:PV→PX)
 | wcells (r:Nat) (pre:zAO) (i c:Nat) (qs:List PV) (k:PX) | wnode (r:Nat) (pre:zAO) (q:PV) (k:PX)
 | kill (r:Nat) (pre:zAO) (k:PX) | frz (r:Nat) (pre:zAO) (k:PX) | frzp (r:Nat) (pre:zAO) (p:PV) (k:PV→PX) | killEx (r:Nat) (keep:List zAO) (k:PX)
 | call (f:FuncId) (args hid:List PV) (k:PV→List PV→PX)
 | test (b:Bool) (k:PX) | pick (x:Option PV) (k:PV→PX) | num (x:Option Nat) (k:Nat→PX) | idx (x:Option (Option Nat)) (k:Option Nat→PX)
 | choose (b:Bool) (k1 k2:PX) | same (p:PV) (k:PV→PX) | sames (ps:List PV) (k:List PV→PX)
 | nats (x:List Nat) (k:List Nat→PX) | pure (d:Option Nat) (f:FuncId) (args:List PV) (k:PX)
def PX.toPM:PX→PM
 | .ok => .ok
 | .fail => .fail
 | .emb p=>p
 | .view s k => .view s fun p=>(k p).toPM
 | .get s k => .get s fun p=>(k p).toPM
 | .set s p k => .set s p k.toPM
 | .cells r pre i c n k => .cells r pre i c n fun a qs=>(k a qs).toPM
 | .deep r pre k => .deep r pre fun q=>(k q).toPM
 | .wcells r pre i c qs k => .wcells r pre i c qs k.toPM
 | .wnode r pre q k => .wnode r pre q k.toPM
 | .kill r pre k => .kill r pre k.toPM
 | .frz r pre k => .frz r pre k.toPM
 | .frzp r pre p k => .frz r pre (k p).toPM
 | .killEx r keep k => .killEx r keep k.toPM
 | .call f args hid k => .call f args hid fun v h=>(k v h).toPM
 | .test b k=>bif b then k.toPM else .fail
 | .pick x k=>match x with
  | some v=>(k v).toPM
  | none => .fail
 | .num x k=>match x with
  | some v=>(k v).toPM
  | none => .fail
 | .idx x k=>match x with
  | some v=>(k v).toPM
  | none => .fail
 | .choose b k1 k2=>bif b then k1.toPM else k2.toPM
 | .same p k=>(k p).toPM
 | .sames ps k=>(k ps).toPM
 | .nats x k=>(k x).toPM
 | .pure _ _ _ k=>k.toPM
inductive An where
 | ob | v (p:PV) | vs (ps:List PV) | n (k:Nat) | ix (k:Option Nat) | yes | no | cs (a:Bool) (qs:List PV) | root (r:PV) (kept:Bool) | ret (v:PV) (hid:List PV) | ns (l:List Nat) | env (e:Env) | envv (e:Env) (q:PV)
abbrev Ans:=List (Nat×An)
def zF8:Ans→Option An×Ans
 | []=>(none,[])
 | (0,a)::l=>(some a,l)
 | (n+1,a)::l=>(none,(n,a)::l)
section
variable [Yo] (P:Program) (H:zBc)
def zTc (f:FuncId) (args:List PV) (v:PV):Prop:=∀ (d:Option Nat) (e:Env),∃ n0,∀ n,n0≤n→(zNF H d f args).runT (zCR P H n) e=(put d v).runT (zCR P H n) e
abbrev XR:=Option (Env×Tok×List Prop)
def XR.tok (t:Tok) (x:XR):XR:=x.map fun y=>(y.1,Tok.join t y.2.1,y.2.2)
def XR.ob (q:Prop) (x:XR):XR:=x.map fun y=>(y.1,y.2.1,q::y.2.2)
def PX.run:PX→Ans→Env→XR
 | .ok,_,e=>some (e,{},[])
 | .fail,_,_=>none
 | .emb p,_,e=>(p.runT zHl e).map fun y=>(y.1,y.2,[])
 | .view s k,as,e=>((k (Eng.view s (e.get s))).run as e).tok {look:=[s]}
 | .get s k,as,e=>match e.get s with
  | .lock _=>none
  | p=>((k p).run as e).tok {rd:=[s]}
 | .set s p k,as,e=>(k.run as (e.set s p)).tok (zFe s (e.get s) p)
 | .cells r pre i c n k,as,e=>match zF8 as with
  | (none,as)=>match zAw r (e.get r) pre i c n with
   | some (a,qs)=>((k a qs).run as e).tok {cel:=[(r,pre)]}
   | none=>none
  | (some (.cs a qs),as)=>(((k a qs).run as e).tok {cel:=[(r,pre)]}).ob (zAw r (e.get r) pre i c n=some (a,qs))
  | _=>none
 | .deep r pre k,as,e=>match zF8 as with
  | (none,as)=>match zAz (e.get r).unlock pre with
   | some q=>((k q).run as e).tok {rd:=[r]}
   | none=>none
  | (some (.v q),as)=>(((k q).run as e).tok {rd:=[r]}).ob (zAz (e.get r).unlock pre=some q)
  | _=>none
 | .wcells r pre i c qs k,as,e=>match zF8 as with
  | (none,as)=>match zBw (e.get r) pre i c qs with
   | some root=>(k.run as (e.set r root)).tok (zA9 r [] (zAE (e.get r) root pre) (e.get r) root)
   | none=>none
  | (some (.root root kp),as)=>((k.run as (e.set r root)).tok (zA9 r [] kp (e.get r) root)).ob (zBw (e.get r) pre i c qs=some root∧zAE (e.get r) root pre=kp)
  | _=>none
 | .wnode r pre q k,as,e=>match zF8 as with
  | (none,as)=>bif (e.get r).isLock then none else match zAv (fun _=>some q) (e.get r) pre with
   | some root=>(k.run as (e.set r root)).tok (zA9 r pre.dropLast (zAE (e.get r) root pre&&(pre.isEmpty || !q.isAgg)) (e.get r) root)
   | none=>none
  | (some (.root root kp),as)=>bif (e.get r).isLock then none else ((k.run as (e.set r root)).tok (zA9 r pre.dropLast (kp&&(pre.isEmpty || !q.isAgg)) (e.get r) root)).ob (zAv (fun _=>some q) (e.get r) pre=some root∧zAE (e.get r) root pre=kp)
  | _=>none
 | .kill r pre k,as,e=>(k.run as (e.kill r pre)).tok (zAI (zC6 e fun z=>zAH r pre z.1 z.2) e.get (e.kill r pre).get [r] [])
 | .frz r pre k,as,e=>match zF8 as with
  | (none,as)=>match e.frz r pre with
   | some e'=>(k.run as e').tok (zAI (r::zC6 e fun z=>zAH r pre z.1 z.2) e.get e'.get [r] [])
   | none=>none
  | (some (.env e'),as)=>((k.run as e').tok (zAI (r::zC6 e fun z=>zAH r pre z.1 z.2) e.get e'.get [r] [])).ob (e.frz r pre=some e')
  | _=>none
 | .frzp r pre p k,as,e=>match zF8 as with
  | (none,as)=>match e.frz r pre with
   | some e'=>((k p).run as e').tok (zAI (r::zC6 e fun z=>zAH r pre z.1 z.2) e.get e'.get [r] [])
   | none=>none
  | (some (.env e'),as)=>(((k p).run as e').tok (zAI (r::zC6 e fun z=>zAH r pre z.1 z.2) e.get e'.get [r] [])).ob (e.frz r pre=some e')
  | (some (.envv e' q),as)=>(((k q).run as e').tok (zAI (r::zC6 e fun z=>zAH r pre z.1 z.2) e.get e'.get [r] [])).ob (e.frz r pre=some e'∧p=q)
  | _=>none
 | .killEx r keep k,as,e=>(k.run as (e.killEx r keep)).tok (zAI (zC6 e fun z=>Nat.beq z.1 r && !z.2.isEmpty) e.get (e.killEx r keep).get [] [r])
 | .call f args hid k,as,e=>match zF8 as with
  | (some (.ret v hO),as)=>((k v hO).run as e).ob (zAp P H f args hid v hO)
  | _=>none
 | .test b k,as,e=>match zF8 as with
  | (none,as)=>bif b then k.run as e else none
  | (some .ob,as)=>(k.run as e).ob (b=true)
  | _=>none
 | .pick x k,as,e=>match zF8 as with
  | (none,as)=>match x with
   | some v=>(k v).run as e
   | none=>none
  | (some (.v v),as)=>((k v).run as e).ob (x=some v)
  | _=>none
 | .num x k,as,e=>match zF8 as with
  | (none,as)=>match x with
   | some v=>(k v).run as e
   | none=>none
  | (some (.n v),as)=>((k v).run as e).ob (x=some v)
  | _=>none
 | .idx x k,as,e=>match zF8 as with
  | (none,as)=>match x with
   | some v=>(k v).run as e
   | none=>none
  | (some (.ix v),as)=>((k v).run as e).ob (x=some v)
  | _=>none
 | .choose b k1 k2,as,e=>match zF8 as with
  | (none,as)=>bif b then k1.run as e else k2.run as e
  | (some .yes,as)=>(k1.run as e).ob (b=true)
  | (some .no,as)=>(k2.run as e).ob (b=false)
  | _=>none
 | .same p k,as,e=>match zF8 as with
  | (none,as)=>(k p).run as e
  | (some (.v q),as)=>((k q).run as e).ob (p=q)
  | _=>none
 | .sames ps k,as,e=>match zF8 as with
  | (none,as)=>(k ps).run as e
  | (some (.vs qs),as)=>((k qs).run as e).ob (ps=qs)
  | _=>none
 | .nats x k,as,e=>match zF8 as with
  | (none,as)=>(k x).run as e
  | (some (.ns l),as)=>((k l).run as e).ob (x=l)
  | _=>none
 | .pure d f args k,as,e=>match zF8 as with
  | (none,as)=>k.run as e
  | (some (.v v),_)=>XR.ob (zTc P H f args v∧k.toPM=zNF H d f args) (((put d v).runT zHl e).map fun y=>(y.1,y.2,[]))
  | _=>none
def zTy:List Prop→Prop
 | []=>True
 | p::ps=>p∧zTy ps
end
section
variable [Yo] {P:Program} {H:zBc}
theorem XR.tok_some {t u:Tok} {x:XR} {e':Env} {obs:List Prop} (h:x.tok t=some (e',u,obs)):∃ u',x=some (e',u',obs)∧u=Tok.join t u':=by
 obtain ⟨⟨a,b,c⟩,h1,h2⟩:=Option.map_eq_some_iff.1 h
 simp only [Prod.mk.injEq] at h2
 obtain ⟨rfl,rfl,rfl⟩:=h2
 exact ⟨_,h1,rfl⟩
theorem XR.ob_some {q:Prop} {u:Tok} {x:XR} {e':Env} {obs:List Prop} (h:x.ob q=some (e',u,obs)):∃ o',x=some (e',u,o')∧obs=q::o':=by
 obtain ⟨⟨a,b,c⟩,h1,h2⟩:=Option.map_eq_some_iff.1 h
 simp only [Prod.mk.injEq] at h2
 obtain ⟨rfl,rfl,rfl⟩:=h2
 exact ⟨_,h1,rfl⟩
theorem PX.run_ok:∀ {p:PX} {as:Ans} {e e':Env} {t:Tok} {obs:List Prop},p.run P H as e=some (e',t,obs)→zTy obs→∃ n0,∀ n,n0≤n→p.toPM.runT (zCR P H n) e=some (e',t):=by
 intro p
 induction p with
 | ok=>intro as e e' t obs h _;simp only [PX.run,Option.some.injEq,Prod.mk.injEq] at h;obtain ⟨rfl,rfl,_⟩:=h;exact ⟨0,fun _ _=>rfl⟩
 | fail=>intro as e e' t obs h _;cases h
 | emb p =>
  intro as e e' t obs h _
  obtain ⟨⟨a,b⟩,h1,h2⟩:=Option.map_eq_some_iff.1 h
  simp only [Prod.mk.injEq] at h2
  obtain ⟨rfl,rfl,_⟩:=h2
  exact ⟨0,fun _ _=>zIc h1⟩
 | view s k ih =>
  intro as e e' t obs h ha
  obtain ⟨u,h1,rfl⟩:=XR.tok_some h
  obtain ⟨n0,h2⟩:=ih _ h1 ha
  exact ⟨n0,fun n hn=>by simp only [PX.toPM,PM.runT,h2 n hn];rfl⟩
 | get s k ih =>
  intro as e e' t obs h ha
  simp only [PX.run] at h
  cases hg:e.get s<;>rw [hg] at h<;>simp only at h<;>try (cases h;done)
  all_goals
   obtain ⟨u,h1,rfl⟩:=XR.tok_some h
   obtain ⟨n0,h2⟩:=ih _ h1 ha
   exact ⟨n0,fun n hn=>by simp only [PX.toPM,PM.runT,hg,h2 n hn];rfl⟩
 | set s q k ih =>
  intro as e e' t obs h ha
  obtain ⟨u,h1,rfl⟩:=XR.tok_some h
  obtain ⟨n0,h2⟩:=ih h1 ha
  exact ⟨n0,fun n hn=>by simp only [PX.toPM,PM.runT,h2 n hn];rfl⟩
 | cells r pre i c n k ih =>
  intro as e e' t obs h ha
  simp only [PX.run] at h
  split at h
  ·split at h
   ·rename_i hr
    obtain ⟨u,h1,rfl⟩:=XR.tok_some h
    obtain ⟨n0,h2⟩:=ih _ _ h1 ha
    exact ⟨n0,fun n hn=>by simp only [PX.toPM,PM.runT,hr,h2 n hn];rfl⟩
   ·cases h
  ·obtain ⟨o,h0,rfl⟩:=XR.ob_some h
   obtain ⟨u,h1,rfl⟩:=XR.tok_some h0
   obtain ⟨n0,h2⟩:=ih _ _ h1 ha.2
   exact ⟨n0,fun n hn=>by simp only [PX.toPM,PM.runT,ha.1,h2 n hn];rfl⟩
  ·cases h
 | deep r pre k ih =>
  intro as e e' t obs h ha
  simp only [PX.run] at h
  split at h
  ·split at h
   ·rename_i hr
    obtain ⟨u,h1,rfl⟩:=XR.tok_some h
    obtain ⟨n0,h2⟩:=ih _ h1 ha
    exact ⟨n0,fun n hn=>by simp only [PX.toPM,PM.runT,hr,h2 n hn];rfl⟩
   ·cases h
  ·obtain ⟨o,h0,rfl⟩:=XR.ob_some h
   obtain ⟨u,h1,rfl⟩:=XR.tok_some h0
   obtain ⟨n0,h2⟩:=ih _ h1 ha.2
   exact ⟨n0,fun n hn=>by simp only [PX.toPM,PM.runT,ha.1,h2 n hn];rfl⟩
  ·cases h
 | wcells r pre i c qs k ih =>
  intro as e e' t obs h ha
  simp only [PX.run] at h
  split at h
  ·split at h
   ·rename_i hr
    obtain ⟨u,h1,rfl⟩:=XR.tok_some h
    obtain ⟨n0,h2⟩:=ih h1 ha
    exact ⟨n0,fun n hn=>by simp only [PX.toPM,PM.runT,hr,h2 n hn];rfl⟩
   ·cases h
  ·obtain ⟨o,h0,rfl⟩:=XR.ob_some h
   obtain ⟨u,h1,rfl⟩:=XR.tok_some h0
   obtain ⟨n0,h2⟩:=ih h1 ha.2
   exact ⟨n0,fun n hn=>by simp only [PX.toPM,PM.runT,ha.1.1,ha.1.2,h2 n hn];rfl⟩
  ·cases h
 | wnode r pre q k ih =>
  intro as e e' t obs h ha
  simp only [PX.run] at h
  split at h
  ·rcases zBe h with ⟨_,h⟩ | ⟨hl,h⟩
   ·cases h
   ·split at h
    ·rename_i hr
     obtain ⟨u,h1,rfl⟩:=XR.tok_some h
     obtain ⟨n0,h2⟩:=ih h1 ha
     exact ⟨n0,fun n hn=>by simp only [PX.toPM,PM.runT,hl,cond_false,hr,h2 n hn];rfl⟩
    ·cases h
  ·rcases zBe h with ⟨_,h⟩ | ⟨hl,h⟩
   ·cases h
   ·obtain ⟨o,h0,rfl⟩:=XR.ob_some h
    obtain ⟨u,h1,rfl⟩:=XR.tok_some h0
    obtain ⟨n0,h2⟩:=ih h1 ha.2
    exact ⟨n0,fun n hn=>by simp only [PX.toPM,PM.runT,hl,cond_false,ha.1.1,ha.1.2,h2 n hn];rfl⟩
  ·cases h
 | kill r pre k ih =>
  intro as e e' t obs h ha
  obtain ⟨u,h1,rfl⟩:=XR.tok_some h
  obtain ⟨n0,h2⟩:=ih h1 ha
  exact ⟨n0,fun n hn=>by simp only [PX.toPM,PM.runT,h2 n hn];rfl⟩
 | frz r pre k ih =>
  intro as e e' t obs h ha
  simp only [PX.run] at h
  split at h
  ·split at h
   ·rename_i hr
    obtain ⟨u,h1,rfl⟩:=XR.tok_some h
    obtain ⟨n0,h2⟩:=ih h1 ha
    exact ⟨n0,fun n hn=>by simp only [PX.toPM,PM.runT,hr,h2 n hn];rfl⟩
   ·cases h
  ·obtain ⟨o,h0,rfl⟩:=XR.ob_some h
   obtain ⟨u,h1,rfl⟩:=XR.tok_some h0
   obtain ⟨n0,h2⟩:=ih h1 ha.2
   exact ⟨n0,fun n hn=>by simp only [PX.toPM,PM.runT,ha.1,h2 n hn];rfl⟩
  ·cases h
 | frzp r pre p k ih =>
  intro as e e' t obs h ha
  simp only [PX.run] at h
  split at h
  ·split at h
   ·rename_i hr
    obtain ⟨u,h1,rfl⟩:=XR.tok_some h
    obtain ⟨n0,h2⟩:=ih _ h1 ha
    exact ⟨n0,fun n hn=>by simp only [PX.toPM,PM.runT,hr,h2 n hn];rfl⟩
   ·cases h
  ·obtain ⟨o,h0,rfl⟩:=XR.ob_some h
   obtain ⟨u,h1,rfl⟩:=XR.tok_some h0
   obtain ⟨n0,h2⟩:=ih _ h1 ha.2
   exact ⟨n0,fun n hn=>by simp only [PX.toPM,PM.runT,ha.1,h2 n hn];rfl⟩
  ·obtain ⟨o,h0,rfl⟩:=XR.ob_some h
   obtain ⟨u,h1,rfl⟩:=XR.tok_some h0
   obtain ⟨⟨hf,rfl⟩,ha⟩:=ha
   obtain ⟨n0,h2⟩:=ih _ h1 ha
   exact ⟨n0,fun n hn=>by simp only [PX.toPM,PM.runT,hf,h2 n hn];rfl⟩
  ·cases h
 | killEx r keep k ih =>
  intro as e e' t obs h ha
  obtain ⟨u,h1,rfl⟩:=XR.tok_some h
  obtain ⟨n0,h2⟩:=ih h1 ha
  exact ⟨n0,fun n hn=>by simp only [PX.toPM,PM.runT,h2 n hn];rfl⟩
 | call f args hid k ih =>
  intro as e e' t obs h ha
  simp only [PX.run] at h
  split at h
  ·obtain ⟨o,h1,rfl⟩:=XR.ob_some h
   obtain ⟨n0,h2⟩:=ih _ _ h1 ha.2
   obtain ⟨n1,h3⟩:=ha.1
   exact ⟨max n0 n1,fun n hn=>by simp only [PX.toPM,PM.runT,h3 n (by omega),h2 n (by omega)]⟩
  ·cases h
 | test b k ih =>
  intro as e e' t obs h ha
  simp only [PX.run] at h
  split at h
  ·rcases zBe h with ⟨hb,h⟩ | ⟨_,h⟩
   ·obtain ⟨n0,h2⟩:=ih h ha
    exact ⟨n0,fun n hn=>by simp only [PX.toPM,hb,cond_true,h2 n hn]⟩
   ·cases h
  ·obtain ⟨o,h1,rfl⟩:=XR.ob_some h
   obtain ⟨n0,h2⟩:=ih h1 ha.2
   exact ⟨n0,fun n hn=>by simp only [PX.toPM,ha.1,cond_true,h2 n hn]⟩
  ·cases h
 | pick x k ih =>
  intro as e e' t obs h ha
  simp only [PX.run] at h
  split at h
  ·split at h
   ·obtain ⟨n0,h2⟩:=ih _ h ha
    exact ⟨n0,fun n hn=>by simp only [PX.toPM,h2 n hn]⟩
   ·cases h
  ·obtain ⟨o,h1,rfl⟩:=XR.ob_some h
   obtain ⟨n0,h2⟩:=ih _ h1 ha.2
   exact ⟨n0,fun n hn=>by simp only [PX.toPM,ha.1,h2 n hn]⟩
  ·cases h
 | num x k ih =>
  intro as e e' t obs h ha
  simp only [PX.run] at h
  split at h
  ·split at h
   ·obtain ⟨n0,h2⟩:=ih _ h ha
    exact ⟨n0,fun n hn=>by simp only [PX.toPM,h2 n hn]⟩
   ·cases h
  ·obtain ⟨o,h1,rfl⟩:=XR.ob_some h
   obtain ⟨n0,h2⟩:=ih _ h1 ha.2
   exact ⟨n0,fun n hn=>by simp only [PX.toPM,ha.1,h2 n hn]⟩
  ·cases h
 | idx x k ih =>
  intro as e e' t obs h ha
  simp only [PX.run] at h
  split at h
  ·split at h
   ·obtain ⟨n0,h2⟩:=ih _ h ha
    exact ⟨n0,fun n hn=>by simp only [PX.toPM,h2 n hn]⟩
   ·cases h
  ·obtain ⟨o,h1,rfl⟩:=XR.ob_some h
   obtain ⟨n0,h2⟩:=ih _ h1 ha.2
   exact ⟨n0,fun n hn=>by simp only [PX.toPM,ha.1,h2 n hn]⟩
  ·cases h
 | choose b k1 k2 ih1 ih2 =>
  intro as e e' t obs h ha
  simp only [PX.run] at h
  split at h
  ·rcases zBe h with ⟨hb,h⟩ | ⟨hb,h⟩
   ·obtain ⟨n0,h2⟩:=ih1 h ha
    exact ⟨n0,fun n hn=>by simp only [PX.toPM,hb,cond_true,h2 n hn]⟩
   ·obtain ⟨n0,h2⟩:=ih2 h ha
    exact ⟨n0,fun n hn=>by simp only [PX.toPM,hb,cond_false,h2 n hn]⟩
  ·obtain ⟨o,h1,rfl⟩:=XR.ob_some h
   obtain ⟨n0,h2⟩:=ih1 h1 ha.2
   exact ⟨n0,fun n hn=>by simp only [PX.toPM,ha.1,cond_true,h2 n hn]⟩
  ·obtain ⟨o,h1,rfl⟩:=XR.ob_some h
   obtain ⟨n0,h2⟩:=ih2 h1 ha.2
   exact ⟨n0,fun n hn=>by simp only [PX.toPM,ha.1,cond_false,h2 n hn]⟩
  ·cases h
 | same p k ih =>
  intro as e e' t obs h ha
  simp only [PX.run] at h
  split at h
  ·exact ih _ h ha
  ·obtain ⟨o,h1,rfl⟩:=XR.ob_some h
   obtain ⟨n0,h2⟩:=ih _ h1 ha.2
   exact ⟨n0,fun n hn=>by simp only [PX.toPM,ha.1,h2 n hn]⟩
  ·cases h
 | sames ps k ih =>
  intro as e e' t obs h ha
  simp only [PX.run] at h
  split at h
  ·exact ih _ h ha
  ·obtain ⟨o,h1,rfl⟩:=XR.ob_some h
   obtain ⟨n0,h2⟩:=ih _ h1 ha.2
   exact ⟨n0,fun n hn=>by simp only [PX.toPM,ha.1,h2 n hn]⟩
  ·cases h
 | nats x k ih =>
  intro as e e' t obs h ha
  simp only [PX.run] at h
  split at h
  ·exact ih _ h ha
  ·obtain ⟨o,h1,rfl⟩:=XR.ob_some h
   obtain ⟨n0,h2⟩:=ih _ h1 ha.2
   exact ⟨n0,fun n hn=>by simp only [PX.toPM,ha.1,h2 n hn]⟩
  ·cases h
 | pure d f args k ih =>
  intro as e e' t obs h ha
  simp only [PX.run] at h
  split at h
  ·exact ih h ha
  ·obtain ⟨o,h1,rfl⟩:=XR.ob_some h
   obtain ⟨⟨a,b⟩,h2,h3⟩:=Option.map_eq_some_iff.1 h1
   simp only [Prod.mk.injEq] at h3
   obtain ⟨rfl,rfl,_⟩:=h3
   obtain ⟨⟨hp,hk⟩,_⟩:=ha
   obtain ⟨n0,hp⟩:=hp d e
   exact ⟨n0,fun n hn=>by simp only [PX.toPM];rw [hk,hp n hn];exact zIc h2⟩
  ·cases h
end
end Go.Eng
namespace Go.Eng
open Go
def zGD (x:Operand) (k:PV→PX):PX :=
 match x with
 | .tmp t => .view t k
 | .const v=>k (zEq v)
 | .func f=>k (.func f [] [])
 | .global _ => .fail
def zLy (x:Operand) (k:PV→PX):PX :=
 match x with
 | .tmp t => .get t fun p => .choose p.heavy (.set t .bad (k p)) (k p)
 | .const v=>k (zEq v)
 | .func f=>k (.func f [] [])
 | .global _ => .fail
def zPy:List Operand→(List PV→PX)→PX
 | [],k=>k []
 | x::xs,k=>zGD x fun p=>zPy xs fun ps=>k (p::ps)
def zV0 (d:Nat) (p:PV) (k:PX):PX := .choose p.heavy (.kill d [] (.set d (p.mapW (lose d [])) k)) (.set d p k)
def zF7 (d:Option Nat) (p:PV):PX :=
 match d with
 | none => .ok
 | some d => .same p fun p=>bif p.isTup then .fail else zV0 d p .ok
def zHb (d:Nat):Nat→List PV→PX→PX
 | n,[],k => .set d (.tup (List.replicate n .bad)) k
 | i,p::ps,k => .same p fun p=>zV0 (zBp d i) p (zHb d (i+1) ps k)
def zE5 (d:Option Nat) (v:PV):PX :=
 match d,v with
 | some d,.tup vs => .test (Nat.ble vs.length 16) (.test ((zBn vs).all (fun w => !zJy d w.1)) (.set d .bad (zHb d 0 vs .ok)))
 | d,v=>zF7 d v
def zFk:PV→(Nat→PX)→PX
 | .int _ n,k => .test (decide (0≤n)) (.num (some n.toNat) k)
 | _,_ => .fail
def zRK (r:Nat) (pre:zAO) (i c:Nat) (sh:Option Nat) (k:PV→PX):PX :=
 match sh with
 | some n => .cells r pre i c n fun a qs=>bif a then k (.agg qs) else .fail
 | none => .cells r pre i c 1 fun _ qs=>k (qs.headD .bad)
def zHf (r:Nat) (pre:zAO) (i:Nat):Nat→List PV→PX→PX
 | _,[],k=>k
 | c,q::qs,k=>bif q.heavy then .kill r (pre++[(i,c)]) (zHf r pre i (c+1) qs k) else zHf r pre i (c+1) qs k
def zRH (r:Nat) (pre:zAO) (i c:Nat) (qs:List PV) (k:PX):PX := .choose (qs.all fun q => !q.heavy) k (zHf r pre i c qs k)
section
variable {k:PX} {kp:PV→PX}
theorem zBZ {x:Operand} {k:PV→PX}:(zGD x k).toPM=opd x fun p=>(k p).toPM:=by cases x<;>rfl
theorem zBq {α:Type} {b:Bool} {x y:α}:(bif b then x else y)=if b=true then x else y:=by cases b<;>rfl
theorem zFU {x:Operand} {k:PV→PX}:(zLy x k).toPM=zO9 x fun p=>(k p).toPM:=by
 cases x<;>first | rfl | simp only [zLy,zO9,PX.toPM,zBq]
theorem zId:∀ {xs:List Operand} {k:List PV→PX},(zPy xs k).toPM=zSv xs fun p=>(k p).toPM
 | [],_=>rfl
 | x::xs,k=>by simp only [zPy,zSv,zBZ,zId]
theorem zLr {d:Nat} {p:PV} {k:PX}:(zV0 d p k).toPM=lay d p k.toPM:=by simp only [zV0,lay,PX.toPM]
theorem zDc {b:Bool} {x y:PX}:(bif b then x else y).toPM=bif b then x.toPM else y.toPM:=by cases b<;>rfl
theorem zOe {c:Prop} [Decidable c] {x y:PX}:(if c then x else y).toPM=if c then x.toPM else y.toPM:=by split<;>rfl
theorem zBr {d:Option Nat} {p:PV}:(zF7 d p).toPM=put d p:=by
 cases d with
 | none=>rfl
 | some d=>simp only [zF7,put,PX.toPM,zDc,zLr]
theorem zH4 {d:Nat}:∀ {ps:List PV} {i:Nat} {k:PX},(zHb d i ps k).toPM=zEQ d i ps k.toPM
 | [],_,_=>rfl
 | p::ps,i,k=>by simp only [zHb,zEQ,PX.toPM,zLr,zH4]
theorem zC3 {α:Type} {a b:Bool} {x y:α}:(bif a&&b then x else y)=bif a then (bif b then x else y) else y:=by cases a<;>rfl
theorem zEG {d:Option Nat} {v:PV}:(zE5 d v).toPM=zDg d v:=by
 cases d with
 | none=>cases v<;>simp only [zE5,zDg,zBr]
 | some d=>cases v<;>simp only [zE5,zDg,PX.toPM,zH4,zC3,zBr]
theorem zEC {p:PV} {k:Nat→PX}:(zFk p k).toPM=zGf p fun n=>(k n).toPM:=by
 cases p<;>first | rfl | skip
 simp only [zFk,zGf,PX.toPM,zBq,decide_eq_true_eq]
theorem zLj {r:Nat} {pre:zAO} {i c:Nat} {sh:Option Nat} {k:PV→PX}:(zRK r pre i c sh k).toPM=zMJ r pre i c sh fun p=>(k p).toPM:=by
 cases sh<;>simp only [zRK,zMJ,PX.toPM,zDc]
theorem zI7 {r:Nat} {pre:zAO} {i:Nat}:∀ {qs:List PV} {c:Nat} {k:PX},(zHf r pre i c qs k).toPM=zDM r pre i c qs k.toPM
 | [],_,_=>rfl
 | q::qs,c,k=>by simp only [zHf,zDM,zDc,PX.toPM,zI7]
theorem zE8 {r:Nat} {pre:zAO} {i:Nat}:∀ {qs:List PV} {c:Nat} {k:PM},(qs.all fun q => !q.heavy)=true→zDM r pre i c qs k=k
 | [],_,_,_=>rfl
 | q::qs,c,k,h=>by
  simp only [List.all_cons,Bool.and_eq_true,Bool.not_eq_true'] at h
  simp only [zDM,h.1,cond_false];exact zE8 h.2
theorem zQo {r:Nat} {pre:zAO} {i c:Nat} {qs:List PV} {k:PX}:(zRH r pre i c qs k).toPM=zDM r pre i c qs k.toPM:=by
 simp only [zRH,PX.toPM,zI7]
 cases h:qs.all fun q => !q.heavy with
 | false=>rfl
 | true=>exact (zE8 h).symm
end
def zEH (res:PV→(PV→List (Nat×zAO)→PX)→PX):List PV→(List PV→List (Nat×zAO)→PX)→PX
 | [],k=>k [] []
 | p::ps,k=>res p fun q l=>zEH res ps fun qs m=>k (q::qs) (l++m)
def zDx (hb:Nat):Nat→PV→(PV→List (Nat×zAO)→PX)→PX
 | 0,_,_ => .fail
 | n + 1,p,k =>
  match p with
  | .addr r pre i c sh=>bif Nat.ble hb r then k p [] else .deep r pre fun q=>match zA6 q with
   | some xs => .pick xs[i]? fun x=>match sh with
     | some m => .test (Nat.ble (c+m) x.cells.length) (.test x.isAgg (zDx hb n (.agg ((x.cells.drop c).take m)) fun q l=>k (.ref q) ((r,pre)::l)))
     | none => .pick x.cells[c]? fun q => .test q.oneCell (zDx hb n q fun q l=>k (.ref q) ((r,pre)::l))
   | none => .fail
  | .bor r pre _ lo m=>bif Nat.ble hb r then k p [] else .deep r pre fun q=>match q with
   | .own _ xs => .test (Nat.ble (lo+m) xs.length) (.same (.sl (zAD ((xs.drop lo).take m))) fun p=>k p [(r,pre)])
   | _ => .fail
  | .bsl r pre i c sz ag m=>bif Nat.ble hb r then k p [] else .deep r pre fun q=>match zA6 q with
   | some xs => .pick xs[i]? fun x => .test (zCg ag sz m ((x.cells.drop c).take (m*sz))) (.test (zBn x.cells).isEmpty (.same (.sl (zCf ag sz m (zAD ((x.cells.drop c).take (m*sz))))) fun p=>k p [(r,pre)]))
   | none => .fail
  | .bmap r pre=>bif Nat.ble hb r then k p [] else .deep r pre fun q=>match q with
   | .omap es=>k (.map es) [(r,pre)]
   | _ => .fail
  | .agg cs => .choose (p.ways).isEmpty (.same (zAP p) fun q=>k q []) (zEH (zDx hb n) cs fun qs l=>k (.agg qs) l)
  | .func f a b => .choose (p.ways).isEmpty (k p []) (zEH (zDx hb n) a fun as l=>zEH (zDx hb n) b fun bs m=>k (.func f as bs) (l++m))
  | .ref q => .choose (q.ways).isEmpty (k p []) (zDx hb n q fun q l=>k (.ref q) l)
  | .bad=>k .bad []
  | p => .test (p.ways.all (fun w=>Nat.ble hb w.1)) (.same (zAP p) fun q=>k q [])
def zUg (p:PV) (k:PV→List (Nat×zAO)→PX):PX:=zDx zAb depth p k
theorem zH0 {res:PV→(PV→List (Nat×zAO)→PX)→PX} {res':PV→(PV→List (Nat×zAO)→PM)→PM} (h:∀ p k,(res p k).toPM=res' p fun q l=>(k q l).toPM):∀ {ps:List PV} {k:List PV→List (Nat×zAO)→PX},(zEH res ps k).toPM=zEl res' ps fun q l=>(k q l).toPM
 | [],_=>rfl
 | p::ps,k=>by simp only [zEH,zEl,h,zH0 h]
theorem zJT {hb:Nat}:∀ {n:Nat} {p:PV} {k:PV→List (Nat×zAO)→PX},(zDx hb n p k).toPM=resolve hb n p fun q l=>(k q l).toPM
 | 0,_,_=>rfl
 | n + 1,p,k=>by
  have ih:∀ (p:PV) (k:PV→List (Nat×zAO)→PX),(zDx hb n p k).toPM=resolve hb n p fun q l=>(k q l).toPM:=fun p k=>zJT
  cases p<;>simp only [zDx,resolve,zDc,PX.toPM,zC3,ih,zH0 ih]
  ·congr 1;congr 1;funext q
   cases zA6 q with
   | none=>rfl
   | some xs =>
    simp only [PX.toPM]
    rename_i r pre i c sh
    cases xs[i]? with
    | none=>rfl
    | some x =>
     cases sh with
     | some m=>simp only [PX.toPM,zC3,ih]
     | none =>
      simp only [PX.toPM,ih]
      cases x.cells[c]? with
      | none=>rfl
      | some q=>simp only [PX.toPM,zBq,ih]
  ·congr 1;congr 1;funext q
   cases q<;>rfl
  ·congr 1;congr 1;funext q
   cases zA6 q with
   | none=>rfl
   | some xs =>
    simp only [PX.toPM]
    rename_i r pre i c sz ag m
    cases xs[i]? with
    | none=>rfl
    | some x=>simp only [PX.toPM,zC3]
  ·congr 1;congr 1;funext q
   cases q<;>rfl
theorem zR2 {p:PV} {k:PV→List (Nat×zAO)→PX}:(zUg p k).toPM=zPp p fun q l=>(k q l).toPM:=zJT
def zPr (hb:Nat):Nat→PV→(PV→PX)→PX
 | 0,_,_ => .fail
 | n+1,p,k=>match p.ways.find? (fun w=>Nat.blt w.1 hb) with
  | none => .same p k
  | some (r,pre) => .deep r pre fun q => .frzp r pre (p.mapW (inl r pre q)) fun p=>zPr hb n p k
theorem zFn {hb:Nat}:∀ {n:Nat} {p:PV} {k:PV→PX},(zPr hb n p k).toPM=zLG hb n p fun q=>(k q).toPM
 | 0,_,_=>rfl
 | n+1,p,k=>by
  simp only [zPr,zLG]
  cases p.ways.find? (fun w=>Nat.blt w.1 hb) with
  | none=>rfl
  | some w=>simp only [PX.toPM,zFn]
def zKX (p:PV) (k:List PV→PX):PX :=
 match p with
 | .nils _=>k []
 | .nn=>k []
 | .sl xs=>k xs
 | .bor r pre z lo n => .deep r pre fun q=>match q with
  | .own _ xs => .test (Nat.ble (lo+n) xs.length) (.sames ((xs.drop lo).take n) k)
  | _ => .fail
 | .bsl r pre i c sz ag n => .cells r pre i c (n*sz) fun _ cs => .test (zCg ag sz n cs) (.test (cs.all (fun q=>q.plain0)) (.sames (zCf ag sz n cs) k))
 | _ => .fail
theorem zKd {p:PV} {k:List PV→PX}:(zKX p k).toPM=zGN p fun l=>(k l).toPM:=by
 cases p<;>simp only [zKX,zGN,PX.toPM,zC3]
 congr 1;funext q
 cases q<;>rfl
section
variable (P:Program) (H:zBc)
def zFK:List Nat→List PV→(List (Bool×PV)→PX)→PX
 | _,[],k=>k []
 | ms,p::ps,k =>
  match ms.headD 0,p with
  | 2,.bor r pre _ 0 n => .deep r pre fun q=>match q with
   | .own sz xs => .test (Nat.ble n xs.length) (.wnode r pre .bad (.same (.own sz ((xs.drop 0).take n)) fun o=>zFK ms.tail ps fun as=>k ((true,o)::as)))
   | _ => .fail
  | _,p=>zFK ms.tail ps fun as=>k ((false,p)::as)
def zDr:List Nat→List (Bool×PV)→(List Arg→PX)→PX
 | _,[],k=>k []
 | ms,(true,p)::ps,k=>zDr ms.tail ps fun as=>k ({p:=p}::as)
 | ms,(false,p)::ps,k =>
  bif Nat.beq (ms.headD 0) 1 then zDr ms.tail ps fun as=>k ({p:=p,byref:=true}::as)
  else zUg p fun q l=>zDr ms.tail ps fun as=>k ({p:=q,shared:=l}::as)
def zEP:List Nat→List (Bool×PV)→(List Arg→PX)→PX
 | _,[],k=>k []
 | ms,(true,p)::ps,k=>zEP ms.tail ps fun as=>k ({p:=p}::as)
 | ms,(false,p)::ps,k =>
  bif Nat.beq (ms.headD 0) 1 then zEP ms.tail ps fun as=>k ({p:=p,byref:=true}::as)
  else zPr zAb zDs p fun q=>zEP ms.tail ps fun as=>k ({p:=q}::as)
def zQ3:List Nat→(List PV→PX)→PX
 | [],k=>k []
 | r::rs,k => .get r fun p=>zQ3 rs fun ps=>k (p::ps)
def zSJ:List Nat→List PV→List PV→PX→PX
 | r::rs,o::os,p::ps,k => .test (zGb o p) (.same p fun p => .wnode r [] p (zSJ rs os ps k))
 | [],[],[],k=>k
 | _,_,_,_ => .fail
def zOc:Nat→List Nat→(List Nat→PX)→PX
 | 0,R,k=>k R
 | n+1,R,k=>zQ3 R fun ts=>let R':=(R++ts.flatMap zNi).eraseDups;bif Nat.beq R'.length R.length then k R else zOc n R' k
def zG7:List Nat→PX→PX
 | [],k=>k
 | r::rs,k => .killEx r [] (zG7 rs k)
def zL2:List Bool→PX→PX→PX
 | [a,b,c],x,y => .choose a x (.choose b (.choose c x y) y)
 | _,_,y=>y
theorem zL6 {a b c:Bool} {x y:PX}:(zL2 [a,b,c] x y).toPM=bif a||b&&c then x.toPM else y.toPM:=by
 cases a<;>cases b<;>cases c<;>rfl
def zOv (d:Option Nat) (f:FuncId) (as:List Arg) (again:PX):PX :=
 .nats (zOQ as) fun R0=>zOc 3 R0 fun R =>
 bif zGV R&&R.all (fun r=>Nat.blt r zAb)&&Nat.ble R.length 1000&&Nat.ble as.length 1000&&(as.flatMap (·.shared)).all (fun x => !R.contains x.1) then
  zQ3 R fun hid => .sames (as.map fun a=>if a.byref then zGn (zDk R) a.p else a.p) fun args => .call f args (hid.map (zGn (zDk R))) fun v hO =>
   zL2 [(as.flatMap (·.shared)).isEmpty,v.free,zEz hO]
    (zG7 R<|zSJ R hid (hO.map (zGn (zB4 R))) (zE5 d (zGn (zB4 R) v)))
    again
 else .fail
def zQH (d:Option Nat) (f:FuncId) (args:List PV):PX :=
 .nats (H f).mode fun ms=>zFK ms args fun bs=>zDr ms bs fun as=>zOv d f as (zEP ms bs fun as=>zOv d f as .fail)
theorem zFq:∀ {ps:List PV} {ms:List Nat} {k:List (Bool×PV)→PX},(zFK ms ps k).toPM=zDX ms ps fun as=>(k as).toPM
 | [],_,_=>rfl
 | p :: ps,ms,k=>by
  unfold zFK zDX
  generalize ms.headD 0=m
  split
  ·simp only [PX.toPM]
   congr 1;funext q
   cases q<;>first | rfl | skip
   simp only [PX.toPM,zFq]
  ·simp only [zFq]
theorem zE9:∀ {ps:List (Bool×PV)} {ms:List Nat} {k:List Arg→PX},(zDr ms ps k).toPM=zCo ms ps fun as=>(k as).toPM
 | [],_,_=>rfl
 | (true,p)::ps,ms,k=>by simp only [zDr,zCo,zE9]
 | (false,p)::ps,ms,k=>by simp only [zDr,zCo,zDc,zR2,zE9]
theorem zGv:∀ {ps:List (Bool×PV)} {ms:List Nat} {k:List Arg→PX},(zEP ms ps k).toPM=zEa ms ps fun as=>(k as).toPM
 | [],_,_=>rfl
 | (true,p)::ps,ms,k=>by simp only [zEP,zEa,zGv]
 | (false,p)::ps,ms,k=>by simp only [zEP,zEa,zDc,zFn,zGv]
theorem zK1:∀ {rs:List Nat} {k:List PV→PX},(zQ3 rs k).toPM=zNV rs fun ps=>(k ps).toPM
 | [],_=>rfl
 | r::rs,k=>by simp only [zQ3,zNV,PX.toPM,zK1]
theorem zOy:∀ {rs:List Nat} {os ps:List PV} {k:PX},(zSJ rs os ps k).toPM=zNj rs os ps k.toPM
 | [],[],[],_=>rfl
 | r::rs,o::os,p::ps,k=>by simp only [zSJ,zNj,PX.toPM,zOy]
 | [],[],_::_,_=>rfl
 | [],_::_,_,_=>rfl
 | _::_,[],_,_=>rfl
 | _::_,_::_,[],_=>rfl
theorem zM3:∀ {n:Nat} {R:List Nat} {k:List Nat→PX},(zOc n R k).toPM=zKx n R fun R=>(k R).toPM
 | 0,_,_=>rfl
 | n+1,R,k=>by simp only [zOc,zKx,zK1,zDc,zM3]
theorem zHY:∀ {rs:List Nat} {k:PX},(zG7 rs k).toPM=zJ9 rs k.toPM
 | [],_=>rfl
 | r::rs,k=>by simp only [zG7,zJ9,PX.toPM,zHY]
theorem zR9 {d:Option Nat} {f:FuncId} {as:List Arg} {again:PX}:(zOv d f as again).toPM=zQT d f as again.toPM:=by
 simp only [zOv,zQT,zM3,zDc,zK1,PX.toPM,zL6,zHY,zOy,zEG]
theorem zQu {d:Option Nat} {f:FuncId} {args:List PV}:(zQH H d f args).toPM=zNF H d f args:=by
 simp only [zQH,zNF,zFq,zE9,zR9,zGv,PX.toPM]
def zRp (d:Option Nat) (args:List Operand) (g:PV):PX :=
 match g with
 | .func g first caps=>zPy args fun as => .pure d g (first++as++caps) (zQH H d g (first++as++caps))
 | _ => .fail
theorem zRe {d:Option Nat} {args:List Operand} {g:PV}:(zRp H d args g).toPM=zSy H d args g:=by
 cases g<;>first | rfl | skip
 simp only [zRp,zSy,zId,PX.toPM,zQu]
def zNs (d:Option Nat) (sz:Nat) (base:PV) (ys:List PV):PX :=
 .test (ys.all (fun y=>Nat.beq y.cells.length sz&&y.cells.all fun q=>q.oneCell)) (.test (zBn ys).isEmpty (
 match base with
 | .bor r pre z lo n => .deep r pre fun q=>match q with
  | .own s xs =>
   .test (Nat.beq s sz) (.test (Nat.ble (lo+n) xs.length) (.test (Nat.ble (xs.length+ys.length) zAY) (
    .choose (Nat.beq (lo+n) xs.length) (.test (Nat.beq lo 0) (.wnode r pre .bad (zF7 d (.own sz (xs++ys))))) (.emb (zK0 d r pre z lo n s xs ys)))))
  | _ => .fail
 | .nils _ => .test (Nat.ble ys.length zAY) (zF7 d (.own sz ys))
 | _ => .fail))
theorem zP0 {d:Option Nat} {sz:Nat} {base:PV} {ys:List PV}:(zNs d sz base ys).toPM=zK6 d sz base ys:=by
 cases base<;>simp only [zNs,zK6,PX.toPM,zC3,zBr]
 congr 1;congr 1;congr 1;funext q
 cases q<;>first | rfl | skip
 simp only [PX.toPM,zBr]
def zVc (x:Operand) (k:List PV→PX):PX :=
 match x with
 | .tmp t => .get t fun p=>match p with
  | .own _ xs => .set t .bad (k xs)
  | _ => .view t fun p=>zKX p fun xs => .test (xs.all (fun x=>x.plain)) (k xs)
 | x=>zGD x fun p=>zKX p fun xs => .test (xs.all (fun x=>x.plain)) (k xs)
theorem zTM {x:Operand} {k:List PV→PX}:(zVc x k).toPM=zNh x fun l=>(k l).toPM:=by
 cases x<;>simp only [zVc,zNh,PX.toPM,zBZ,zKd,zBq]
 congr 1;funext p
 cases p<;>first | rfl | simp only [PX.toPM,zKd,zBq]
def zK8 (d:Option Nat) (b:Builtin) (ts:List TypeId) (args:List Operand):PX :=
 match b,args,ts with
 | .len,[x],t::_=>zGD x fun p=>match P.underlying t with
  | some (.array n _)=>zF7 d (.int .i64 n)
  | some (.slice _) => .num (lenOf p) fun n=>zF7 d (.int .i64 n)
  | _ => .fail
 | .append,[x,y],[t,t2]=>bif (zBM P t2).isNone then .fail else match (zBM P t).bind (szT P),(zBM P t).bind (zHK P),(zBM P t).bind (zCx P) with
  | some sz,some by_,some z=>if by_≤16384∧z.cells.length=sz then zGD x fun base=>zVc y fun ys=>zNs d sz base ys else .fail
  | _,_,_ => .fail
 | .max,xs,_=>zPy xs fun ps => .pick (zWE ps) fun v=>zF7 d v
 | .min,xs,_=>zPy xs fun ps => .pick (zW4 ps) fun v=>zF7 d v
 | b,args,ts => .emb (zBm P d b ts args)
theorem zNR {d:Option Nat} {b:Builtin} {ts:List TypeId} {args:List Operand}:(zK8 P d b ts args).toPM=zBm P d b ts args:=by
 unfold zK8
 split
 ·simp only [zBZ,zBm]
  congr 1;funext p
  generalize P.underlying _=u
  cases u with
  | none=>rfl
  | some u =>
   cases u<;>first | rfl | exact zBr | skip
   simp only [PX.toPM,zBr]
   cases lenOf p<;>simp only [PX.toPM,zBr]
 ·simp only [zBm,zDc]
  congr 1
  generalize (zBM P _).bind (szT P)=a1
  generalize (zBM P _).bind (zHK P)=a2
  generalize (zBM P _).bind (zCx P)=a3
  cases a1<;>cases a2<;>cases a3<;>first | rfl | simp only [zOe,zBZ,zTM,zP0,PX.toPM]
 ·simp only [zBm,zId,PX.toPM,zBr]
  congr 1;funext ps
  cases zWE ps<;>simp only [PX.toPM,zBr]
 ·simp only [zBm,zId,PX.toPM,zBr]
  congr 1;funext ps
  cases zW4 ps<;>simp only [PX.toPM,zBr]
 ·rfl
end
end Go.Eng
namespace Go.Eng
open Go
section
variable (P:Program) (H:zBc)
def zVV {α:Type} (x:Option α) (k:α→PX):PX :=
 match x with
 | some a=>k a
 | none => .fail
theorem zIY {α:Type} {x:Option α} {k:α→PX}:(zVV x k).toPM=zIb x fun a=>(k a).toPM:=by cases x<;>rfl
theorem zIH {x:Option PV} {k:PV→PX}:(PX.pick x k).toPM=zIb x fun a=>(k a).toPM:=by cases x<;>rfl
def zOb (p:PV) (k:PV→PX) (k2:PX):PX :=
 match p with
 | .bor r pre _ lo n => .deep r pre fun q=>match q with
  | .own sz xs => .choose (Nat.beq lo 0&&Nat.beq n xs.length) (.wnode r pre .bad (k (.own sz xs))) k2
  | _=>k2
 | .bmap r pre => .deep r pre fun q=>match q with
  | .omap es => .wnode r pre .bad (k (.omap es))
  | _=>k2
 | p=>k p
theorem zMc {p:PV} {k:PV→PX} {k2:PX}:(zOb p k k2).toPM=zNK p (fun q=>(k q).toPM) k2.toPM:=by
 cases p<;>simp only [zOb,zNK,PX.toPM]
 all_goals
  congr 1;funext q
  cases q<;>rfl
def zTi (p:PV) (k:PV→PX):PX:=zOb p k (zPr zAb zDs p k)
theorem zOG {p:PV} {k:PV→PX}:(zTi p k).toPM=zLS p fun q=>(k q).toPM:=by simp only [zTi,zLS,zMc,zFn]
def zOr:List PV→(List PV→PX)→PX
 | [],k=>k []
 | p::ps,k=>zOb p (fun q=>zOr ps fun qs=>k (q::qs)) .fail
theorem zMm:∀ {ps:List PV} {k:List PV→PX},(zOr ps k).toPM=zJD ps fun qs=>(k qs).toPM
 | [],_=>rfl
 | p::ps,k=>by simp only [zOr,zJD,zMc,zMm,PX.toPM]
def zQq:PV→Bool
 | .bor .. | .bmap .. | .bsl .. => true
 | _=>false
def zIE (tk:Bool) (p:PV) (k:PV→PX):PX :=
 match p with
 | .agg cs=>bif tk then zOr cs fun cs=>k (.agg cs) else .choose (cs.any zQq) (zPr zAb zDs p k) (k p)
 | .bsl .. => zPr zAb zDs p k
 | .bor .. | .bmap .. => bif tk then zTi p k else zPr zAb zDs p k
 | p=>k p
theorem zHx {tk:Bool} {p:PV} {k:PV→PX}:(zIE tk p k).toPM=zFI tk p fun q=>(k q).toPM:=by
 cases p<;>simp only [zIE,zFI,zDc,zMm,zOG,zFn,PX.toPM]
 rfl
def zIa (tk:Bool):List PV→(List PV→PX)→PX
 | [],k=>k []
 | p::ps,k=>zIE tk p fun q=>zIa tk ps fun qs=>k (q::qs)
theorem zJb {tk:Bool}:∀ {ps:List PV} {k:List PV→PX},(zIa tk ps k).toPM=zF5 tk ps fun qs=>(k qs).toPM
 | [],_=>rfl
 | p::ps,k=>by simp only [zIa,zF5,zHx,zJb]
def zN2 (r:Nat) (pre:zAO) (i c:Nat) (v:PV):PX :=
 .test (!v.heavy||v.ways.all (fun w => !(zAH r pre w.1 w.2&&Nat.blt pre.length w.2.length))) (.test (v.cells.all (fun q=>q.oneCell)) (.test (!v.cells.isEmpty) (zRH r pre i c v.cells (.wcells r pre i c v.cells .ok))))
theorem zMd {r:Nat} {pre:zAO} {i c:Nat} {v:PV}:(zN2 r pre i c v).toPM=zHS r pre i c v:=by
 simp only [zN2,zHS,PX.toPM,zQo,zC3]
def zI3 (tk:Bool) (r:Nat) (pre:zAO) (v:PV) (k:PV→PX):PX :=
 bif pre.isEmpty && !tk then .view r fun q=>(match q with | .addr .. => k v | _=>zIE tk v k) else zIE tk v k
theorem zMt {tk:Bool} {r:Nat} {pre:zAO} {v:PV} {k:PV→PX}:(zI3 tk r pre v k).toPM=zIe tk r pre v fun q=>(k q).toPM:=by
 simp only [zI3,zIe,zDc,PX.toPM,zHx]
 congr 1;congr 1;funext q
 cases q<;>first | rfl | exact zHx
def zI1 (tk:Bool) (r:Nat) (pre:zAO) (i c:Nat) (v:PV):PX :=
 match zQw r pre i c v with
 | some m => .deep r (pre++[(i,c)]) fun q=>match q with
  | .own s xs => .test (Nat.ble m xs.length) (.wnode r (pre++[(i,c)]) .bad (.same (.own s ((xs.drop 0).take m)) fun v=>zN2 r pre i c v))
  | _ => .fail
 | none=>zI3 tk r pre v fun v => .same v fun v=>zN2 r pre i c v
theorem zKF {tk:Bool} {r:Nat} {pre:zAO} {i c:Nat} {v:PV}:(zI1 tk r pre i c v).toPM=zHZ tk r pre i c v:=by
 simp only [zI1,zHZ]
 cases zQw r pre i c v with
 | none=>simp only [zMt,PX.toPM,zMd]
 | some m =>
  simp only [PX.toPM]
  congr 1;funext q
  cases q<;>first | rfl | simp only [PX.toPM,zMd]
def zQ4 (fz tk:Bool) (t:TypeId) (a x:Operand):PX :=
 zGD a fun pa=>match pa,x with
 | .addr r pre i c _,.const (.slice none 0 0)=>zVV ((zBM P t).bind (szT P)) fun s=>if szT P t=some 1 then zI1 tk r pre i c (.own s []) else .fail
 | pa,x=>match pa,shT P t,szT P t with
 | .addr r pre i c _,some sh,some n=>(bif fz&&tk then zGD x else zLy x) fun v =>
  .test (Nat.beq v.cells.length n) (.test (v.isAgg==sh.isSome) (zI1 (tk && !fz) r pre i c (bif fz && !tk then zAP v else v)))
 | _,_,_ => .fail
theorem zRO {fz tk:Bool} {t:TypeId} {a x:Operand}:(zQ4 P fz tk t a x).toPM=zOE P fz tk t a x:=by
 simp only [zQ4,zOE,zBZ]
 congr 1;funext pa
 have key:∀ (sh:Option (Option Nat)) (n:Option Nat),(match pa,sh,n with
   | .addr r pre i c _,some sh,some n=>(bif fz&&tk then zGD x else zLy x) fun v=>PX.test (Nat.beq v.cells.length n) (.test (v.isAgg==sh.isSome) (zI1 (tk && !fz) r pre i c (bif fz && !tk then zAP v else v)))
   | _,_,_=>PX.fail).toPM=(match pa,sh,n with
   | .addr r pre i c _,some sh,some n=>(bif fz&&tk then opd x else zO9 x) fun v=>bif Nat.beq v.cells.length n&&v.isAgg==sh.isSome then zHZ (tk && !fz) r pre i c (bif fz && !tk then zAP v else v) else .fail
   | _,_,_=>PM.fail):=by
  intro sh n
  cases pa<;>first | rfl | skip
  cases sh<;>cases n<;>first | rfl | skip
  cases hc:(fz&&tk)<;>simp only [cond_true,cond_false,zBZ,zFU,PX.toPM,zKF,zC3]
 split
 ·simp only [zIY,zOe,zKF,PX.toPM]
 ·rename_i h
  rw [key]
  cases pa<;>first | rfl | skip
  cases x<;>first | rfl | skip
  rename_i v
  cases v<;>first | rfl | skip
  rename_i a n m
  cases a<;>cases n<;>cases m<;>first | rfl | exact (h _ _ _ _ _ rfl rfl).elim
def zIy (d:Option Nat) (p:PV):PX :=
 match d,p with
 | some d',.bor r [] z lo n=>if r=d' then .get r fun root=>match root with
   | .own sz xs => .test (Nat.ble (lo+n) xs.length) (.kill r [] (.same (.own sz ((xs.drop lo).take n)) fun o => .set r o .ok))
   | _ => .fail
  else zF7 d p
 | _,_=>zF7 d p
theorem zNC {d:Option Nat} {p:PV}:(zIy d p).toPM=zFy d p:=by
 unfold zIy zFy
 split
 ·simp only [zOe,zBr,PX.toPM]
  congr 1;congr 1;funext q
  cases q<;>rfl
 ·rename_i h
  split
  ·exact (h _ _ _ _ _ rfl rfl).elim
  ·exact zBr
def zJh (tk nl:Bool) (d:Option Nat) (t:TypeId) (x:Operand):PX :=
 match x with
 | .const (.slice none 0 0) => .emb (zFV P tk nl d t x)
 | x=>zLy x fun p=>bif tk then zTi p (zIy d) else zIy d p
theorem zLZ {tk nl:Bool} {d:Option Nat} {t:TypeId} {x:Operand}:(zJh P tk nl d t x).toPM=zFV P tk nl d t x:=by
 unfold zJh
 split
 ·rfl
 ·rename_i h
  unfold zFV
  split
  ·exact (h rfl).elim
  ·simp only [zFU,zDc,zOG,zNC]
def zRr (d:Option Nat) (t:TypeId) (x:Operand):PX:=zLy x fun p=>match shT P t,szT P t with
 | some sh,some n => .test (decide (p.cells.length=n)) (.test (decide (p.isAgg=sh.isSome)) (.test p.whole (zF7 d (.box p))))
 | _,_ => .fail
theorem zRE {d:Option Nat} {t:TypeId} {x:Operand}:(zRr P d t x).toPM=zTz P d t x:=by
 simp only [zRr,zTz,zFU]
 congr 1;funext p
 cases shT P t<;>cases szT P t<;>first | rfl | skip
 simp only [PX.toPM,zBr,zBq,Bool.and_eq_true,decide_eq_true_eq]
 split<;>split<;>(try split)<;>simp_all
def zUM (nz:Option Nat) (x:Operand) (k:PV→PX):PX :=
 match nz,x with
 | some s,.const (.slice none 0 0)=>k (.own s [])
 | _,x=>zLy x k
def zN6 (nz:Option Nat):List Operand→(List PV→PX)→PX
 | [],k=>k []
 | x::xs,k=>zUM nz x fun p=>zN6 nz xs fun ps=>k (p::ps)
theorem zTA {nz:Option Nat} {x:Operand} {k:PV→PX}:(zUM nz x k).toPM=zXb nz x fun p=>(k p).toPM:=by
 unfold zUM zXb
 split
 ·rfl
 ·rename_i h
  rw [zFU]
  split
  ·exact (h _ rfl rfl).elim
  ·rfl
theorem zMr {nz:Option Nat}:∀ {xs:List Operand} {k:List PV→PX},(zN6 nz xs k).toPM=zPZ nz xs fun p=>(k p).toPM
 | [],_=>rfl
 | x::xs,k=>by simp only [zN6,zPZ,zTA,zMr]
def zFc (tk:Bool) (d:Option Nat) (t:TypeId) (n:Nat) (ps:List (Nat×Operand)):PX :=
 match zBM P t with
 | some e=>match szT P e,zCx P e with
  | some s,some z=>if n*s≤65536&&Nat.beq z.cells.length s&&ps.all (fun x=>x.1<n) then zN6 (zW9 (zCx P e)) (ps.map (·.2)) fun vs=>zIa tk vs fun vs =>
    .sames vs fun vs => .test (zBn vs).isEmpty (.test (vs.all (fun v=>v.cells.length=s&&v.isAgg=z.isAgg&&v.whole)) (zF7 d (.own s (zMh n z ((ps.map (·.1)).zip vs)))))
   else .fail
  | _,_ => .fail
 | none => .fail
theorem zH9 {tk:Bool} {d:Option Nat} {t:TypeId} {n:Nat} {ps:List (Nat×Operand)}:(zFc P tk d t n ps).toPM=zDA P tk d t n ps:=by
 simp only [zFc,zDA]
 cases zBM P t with
 | none=>rfl
 | some e =>
  simp only
  generalize szT P e=a1
  generalize zCx P e=a2
  cases a1<;>cases a2<;>first | rfl | skip
  simp only [zOe,zMr,zJb,PX.toPM,zBr]
  congr 1;congr 1;funext vs;congr 1;funext vs
  cases (zBn vs).isEmpty with
  | false=>rfl
  | true=>simp only [cond_true,Bool.true_and,zBq,if_true]
def zN9 (d:Option Nat) (sh:Option Nat) (p:PV):PX :=
 match p with
 | .ref q => .test (decide (q.isAgg=sh.isSome)) (.test (decide (q.cells.length=sh.getD 1)) (zF7 d q))
 | .addr r pre i c _=>zRK r pre i c sh (zF7 d)
 | _ => .fail
theorem zMo {d:Option Nat} {sh:Option Nat} {p:PV}:(zN9 d sh p).toPM=zPg d sh p:=by
 cases p<;>simp only [zN9,zPg,PX.toPM,zLj,zBr]
 simp only [zBq,Bool.and_eq_true,decide_eq_true_eq]
 split<;>split<;>simp_all
def zNH (tk:Bool) (d:Option Nat) (t:TypeId) (a:Operand):PX:=zVV (shT P t) fun sh=>zGD a fun p =>
 bif tk then (match p with
  | .addr r pre i c _=>zRK r pre i c sh fun v=>zPr zAb zDs v (zF7 d)
  | p=>zN9 d sh p) else zN9 d sh p
theorem zPF {tk:Bool} {d:Option Nat} {t:TypeId} {a:Operand}:(zNH P tk d t a).toPM=zOP P tk d t a:=by
 simp only [zNH,zOP,zIY,zBZ,zDc,zMo]
 congr 1;funext sh;congr 1;funext p;congr 1
 cases p<;>simp only [zMo,zLj,zFn,zBr]
def zQ0 (d:Option Nat) (op:BinOp) (t:TypeId) (x y:Operand):PX:=zGD x fun p=>zGD y fun q => .pick (zHM P op t p q) (zF7 d)
theorem zQk {d:Option Nat} {op:BinOp} {t:TypeId} {x y:Operand}:(zQ0 P d op t x y).toPM=zTd P d op t x y:=by
 simp only [zQ0,zTd,zBZ,zIH,zBr]
def zY2 (d:Option Nat) (op:UnOp) (p:PV):PX :=
 match op,p with
 | .not,.bool b=>zF7 d (.bool !b)
 | .neg,.int k n=>zF7 d (.int k (k.wrap (0-n)))
 | _,_ => .fail
theorem zVv {d:Option Nat} {op:UnOp} {p:PV}:(zY2 d op p).toPM=unV d op p:=by
 cases op<;>cases p<;>first | rfl | exact zBr
def zSf (d:Option Nat) (t:TypeId) (p:PV):PX :=
 match P.underlying t,p with
 | some (.int k),.int _ n=>zF7 d (.int k (k.wrap n))
 | _,_ => .fail
theorem zQP {d:Option Nat} {t:TypeId} {p:PV}:(zSf P d t p).toPM=zQb P d t p:=by
 simp only [zSf,zQb]
 cases P.underlying t with
 | none=>rfl
 | some u=>cases u<;>cases p<;>first | rfl | exact zBr
def zFu (d:Option Nat) (t:TypeId) (l c:Operand):PX :=
 zGD l fun l=>zFk l fun l=>zGD c fun c=>zFk c fun c=>match zBM P t with
 | some e=>match zCx P e,szT P e,zHK P e with
  | some z,some s,some b => .test (decide (l≤c)) (.test (decide (c≤zAY)) (.test (decide (b≤16384∧z.cells.length=s)) (zF7 d (.own s (List.replicate l z)))))
  | _,_,_ => .fail
 | none => .fail
theorem zI2 {d:Option Nat} {t:TypeId} {l c:Operand}:(zFu P d t l c).toPM=zE7 P d t l c:=by
 simp only [zFu,zE7,zBZ,zEC]
 congr 1;funext p;congr 1;funext l;congr 1;funext q;congr 1;funext c
 cases zBM P t with
 | none=>rfl
 | some e =>
  simp only
  generalize zCx P e=a1
  generalize szT P e=a2
  generalize zHK P e=a3
  cases a1<;>cases a2<;>cases a3<;>first | rfl | skip
  simp only [PX.toPM,zBr,zBq,decide_eq_true_eq]
  by_cases h1:l≤c<;>by_cases h2:c≤zAY<;>simp [h1,h2]
def zNW (d:Option Nat) (n:Nat) (e:TypeId) (p:PV) (i:Nat):PX :=
 match szT P e,shT P e with
 | some s,some sh => .test (decide (i<n)) (.pick (zCd p (i*s) sh) (zF7 d))
 | _,_ => .fail
def zRJ (d:Option Nat) (e:TypeId) (p:PV) (i:Nat):PX :=
 match p with
 | .sl xs => .pick (xs[i]?) fun x => .test (decide (szT P e=some x.cells.length)) (zF7 d (.ref x))
 | .bor r pre z lo n=>match shT P e with
  | some sh => .test (decide (i<n)) (.test (decide (szT P e=some z)) (.num (some (lo+i)) fun j=>zF7 d (.addr r pre j 0 sh)))
  | none => .fail
 | .bsl r pre j c s ag n => .test (decide (i<n)) (.test (decide (szT P e=some s)) (.num (some (c+i*s)) fun c=>zF7 d (.addr r pre j c (if ag then some s else none))))
 | _ => .fail
theorem zPi {d:Option Nat} {n:Nat} {e:TypeId} {p:PV} {i:Nat}:(zNW P d n e p i).toPM=zOZ P d n e p i:=by
 simp only [zNW,zOZ]
 generalize szT P e=a1
 generalize shT P e=a2
 cases a1<;>cases a2<;>first | rfl | skip
 simp only [PX.toPM,zIH,zBr,zBq,decide_eq_true_eq]
theorem zR3 {d:Option Nat} {e:TypeId} {p:PV} {i:Nat}:(zRJ P d e p i).toPM=zSe P d e p i:=by
 cases p<;>simp only [zRJ,zSe,PX.toPM,zIH,zBr]
 ·congr 1;funext x;simp only [zBq,decide_eq_true_eq]
 ·cases shT P e with
  | none=>rfl
  | some sh =>
   simp only [PX.toPM,zBr,zBq,decide_eq_true_eq]
   split<;>split<;>simp_all
 ·simp only [zBq,decide_eq_true_eq]
  split<;>split<;>simp_all
def zFx (d:Option Nat) (t:TypeId) (x i:Operand):PX :=
 zGD x fun p=>zGD i fun i=>zFk i fun i=>match P.underlying t with
 | some (.array n e)=>zNW P d n e p i
 | some (.slice e)=>zRJ P d e p i
 | _ => .fail
theorem zI5 {d:Option Nat} {t:TypeId} {x i:Operand}:(zFx P d t x i).toPM=zE0 P d t x i:=by
 simp only [zFx,zE0,zBZ,zEC]
 congr 1;funext p;congr 1;funext q;congr 1;funext i
 cases P.underlying t with
 | none=>rfl
 | some u=>cases u<;>first | rfl | exact zPi P | exact zR3 P
def zKS (d:Option Nat) (t:TypeId) (x i:Operand):PX :=
 zGD x fun p=>zGD i fun i=>zFk i fun i=>match P.underlying t with
 | some (.array n e)=>match szT P e,shT P e with
  | some s,some sh => .test (decide (i<n)) (.pick (sub p (i*s) sh) (zF7 d))
  | _,_ => .fail
 | _ => .fail
theorem zNz {d:Option Nat} {t:TypeId} {x i:Operand}:(zKS P d t x i).toPM=zLt P d t x i:=by
 simp only [zKS,zLt,zBZ,zEC]
 congr 1;funext p;congr 1;funext q;congr 1;funext i
 cases P.underlying t with
 | none=>rfl
 | some u =>
  cases u<;>first | rfl | skip
  rename_i n e
  simp only
  generalize szT P e=a1
  generalize shT P e=a2
  cases a1<;>cases a2<;>first | rfl | skip
  simp only [PX.toPM,zIH,zBr,zBq,decide_eq_true_eq]
def zV2 (x:Option Operand) (n:Nat) (k:Nat→PX):PX :=
 match x with
 | some x=>zGD x fun p=>zFk p k
 | none=>k n
theorem zQX {x:Option Operand} {n:Nat} {k:Nat→PX}:(zV2 x n k).toPM=zSi x n fun m=>(k m).toPM:=by
 cases x with
 | none=>rfl
 | some x=>simp only [zV2,zSi,zBZ,zEC]
def zNy (d:Option Nat) (s:Nat) (p:PV) (l h:Nat):PX :=
 match p with
 | .sl xs => .test (Nat.ble l h) (.test (Nat.ble h xs.length) (.test (xs.all (fun x=>Nat.beq x.cells.length s)) (zF7 d (.sl ((xs.drop l).take (h-l))))))
 | .bor r pre z a n =>
  .test (Nat.beq z s) (.test (Nat.ble l h) (
   .choose (Nat.ble h n) (.choose (Nat.beq l 0||Nat.blt l h) (zF7 d (.bor r pre z (a+l) (h-l))) (zF7 d (.sl [])))
   (.deep r pre fun q=>match q with
    | .own _ xs => .test (Nat.ble (a+h) xs.length) (.choose (Nat.beq l 0||Nat.blt l h) (zF7 d (.bor r pre z (a+l) (h-l))) (zF7 d (.sl [])))
    | _ => .fail)))
 | _ => .fail
theorem zSY {d:Option Nat} {b:Bool} {p q:PV}:put d (bif b then p else q)=bif b then put d p else put d q:=by cases b<;>rfl
theorem zP4 {d:Option Nat} {s:Nat} {p:PV} {l h:Nat}:(zNy d s p l h).toPM=zO8 d s p l h:=by
 cases p<;>simp only [zNy,zO8,PX.toPM,zBr,zC3,zSY]
 congr 1;congr 1;congr 1;congr 1;funext q
 cases q<;>first | rfl | simp only [PX.toPM,zBr]
def zM9 (d:Option Nat) (n s:Nat) (sh:Option Nat) (p:PV) (l h:Nat):PX :=
 .test (Nat.ble l h) (.test (Nat.ble h n) (.test (Nat.beq l 0||Nat.blt l n) (
  match p with
  | .addr r pre i c _ => .num (some (h-l)) fun m=>zF7 d (.bsl r pre i (c+l*s) s sh.isSome m)
  | .ref (.agg cs) => .test (Nat.ble (n*s) cs.length) (.test (zCg sh.isSome s (h-l) ((cs.drop (l*s)).take ((h-l)*s))) (.test (zBn cs).isEmpty (zF7 d (.sl (zCf sh.isSome s (h-l) ((cs.drop (l*s)).take ((h-l)*s)))))))
  | _ => .fail)))
theorem zPV {d:Option Nat} {n s:Nat} {sh:Option Nat} {p:PV} {l h:Nat}:(zM9 d n s sh p l h).toPM=zRF d n s sh p l h:=by
 cases p<;>simp only [zM9,zRF,PX.toPM,zBr,zC3]
 rename_i q
 cases q<;>simp only [PX.toPM,zBr,zC3]
def zRT (d:Option Nat) (t:TypeId) (x:Operand) (lo hi mx:Option Operand):PX :=
 match mx with
 | some m => .emb (zIB P d t x lo hi (some m))
 | none=>zGD x fun p=>match P.underlying t with
  | some (.array n e)=>match szT P e,shT P e with
   | some s,some sh=>zV2 hi n fun h=>zV2 lo 0 fun l=>zM9 d n s sh p l h
   | _,_ => .fail
  | some (.slice e)=>match szT P e,lenOf p with
   | some s,some n=>zV2 hi n fun h=>zV2 lo 0 fun l=>zNy d s p l h
   | _,_ => .fail
  | _ => .fail
theorem zQB {d:Option Nat} {t:TypeId} {x:Operand} {lo hi mx:Option Operand}:(zRT P d t x lo hi mx).toPM=zIB P d t x lo hi mx:=by
 cases mx with
 | some _=>rfl
 | none =>
  simp only [zRT,zIB,zBZ]
  congr 1;funext p
  cases P.underlying t with
  | none=>rfl
  | some u =>
   cases u<;>first | rfl | skip
   ·rename_i e
    simp only
    generalize szT P e=a1
    generalize lenOf p=a2
    cases a1<;>cases a2<;>first | rfl | simp only [zQX,zP4]
   ·rename_i n e
    simp only
    generalize szT P e=a1
    generalize shT P e=a2
    cases a1<;>cases a2<;>first | rfl | simp only [zQX,zPV]
def zJB (es:List (PV×PV)) (i:Nat):Option PV:=(es[i]?).map (·.2)
def zJs (d:Option Nat) (kt:TypeId) (z key:PV) (ok:Bool) (es:List (PV×PV)):PX :=
 .idx (zC1 P kt key es 0) fun x=>match x with
 | some i => .pick (zJB es i) fun v => .test v.lone (zE5 d (if ok then .tup [v,.bool true] else v))
 | none=>zE5 d (if ok then .tup [z,.bool false] else z)
theorem zKf {d:Option Nat} {kt:TypeId} {z key:PV} {ok:Bool} {es:List (PV×PV)}:(zJs P d kt z key ok es).toPM=zIC P d kt z key ok es:=by
 simp only [zJs,zIC,PX.toPM]
 cases zC1 P kt key es 0 with
 | none=>rfl
 | some x =>
  cases x with
  | none=>exact zEG
  | some i =>
   show (PX.pick (zJB es i) fun v => .test v.lone (zE5 d (if ok then .tup [v,.bool true] else v))).toPM=_
   rw [zIH]
   simp only [zJB,PX.toPM,zEG]
   cases es[i]?<;>rfl
def zQ5 (d:Option Nat) (kt:TypeId) (z key:PV) (ok:Bool) (m:PV):PX :=
 match m with
 | .nilm=>zJs P d kt z key ok []
 | .map es=>zJs P d kt z key ok es
 | .bmap r pre => .deep r pre fun q=>match q with
  | .omap es=>zJs P d kt z key ok es
  | _ => .fail
 | _ => .fail
theorem zRc {d:Option Nat} {kt:TypeId} {z key:PV} {ok:Bool} {m:PV}:(zQ5 P d kt z key ok m).toPM=zTn P d kt z key ok m:=by
 cases m<;>first | rfl | exact zKf P | skip
 simp only [zQ5,zTn,PX.toPM]
 congr 1;funext q
 cases q<;>first | rfl | exact zKf P
def zJJ (d:Option Nat) (t:TypeId) (m x:Operand) (ok:Bool):PX :=
 zGD m fun m=>zGD x fun key=>match P.underlying t with
 | some (.map kt e) => .test (zPb P 20 kt key) (zVV (zCx P e) fun z => .test (zJK z).lone (zQ5 P d kt (zJK z) key ok m))
 | _ => .fail
theorem zLM {d:Option Nat} {t:TypeId} {m x:Operand} {ok:Bool}:(zJJ P d t m x ok).toPM=zIq P d t m x ok:=by
 simp only [zJJ,zIq,zBZ]
 congr 1;funext p;congr 1;funext q
 cases P.underlying t with
 | none=>rfl
 | some u=>cases u<;>first | rfl | simp only [PX.toPM,zIY,zRc]
def zT9 (es:List (PV×PV)) (k:List (PV×PV)→PX):PX := .same (.omap es) fun q=>match q with
 | .omap es=>k es
 | _ => .fail
def zNa (kt:TypeId) (key v m:PV):PX :=
 match m with
 | .bmap r pre => .test v.lone (.deep r pre fun q=>match q with
  | .omap es => .idx (zC1 P kt key es 0) fun x=>match x with
   | some i=>zT9 (es.modify i fun _=>(key,v)) fun es => .wnode r pre (.omap es) .ok
   | none=>zT9 (es++[(key,v)]) fun es => .wnode r pre (.omap es) .ok
  | _ => .fail)
 | _ => .fail
theorem zP5 {kt:TypeId} {key v m:PV}:(zNa P kt key v m).toPM=zLO P kt key v m:=by
 cases m<;>first | rfl | skip
 simp only [zNa,zLO,PX.toPM]
 congr 1;congr 1;funext q
 cases q<;>first | rfl | skip
 rename_i es
 simp only [PX.toPM]
 cases zC1 P kt key es 0 with
 | none=>rfl
 | some x=>cases x<;>rfl
def zFm (t:TypeId) (m x y:Operand):PX:=zGD m fun m=>zGD x fun key=>match P.underlying t with
 | some (.map kt _) => .test (zPb P 20 kt key&&key.flat) (zLy y fun v=>zPr zAb zDs v fun v=>zNa P kt key (zAP v) m)
 | _ => .fail
theorem zJw {t:TypeId} {m x y:Operand}:(zFm P t m x y).toPM=zEY P t m x y:=by
 simp only [zFm,zEY,zBZ]
 congr 1;funext p;congr 1;funext q
 cases P.underlying t with
 | none=>rfl
 | some u=>cases u<;>first | rfl | simp only [PX.toPM,zFU,zFn,zP5]
def zUd (es:List (PV×PV)) (i:Nat):Option PV:=(es[i]?).map (·.1)
def zNr (d:Option Nat) (kt:TypeId) (z key m:PV):PX :=
 match m with
 | .bmap r pre => .deep r pre fun q=>match q with
  | .omap es => .idx (zC1 P kt key es 0) fun x=>match x with
   | some i => .pick (zJB es i) fun v => .test v.lone (.wnode r pre (.omap (es.modify i fun _=>(key,v))) (zE5 d (.tup [v,.int .i64 i])))
   | none => .wnode r pre (.omap (es++[(key,z)])) (zE5 d (.tup [z,.int .i64 es.length]))
  | _ => .fail
 | _ => .fail
theorem zPm {d:Option Nat} {kt:TypeId} {z key m:PV}:(zNr P d kt z key m).toPM=zO4 P d kt z key m:=by
 cases m<;>first | rfl | skip
 simp only [zNr,zO4,PX.toPM]
 congr 1;funext q
 cases q<;>first | rfl | skip
 rename_i es
 simp only [PX.toPM]
 cases zC1 P kt key es 0 with
 | none=>rfl
 | some x =>
  cases x with
  | none=>simp only [PX.toPM,zEG]
  | some i =>
   simp only [PX.toPM,zJB]
   cases es[i]? with
   | none=>rfl
   | some kv=>obtain ⟨k,v⟩:=kv;simp only [Option.map_some,PX.toPM,zEG]
def zGt (d:Option Nat) (t:TypeId) (m x:Operand):PX:=zGD m fun m=>zGD x fun key=>match P.underlying t with
 | some (.map kt el) => .test (zPb P 20 kt key&&key.flat) (zVV (zCx P el) fun z => .test (zJK z).lone (zNr P d kt (zJK z) key m))
 | _ => .fail
theorem zJ3 {d:Option Nat} {t:TypeId} {m x:Operand}:(zGt P d t m x).toPM=zF4 P d t m x:=by
 simp only [zGt,zF4,zBZ]
 congr 1;funext p;congr 1;funext q
 cases P.underlying t with
 | none=>rfl
 | some u=>cases u<;>first | rfl | simp only [PX.toPM,zIY,zPm]
def zJV (i:Nat) (v m:PV):PX :=
 match m with
 | .bmap r pre => .test v.lone (.deep r pre fun q=>match q with
  | .omap es => .pick (zUd es i) fun k => .wnode r pre (.omap (es.modify i fun _=>(k,v))) .ok
  | _ => .fail)
 | _ => .fail
theorem zMv {i:Nat} {v m:PV}:(zJV i v m).toPM=zIj i v m:=by
 cases m<;>first | rfl | skip
 simp only [zJV,zIj,PX.toPM]
 congr 1;congr 1;funext q
 cases q<;>first | rfl | skip
 rename_i es
 simp only [PX.toPM,zUd]
 cases es[i]? with
 | none=>rfl
 | some kv=>obtain ⟨k,x⟩:=kv;rfl
def zE3 (m s y:Operand):PX:=zGD m fun m=>zGD s fun s=>zFk s fun i=>zLy y fun v=>zPr zAb zDs v fun v=>zJV i (zAP v) m
theorem zH8 {m s y:Operand}:(zE3 m s y).toPM=zEk m s y:=by
 simp only [zE3,zEk,zBZ,zEC,zFU,zFn,zMv]
def zM7 (d:Option Nat) (c:Call):PX :=
 match c.callee with
 | .builtin b=>zK8 P d b c.argTypes.toList c.args.toList
 | .value f=>zGD f (zRp H d c.args.toList)
 | _ => .fail
theorem zPY {d:Option Nat} {c:Call}:(zM7 P H d c).toPM=zI6 P H d c:=by
 simp only [zM7,zI6]
 cases c.callee<;>simp only [PX.toPM,zNR,zBZ,zRe]
def opX (fz tk nl:Bool) (o:Oper):PX :=
 match o.op with
 | .assign x=>zJh P tk nl o.dst o.type x
 | .box t x=>zRr P o.dst t x
 | .buildSlice t n ps=>zFc P tk o.dst t n ps.toList
 | .load t a=>zNH P tk o.dst t a
 | .store t a x=>zQ4 P fz tk t a x
 | .binOp op t x y _=>zQ0 P o.dst op t x y
 | .unOp op _ x=>zGD x (zY2 o.dst op)
 | .convert _ t x=>zGD x (zSf P o.dst t)
 | .makeSlice t l c=>zFu P o.dst t l c
 | .slice t x lo hi mx=>zRT P o.dst t x lo hi mx
 | .indexAddr t x i=>zFx P o.dst t x i
 | .index t x i=>zKS P o.dst t x i
 | .lookup t m x ok=>zJJ P o.dst t m x ok
 | .mapUpdate t m x y=>zFm P t m x y
 | .mapEntry t m x=>zGt P o.dst t m x
 | .entryStore _ m s x=>zE3 m s x
 | .call c=>zM7 P H o.dst c
 | _ => .emb (opM P H fz tk nl o)
theorem zWC {fz tk nl:Bool} {o:Oper}:(opX P H fz tk nl o).toPM=opM P H fz tk nl o:=by
 obtain ⟨dst,op,type,pos,after,guard⟩:=o
 cases op<;>simp only [opX,opM,PX.toPM,zLZ,zRE,zH9,zPF,zRO,zQk,zBZ,zVv,zQP,zI2,zQB,zI5,zNz,zLM,zJw,zJ3,zH8,zPY]
end
end Go.Eng
namespace Go.Eng
open Go
section
variable [Yo] {P:Program} {H:zBc} {f:FuncId} {nt:Nat} {e e':Env} {lg:Option Log} {K:X→Env→Option Log→Prop} {i:Nat} {c:Code} {s:RS} {R:Env→Option Log→Prop}
abbrev zXm (P:Program) (H:zBc) (f:FuncId) (c:Code) (i:Nat):PX:=opX P H (((H f).frzs (rid c)).contains i) (((H f).take (rid c)).contains i) (H f).nils (zDP c i)
def zVU [Yo] (P:Program) (H:zBc) (f:FuncId) (c:Code) (i:Nat) (as:Ans) (s:RS):Option (RS×List Prop) :=
 match (zXm P H f c i).run P H as s.e with
 | some (e',t,obs)=>(zRh c i s e' t).map fun s'=>(s',obs)
 | none=>none
def rsX (o:Option (RS×List Prop)):RS:=zVT (o.map (·.1))
theorem S_x (as:Ans) (obs:List Prop) (ho:zTy obs) (h:WS P H f c (i+1) (rsX (zVU P H f c i as s)) R) (hq:(zVU P H f c i as s).map (·.2)=some obs:=by kernel_rfl) (hi:Nat.blt i (zFf c).size=true:=by kernel_rfl):WS P H f c i s R:=by
 obtain ⟨⟨s',obs'⟩,hs,hq⟩:=Option.map_eq_some_iff.1 hq
 simp only at hq;subst hq
 simp only [zVU] at hs
 split at hs
 ·rename_i e1 t obs hr
  obtain ⟨s1,h1,h2⟩:=Option.map_eq_some_iff.1 hs
  simp only [Prod.mk.injEq] at h2
  obtain ⟨rfl,rfl⟩:=h2
  obtain ⟨n0,hn⟩:=PX.run_ok hr ho
  refine zYv (m:=some (e1,t)) ⟨n0,fun n vl=>?_⟩ ?_ ?_ hi
  ·have:=hn n vl
   rw [zWC] at this
   exact this
  ·simpa [rsX,zVU,hr,h1] using h
  ·simp [h1]
 ·cases hs
def zUI (p:PV) (k:PV→PX) (k2:PX):PX :=
 match p with
 | .bor r pre _ lo n => .deep r pre fun q=>match q with
  | .own sz xs => .choose (Nat.ble (lo+n) xs.length) (.wnode r pre .bad (.same (.own sz ((xs.drop lo).take n)) k)) k2
  | _=>k2
 | .addr r pre 0 0 _ => .deep r pre fun q=>match q with
  | .box q => .wnode r pre .bad (k (.box q))
  | _=>k2
 | .bmap r pre => .deep r pre fun q=>match q with
  | .omap es => .wnode r pre .bad (k (.omap es))
  | _=>k2
 | _=>k2
omit [Yo] in
theorem zTI {p:PV} {k:PV→PX} {k2:PX}:(zUI p k k2).toPM=zQs p (fun q=>(k q).toPM) k2.toPM:=by
 unfold zUI zQs
 split
 ·simp only [PX.toPM]
  congr 1;funext q
  cases q<;>rfl
 ·simp only [PX.toPM]
  congr 1;funext q
  cases q<;>rfl
 ·simp only [PX.toPM]
  congr 1;funext q
  cases q<;>rfl
 ·rename_i h1 h2 h3
  split
  ·exact (h1 _ _ _ _ _ rfl).elim
  ·exact (h2 _ _ _ rfl).elim
  ·exact (h3 _ _ rfl).elim
  ·rfl
def zLp (frz:Bool) (p:PV) (k:PV→PX):PX :=
 bif frz||p.ways.any (fun w=>Nat.ble zAm w.1) then zPr zAm zDs p k else zUI p k (zPr zAm zDs p k)
def zEh (frz:Bool):List PV→(List PV→PX)→PX
 | [],k=>k []
 | p::ps,k=>zLp frz p fun q=>zEh frz ps fun qs=>k (q::qs)
def zIu (frz:Bool) (p:PV) (k:PV→PX):PX :=
 match p with
 | .agg cs => .choose (cs.all fun q=>q.num) (k (.agg cs)) (zEh frz cs fun qs=>k (.agg qs))
 | p=>zLp frz p k
omit [Yo] in
theorem zKE {frz:Bool} {p:PV} {k:PV→PX}:(zLp frz p k).toPM=zFM frz p fun q=>(k q).toPM:=by
 simp only [zLp,zFM,zDc,zFn,zTI]
omit [Yo] in
theorem zFG {frz:Bool}:∀ {ps:List PV} {k:List PV→PX},(zEh frz ps k).toPM=zCm frz ps fun qs=>(k qs).toPM
 | [],_=>rfl
 | p::ps,k=>by simp only [zEh,zCm,zKE,zFG]
omit [Yo] in
theorem zNZ {frz:Bool} {p:PV} {k:PV→PM} (h:p.num=true):zFM frz p k=k p:=by
 cases p<;>first | (cases h;done) | skip
 all_goals cases frz<;>rfl
omit [Yo] in
theorem zFt {frz:Bool}:∀ {ps:List PV} {k:List PV→PM},ps.all (fun q=>q.num)=true→zCm frz ps k=k ps
 | [],_,_=>rfl
 | p::ps,k,h=>by
  simp only [List.all_cons,Bool.and_eq_true] at h
  simp only [zCm,zNZ h.1,zFt h.2]
omit [Yo] in
theorem zJR {frz:Bool} {p:PV} {k:PV→PX}:(zIu frz p k).toPM=zGq frz p fun q=>(k q).toPM:=by
 cases p<;>first | exact zKE | skip
 rename_i cs
 simp only [zIu,zGq,PX.toPM,zFG]
 cases h:cs.all fun q=>q.num with
 | false=>rfl
 | true=>simp only [cond_true];exact (zFt (k:=fun qs=>(k (.agg qs)).toPM) h).symm
def zHr (P:Program) (frz:Bool):Nat→List ResultVar→PX
 | _,[] => .ok
 | j,.tmp t::rs => .view t fun p=>zIu frz p fun q => .same q fun q=>zV0 (zAx+j) q (zHr P frz (j+1) rs)
 | j,.cell a t::rs=>zVV (shT P t) fun sh => .view a fun p=>match p with
  | .addr r pre i c _=>zRK r pre i c sh fun v=>zIu frz v fun q => .same q fun q=>zV0 (zAx+j) q (zHr P frz (j+1) rs)
  | _ => .fail
omit [Yo] in
theorem zHu {frz:Bool}:∀ {rs:List ResultVar} {j:Nat},(zHr P frz j rs).toPM=zCA P frz j rs
 | [],_=>rfl
 | .tmp t::rs,j=>by simp only [zHr,zCA,PX.toPM,zJR,zLr,zHu]
 | .cell a t::rs,j=>by
  simp only [zHr,zCA,zIY,PX.toPM]
  congr 1;funext sh;congr 1;funext p
  cases p<;>first | rfl | simp only [zLj,zJR,PX.toPM,zLr,zHu]
def zNS [Yo] (P:Program) (H:zBc) (f:FuncId) (fn:Func) (as:Ans) (e:Env) (nh:Nat):Option ((PV×List PV)×List Prop) :=
 match (zHr P (H f).frz 0 fn.results.toList).run P H as e with
 | some (e',_,obs)=>bif Nat.beq fn.results.size 1&&(e'.get zAx).isTup then none else some ((zVO e' fn.results.size,(List.range nh).map fun j=>e'.get (zAm+j)),obs)
 | none=>none
def zUq [Yo] (P:Program) (H:zBc) (f:FuncId) (fn:Func) (nh:Nat) (v:PV) (hO:List PV) (x:X) (e:Env) (lg:Option Log):Prop :=
 (x = .norm∨x = .ret)∧lg=none∧∃ n0,∀ n,n0≤n→∃ e',(zCA P (H f).frz 0 fn.results.toList).run (zCR P H n) e=some e'∧(bif Nat.beq fn.results.size 1&&(e'.get zAx).isTup then none else some (zVO e' fn.results.size,(List.range nh).map fun j=>e'.get (zAm+j)))=some (v,hO)
theorem E_x {fn:Func} {nh:Nat} {v:PV} {h:List PV} {x:X} (as:Ans) (obs:List Prop) (v':PV) (h':List PV) (ho:zTy obs) (hv:v'=v) (hh:h'=h) (hf:zNS P H f fn as e nh=some ((v',h'),obs):=by kernel_rfl) (hl:lg=none:=by kernel_rfl) (hx:x = .norm∨x = .ret:=by first | exact .inr rfl | exact .inl rfl):zUq P H f fn nh v h x e lg:=by
 subst hv;subst hh
 simp only [zNS] at hf
 split at hf
 ·rename_i e1 t obs' hr
  rcases zBe hf with ⟨_,hf⟩ | ⟨hb,hf⟩
  ·cases hf
  ·simp only [Option.some.injEq,Prod.mk.injEq] at hf
   obtain ⟨⟨h1,h2⟩,rfl⟩:=hf
   obtain ⟨n0,hn⟩:=PX.run_ok hr ho
   refine ⟨hx,hl,n0,fun n vl=>⟨e1,?_,?_⟩⟩
   ·have:=hn n vl
    rw [zHu] at this
    exact zD3 this
   ·rw [hb];simp only [cond_false,h1,h2]
 ·cases hf
theorem zAe (fn:Func) {args hid:List PV} {v:PV} {hO:List PV} (h:W P H f fn.ntmps (fn.body.getD .ret) (zA5 args hid) none (zUq P H f fn hid.length v hO)) (hf:P.funcs[f]? = some fn:=by kernel_rfl) (hi:(H f).intr=0:=by kernel_rfl) (hb:fn.body.isSome=true:=by kernel_rfl)
  (hc:(Nat.ble args.length fn.ntmps&&Nat.ble hid.length 1000&&args.all (fun p => !p.isTup))=true:=by kernel_rfl):zAp P H f args hid v hO:=by
 obtain ⟨body,hb⟩:∃ body,fn.body=some body:=by cases hx:fn.body<;>first | exact ⟨_,rfl⟩ | (rw [hx] at hb;cases hb)
 simp only [hb,Option.getD_some] at h
 obtain ⟨n0,x,e1,lg1,h1,hx,rfl,n1,hr⟩:=h
 refine ⟨max n0 n1+1,fun n hn=>?_⟩
 obtain ⟨n,rfl⟩:∃ k,n=k+1:=⟨n-1,by omega⟩
 have j6:=h1 n (n+1) (by omega) (by omega)
 obtain ⟨e2,h2,hr⟩:=hr n (by omega)
 show zIQ P H (zCR P H n) Yo.yo zB5 (n+1) f args hid=_
 simp only [zIQ,hf,hi,hb,zJv,hc,cond_true,j6,ne_eq,not_true,if_false]
 rcases hx with rfl | rfl<;>simp only [h2,hr]
theorem zVk (k:Int) (xss:List (List PV)) (args:List PV) (a:Nat) (h1:k=1→WS P H f c (i+1) ⟨(zFd s.dr i (zDP c i) {all:=true}).getD none,zLY ((put (zDP c i).dst (.bool false)).run zHl (s.e.forget zAb)),some ⟨xss++[args],k-1,a⟩⟩ R)
  (h2:k≠1→WS P H f c (i+1) ⟨(zFd s.dr i (zDP c i) {all:=true}).getD none,zLY ((put (zDP c i).dst (.bool true)).run zHl s.e),some ⟨xss++[args],k-1,a⟩⟩ R) (hk:k≠0)
  (hy:zB7 s.e (zDP c i)=some (a,args):=by kernel_rfl) (hl:s.lg=some ⟨xss,k,a⟩:=by kernel_rfl) (hw:zLv (zFf c) s.e (zDP c i)=some true:=by kernel_rfl) (hf:args.all PV.flat=true:=by kernel_rfl)
  (hd:(zFd s.dr i (zDP c i) {all:=true}).isSome=true:=by kernel_rfl) (uI:((put (zDP c i).dst (.bool false)).run zHl (s.e.forget zAb)).isSome=true:=by kernel_rfl) (ug:((put (zDP c i).dst (.bool true)).run zHl s.e).isSome=true:=by kernel_rfl)
  (hi:Nat.blt i (zFf c).size=true:=by kernel_rfl):WS P H f c i s R:=by
 have wQ:zFd s.dr i (zDP c i) {all:=true}=some ((zFd s.dr i (zDP c i) {all:=true}).getD none):=by
  cases hx:zFd s.dr i (zDP c i) {all:=true} with
  | none=>rw [hx] at hd;cases hd
  | some d=>rfl
 have vN:(k != 0)=true:=by simpa using hk
 by_cases jI:k=1
 ·refine zLa hi ⟨0,fun n _=>?_⟩ wQ (h1 jI)
  have hr:(put (zDP c i).dst (.bool false)).run (zCR P H n) (s.e.forget zAb)=some (zLY ((put (zDP c i).dst (.bool false)).run zHl (s.e.forget zAb))):=zFE (zHv uI)
  have wN:(k==1)=true:=by simpa using jI
  have hyr:zBL (zCR P H n) (zFf c) (zDP c i) a args ⟨xss,k,a⟩ s.e=some (zLY ((put (zDP c i).dst (.bool false)).run zHl (s.e.forget zAb)),some ⟨xss++[args],k-1,a⟩):=by
   unfold zBL
   rw [hw]
   simp only
   rw [hf,vN,Nat.beq_refl,wN]
   simp only [Bool.and_self,cond_true]
   rw [hr];rfl
  rw [hl]
  unfold zEc
  simp only
  rw [hy]
  simp only
  rw [hyr];rfl
 ·refine zLa hi ⟨0,fun n _=>?_⟩ wQ (h2 jI)
  have hr:(put (zDP c i).dst (.bool true)).run (zCR P H n) s.e=some (zLY ((put (zDP c i).dst (.bool true)).run zHl s.e)):=zFE (zHv ug)
  have wN:(k==1)=false:=by simpa using jI
  have hyr:zBL (zCR P H n) (zFf c) (zDP c i) a args ⟨xss,k,a⟩ s.e=some (zLY ((put (zDP c i).dst (.bool true)).run zHl s.e),some ⟨xss++[args],k-1,a⟩):=by
   unfold zBL
   rw [hw]
   simp only
   rw [hf,vN,Nat.beq_refl,wN]
   simp only [Bool.and_self,cond_true,cond_false]
   rw [hr];rfl
  rw [hl]
  unfold zEc
  simp only
  rw [hy]
  simp only
  rw [hyr];rfl
theorem zVH {σ:Type} {c:Code} (Inv:σ→Prop) (upd:σ→List (Nat×PV)) (L:σ→Option Log) (μ:σ→Nat) (s:σ) (hi:Inv s) (h:∀ s,Inv s→W P H f nt (cl c) (zM4 (upd s) (e.drop ((H f).loopDrop (zAM (cl c))))) (L s) fun x e' lg'=>match x with
   | .norm=>∃ s',Inv s'∧μ s'<μ s∧e'.drop ((H f).loopDrop (zAM (cl c)))=zM4 (upd s') (e.drop ((H f).loopDrop (zAM (cl c))))∧lg'=L s'
   | x=>K x e' lg') (hs:e.drop ((H f).loopDrop (zAM (cl c)))=zM4 (upd s) (e.drop ((H f).loopDrop (zAM (cl c)))):=by kernel_rfl) (hl:lg=L s:=by kernel_rfl) (hc:zOp c=true:=by kernel_rfl):W P H f nt c e lg K:=by
 rw [zL3 hc]
 generalize hE:e.drop ((H f).loopDrop (zAM (cl c)))=e0 at h hs
 have key:∀ (n:Nat) (s:σ) (e:Env) (lg:Option Log),μ s≤n→Inv s→e.drop ((H f).loopDrop (zAM (cl c)))=zM4 (upd s) e0→lg=L s→W P H f nt (.loop (cl c)) e lg K:=by
  intro n
  induction n with
  | zero =>
   intro s e lg hs hi he vQ
   subst vQ
   obtain ⟨n0,x,e1,lg1,h1,h2⟩:=h s hi
   cases x with
   | norm=>obtain ⟨s',_,h3,_⟩:=h2;omega
   | ex id =>
    refine ⟨n0+1,_,e1,lg1,fun n m hn hm=>?_,h2⟩
    obtain ⟨m,rfl⟩:∃ k,m=k+1:=⟨m-1,by omega⟩
    simp only [exec,he,h1 n m (by omega) (by omega)]
   | ret =>
    refine ⟨n0+1,_,e1,lg1,fun n m hn hm=>?_,h2⟩
    obtain ⟨m,rfl⟩:∃ k,m=k+1:=⟨m-1,by omega⟩
    simp only [exec,he,h1 n m (by omega) (by omega)]
  | succ n ih =>
   intro s e lg hs hi he vQ
   subst vQ
   obtain ⟨n0,x,e1,lg1,h1,h2⟩:=h s hi
   cases x with
   | norm =>
    obtain ⟨s',h3,h4,h7,h8⟩:=h2
    obtain ⟨n2,x,e2,lg2,h5,h6⟩:=ih s' e1 lg1 (by omega) h3 h7 h8
    refine ⟨max n0 n2+1,x,e2,lg2,fun n m hn hm=>?_,h6⟩
    obtain ⟨m,rfl⟩:∃ k,m=k+1:=⟨m-1,by omega⟩
    simp only [exec,he,h1 n m (by omega) (by omega),h5 n m (by omega) (by omega)]
   | ex id =>
    refine ⟨n0+1,_,e1,lg1,fun n m hn hm=>?_,h2⟩
    obtain ⟨m,rfl⟩:∃ k,m=k+1:=⟨m-1,by omega⟩
    simp only [exec,he,h1 n m (by omega) (by omega)]
   | ret =>
    refine ⟨n0+1,_,e1,lg1,fun n m hn hm=>?_,h2⟩
    obtain ⟨m,rfl⟩:∃ k,m=k+1:=⟨m-1,by omega⟩
    simp only [exec,he,h1 n m (by omega) (by omega)]
 exact key (μ s) s e lg (Nat.le_refl _) hi (hE.trans hs) hl
end
end Go.Eng
namespace Go.Eng
open Go
abbrev I (n:Int):PV := .int .i64 n
abbrev zAR (l:List Int):PV := .sl (l.map I)
section
theorem zUb {a b:Bool} (ha:a=true) (hb:b=true):(a&&b)=true:=by rw [ha,hb];rfl
theorem zBi {a b:Nat} (h:a≤b):Nat.ble a b=true:=by rw [Nat.ble_eq];exact h
theorem zBu {a b:Nat} (h:a=b):Nat.beq a b=true:=by rw [h];exact Nat.beq_refl _
theorem zAs {p:Prop} [Decidable p] (h:p):decide p=true:=decide_eq_true h
variable {α:Type} {g:α→PV} {l:List α} {i:Nat} {d:α} {x q root root':PV} {xs:List PV} {r z c n:Nat} {pre rest:zAO}
theorem zBJ (d:α) (h:i<l.length):(l.map g)[i]? = some (g (l.getD i d)):=by simp [List.getD,List.getElem?_eq_getElem h]
theorem zF2 {u:α}:(l.map g).set i (g u)=(l.set i u).map g:=(List.map_set).symm
theorem zLT (hx:xs[i]? = some x) {y:PV} (hn:zAz y rest=some q) (hh:zAZ root=some xs:=by kernel_rfl) (hc:x.cells[c]? = some y:=by kernel_rfl):zAz root ((i,c)::rest)=some q:=by
 simp only [zAz,hh,hx,hc,hn]
def zMA (r:Nat) (pre:zAO) (i c n:Nat) (x:PV):Option (Bool×List PV):=bif Nat.ble (c+n) x.cells.length then some (x.isAgg,zBx r pre i c ((x.cells.drop c).take n)) else none
theorem zDy {a:Bool} {qs:List PV} (hn:zAz root.unlock pre=some q) (hx:xs[i]? = some x) (hr:zMA r pre i c n x=some (a,qs):=by kernel_rfl) (hh:zA6 q=some xs:=by kernel_rfl):zAw r root pre i c n=some (a,qs):=by
 simp only [zAw,hn,hh,hx];exact hr
theorem zPs {qs:List PV} {xs':List PV} (hx:xs[i]? = some x) (hs:xs.set i (zAy x c qs)=xs') (hb:Nat.ble (c+qs.length) x.cells.length=true:=by kernel_rfl) (hw:(zBn qs).isEmpty=true:=by kernel_rfl):zBw (.own z xs) [] i c qs=some (.own z xs')∧zAE (.own z xs) (.own z xs') []=true:=by
 subst hs
 constructor
 ·simp only [zBw,hw,Bool.not_true,Bool.and_false,cond_false,zAv,zA6,hx,hb,cond_true,zAB]
 ·simp [zAE,zCu]
theorem zBU {x m:Nat} (h:Nat.beq m 1=true):0+x*m=x:=by rw [Nat.eq_of_beq_eq_true h,Nat.mul_one,Nat.zero_add]
theorem zBV {a x m:Nat} (h:Nat.beq m 1=true):a+x*m=a+x:=by rw [Nat.eq_of_beq_eq_true h,Nat.mul_one]
def wf (i c:Nat) (qs:List PV) (q:PV):Option PV:=match zA6 q with
 | some xs=>match xs[i]? with
  | some x=>bif Nat.ble (c+qs.length) x.cells.length then zAB q (xs.set i (zAy x c qs)) else none
  | none=>none
 | none=>none
theorem zKb {qs:List PV} {q' y:PV} (hx:xs[i]? = some x) (hs:zAy x c qs=y) (hq:zAB q (xs.set i y)=some q') (hh:zA6 q=some xs:=by kernel_rfl) (hb:Nat.ble (c+qs.length) x.cells.length=true:=by kernel_rfl):zAv (wf i c qs) q []=some q':=by
 subst hs
 simp only [zAv,wf,hh,hx,hb,cond_true,hq]
theorem zPM {qs:List PV} {b:Bool} (h:zAv (wf i c qs) root pre=some root') (hk:zAE root root' pre=b) (hw:(zBn qs).isEmpty=true:=by kernel_rfl):zBw root pre i c qs=some root'∧zAE root root' pre=b:=by
 refine ⟨?_,hk⟩
 simp only [zBw,hw,Bool.not_true,Bool.and_false,cond_false]
 exact h
theorem zBC (l:List α) (h:∀ x,zAP (g x)=g x:=by intro;rfl):zAD (l.map g)=l.map g:=by
 induction l with
 | nil=>rfl
 | cons x l ih=>simp only [List.map_cons,zAD,h,ih]
theorem zHC {ys:List PV} (hy:xs=ys) (h2:zAD ys=ys):zAD xs=ys:=by rw [hy];exact h2
theorem zJG (l:List α) (h:∀ x,(g x).free=true:=by intro;rfl):zEz (l.map g)=true:=by
 induction l with
 | nil=>rfl
 | cons x l ih=>simp only [List.map_cons,zEz,h,ih,Bool.and_self]
theorem zG9 (l:List α) (h:∀ x,(g x).ways=[]:=by intro;rfl):zBn (l.map g)=[]:=by
 induction l with
 | nil=>rfl
 | cons x l ih=>simp only [List.map_cons,zBn,h,ih,List.append_nil]
theorem all_map {p:PV→Bool} (l:List α) (h:∀ x,p (g x)=true:=by intro;rfl):(l.map g).all p=true:=by
 rw [List.all_map];exact List.all_eq_true.2 fun x _=>h x
theorem zD0 (l:List α):List.take l.length (l.map g)=l.map g:=List.take_of_length_le (by simp)
theorem zAW {xs ys:List PV} (h:xs=ys):PV.own z xs=PV.own z ys:=by rw [h]
theorem zO3 {xs ys:List PV} (h:xs=ys):PV.sl xs=PV.sl ys:=by rw [h]
theorem zFr {a x m:Nat} {sh:Option Nat} (h:Nat.beq m 1=true):PV.addr r pre i (a+x*m) sh=PV.addr r pre i (a+x) sh:=by rw [Nat.eq_of_beq_eq_true h,Nat.mul_one]
end
end Go.Eng
namespace Go.Eng
open Go
section
def zUP:Code→Bool
 | .label _=>true
 | _=>false
theorem ap {p:Prop} {ps:List Prop} (h:p) (hs:zTy ps):zTy (p::ps):=⟨h,hs⟩
theorem an:zTy []:=trivial
theorem zDl {a b:Int} (h:a=b) (hr : -9223372036854775808≤b∧b<9223372036854775808):PV.int .i64 (IntKind.i64.wrap a)=PV.int .i64 b:=by rw [h,zWA hr]
variable [Yo] {P:Program} {H:zBc} {f:FuncId} {nt:Nat} {e e':Env} {lg:Option Log} {K:X→Env→Option Log→Prop} {i:Nat} {c:Code} {s:RS} {R:Env→Option Log→Prop}
theorem S_a (as:Ans) {obs:List Prop} (ho:zTy obs) (h:WS P H f c (i+1) (rsX (zVU P H f c i as s)) R) (hq:(zVU P H f c i as s).map (·.2)=some obs:=by kernel_rfl) (hi:Nat.blt i (zFf c).size=true:=by kernel_rfl):WS P H f c i s R:=S_x as obs ho h hq hi
theorem E_a {fn:Func} {nh:Nat} {v:PV} {h:List PV} {x:X} (as:Ans) {obs:List Prop} (ho:zTy obs) (v':PV) (h':List PV) (hv:v'=v) (hh:h'=h) (hf:zNS P H f fn as e nh=some ((v',h'),obs):=by kernel_rfl) (hl:lg=none:=by kernel_rfl) (hx:x = .norm∨x = .ret:=by first | exact .inr rfl | exact .inl rfl):zUq P H f fn nh v h x e lg:=E_x as obs v' h' ho hv hh hf hl hx
theorem zUH {c:Code} (h:K .norm e lg) (hc:zUP c=true:=by kernel_rfl):W P H f nt c e lg K:=by
 cases c<;>first | (cases hc;done) | exact zSr 1 rfl h
end
end Go.Eng
namespace Go.Eng
open Go
section
variable [Yo] {P:Program} {H:zBc} {f:FuncId}
end
end Go.Eng
namespace Go.Eng
open Go
def zNc (pre:zAO) (put:PV→PV):Prop:=∀ f z xs,zAv f (put (.own z xs)) pre=(f (.own z xs)).map put
theorem zNc.nil:zNc [] (fun q=>q):=fun f z xs=>by simp [zAv]
theorem zNc.box:zNc [(0,0)] (fun q => .box q):=fun f z xs=>by
 simp only [zAv,zAZ,List.getElem?_cons_zero,PV.cells]
 cases f (.own z xs)<;>rfl
theorem zGl [Yo] {r z:Nat} {pre:zAO} {put:PV→PV} (L:zNc pre put):∀ {ys:List PV} {j:Nat} {xs:List PV} {e:Env},e.get r=put (.own z xs)→j+ys.length≤xs.length→(∀ (a:Nat) (x y:PV),xs[j+a]? = some x→ys[a]? = some y→y.heavy=false∧y.cells.all (fun q=>q.ways.isEmpty)=true∧y.cells.length≤x.cells.length∧zAy x 0 y.cells=y) →
  ∃ e',e'.get r=put (.own z (xs.take j++ys++xs.drop (j+ys.length)))∧(∀ t,t≠r→e'.get t=e.get t)∧∀ (o:zAC) (k:PM),(zGc r pre j ys k).run o e=k.run o e'
 | [],j,xs,e,he,hj,hy=>⟨e,by simp [he],fun _ _=>rfl,fun _ _=>rfl⟩
 | y :: ys,j,xs,e,he,hj,hy=>by
  simp only [List.length_cons] at hj
  have hjx:j<xs.length:=by omega
  obtain ⟨h1,h2,h3,h4⟩:=hy 0 xs[j] y (by simp [hjx]) rfl
  have hws:zBn y.cells=[]:=zL9 h2
  have hb:Nat.ble (0+y.cells.length) xs[j].cells.length=true:=by rw [Nat.ble_eq];omega
  have yT:(e.set r (put (.own z (xs.set j y)))).get r=put (.own z (xs.set j y)):=by rw [Env.get_set,if_pos rfl]
  obtain ⟨e',g1,g2,g3⟩:=zGl L (ys:=ys) (j:=j+1) yT (by simp;omega) fun a x' y' js uJ=>by
   rw [List.getElem?_set] at js
   rw [if_neg (by omega)] at js
   exact hy (a+1) x' y' (by rw [← js];congr 1;omega) (by simpa using uJ)
  refine ⟨e',?_,fun t ht=>?_,?_⟩
  ·rw [g1,zTL hj]
   simp only [List.length_cons]
  ·rw [g2 t ht,Env.get_set,if_neg ht]
  ·intro o k
   simp only [zGc]
   rw [zE8 (by simpa using zNf h1)]
   simp only [PM.run,he,zBw,hws,List.isEmpty_nil,Bool.not_true,Bool.and_false,cond_false,L _ z xs,zA6,List.getElem?_eq_getElem hjx,hb,cond_true,zAB,h4,Option.map_some]
   exact g3 o k
section
variable [Yo] {P:Program} {H:zBc} {f:FuncId} {i:Nat} {c:Code} {R:Env→Option Log→Prop}
theorem zK2 {pre:zAO} (put':PV→PV) (r s:Nat) (xs ys zs:List PV) {st:RS} (hy:∀ (a:Nat) (x y:PV),xs[a]? = some x→ys[a]? = some y→zWe s x y) (hZ:ys.length≤xs.length) (hz:ys++xs.drop ys.length=zs) (L:zNc pre put')
  (h:WS P H f c (i+1) ⟨none,zLY ((put (zDP c i).dst (.int .i64 ys.length)).run zHl (st.e.set r (put' (.own s zs)))),none⟩ R) (he:st.e.get r=put' (.own s xs):=by kernel_rfl) (ho:zTN P st.e (zDP c i)=some (s,.bor r pre s 0 xs.length,.sl ys):=by kernel_rfl) (hs:Nat.blt 0 s=true:=by kernel_rfl)
  (hq:((put (zDP c i).dst (.int .i64 ys.length)).run zHl (st.e.set r (put' (.own s zs)))).isSome=true:=by kernel_rfl) (jg:st.dr=none:=by kernel_rfl) (vQ:st.lg=none:=by kernel_rfl) (hg:zLc c i st.e=true:=by kernel_rfl) (hi:Nat.blt i (zFf c).size=true:=by kernel_rfl):WS P H f c i st R:=by
 subst hz
 obtain ⟨dr,e,lg⟩:=st
 simp only at jg h he ho hq hg vQ
 subst jg;subst vQ
 have kg:∀ y∈ys,y.plain=true∧y.cells.length=s:=fun y uJ=>by
  obtain ⟨a,ha⟩:=List.getElem?_of_mem uJ
  have yF:=(List.getElem?_eq_some_iff.1 ha).1
  have:=hy a _ y (List.getElem?_eq_getElem (by omega)) ha
  exact ⟨this.1,this.2.1⟩
 obtain ⟨e',g1,g2,g3⟩:=zGl L he (j:=0) (ys:=ys) (by omega) fun a x y hx uJ=>by
  rw [Nat.zero_add] at hx
  obtain ⟨_,_,h3,h4,h5,h6⟩:=hy a x y hx uJ
  exact ⟨h3,h4,h5,h6⟩
 simp only [List.take_zero,List.nil_append,Nat.zero_add] at g1
 have yT:∀ t,e'.get t=(e.set r (put' (.own s (ys++xs.drop ys.length)))).get t:=fun t=>by
  rw [Env.get_set]
  split
  ·rename_i h;subst h;exact g1
  ·rename_i h;exact g2 t h
 have jz:=zHv hq
 obtain ⟨e1,h1,h2⟩:=zFL (funext yT) jz
 refine zWV (s:=⟨none,e,none⟩) (e':=e1) ⟨0,fun n _=>?_⟩ (zUj h fun t=>congrFun h2 t) rfl rfl hg hi
 have yA:=zFE (o:=zCR P H n) h1
 show (opM P H _ _ _ (zDP c i)).run _ e=_
 generalize zDP c i=o at ho yA
 cases hop:o.op<;>simp only [zTN,hop] at ho<;>try (cases ho;done)
 rename_i cc
 split at ho
 ·rename_i x y t ts hc ha hT
  split at ho
  ·rename_i s' yy
   simp only [Option.some.injEq,Prod.mk.injEq] at ho
   obtain ⟨rfl,hx,hyv⟩:=ho
   have hb:Nat.ble ys.length xs.length=true:=by rw [Nat.ble_eq];exact hZ
   have jp:(ys.all fun y=>y.plain&&Nat.beq y.cells.length s')=true:=List.all_eq_true.2 fun y uJ=>by
    obtain ⟨q1,q2⟩:=kg y uJ
    rw [q1,q2,Nat.beq_refl];rfl
   simp only [opM,hop,zI6,hc,ha,hT,zBm,yy,zIb]
   rw [zNe hx (by simp),zNe hyv (by simp)]
   simp only [zGN,Nat.beq_refl,hs,hb,jp,Bool.and_self,cond_true]
   rw [g3];exact yA
  ·cases ho
 ·cases ho
theorem zIh {α β:Type} {g:α→PV} {g':β→PV} {s:Nat} {l:List α} {m:List β} (h:∀ (x:α) (y:β),zWe s (g x) (g' y)):∀ (a:Nat) (x y:PV),(l.map g)[a]? = some x→(m.map g')[a]? = some y→zWe s x y:=by
 intro a x y hx hy
 rw [List.getElem?_map] at hx hy
 obtain ⟨x',_,rfl⟩:=Option.map_eq_some_iff.1 hx
 obtain ⟨y',_,rfl⟩:=Option.map_eq_some_iff.1 hy
 exact h x' y'
theorem zF3 {k:IntKind} {a b:Int}:zWe 1 (.int k a) (.int k b):=⟨rfl,rfl,rfl,rfl,Nat.le_refl _,rfl⟩
theorem zKN {α β:Type} {g:α→PV} {g':β→PV} {l:List α} {m:List β} (h:l.length=m.length):l.map g++(m.map g').drop (l.map g).length=l.map g:=by simp [h]
end
end Go.Eng
namespace Go.Eng
open Go
abbrev zPn (sh:Option Nat) (a:List Int):PV:=match sh with | none=>I (a.getD 0 0) | some _ => .agg (a.map I)
theorem zOJ {l:List Int} {i k:Nat} {sh:Option Nat} (j5:sh=some k∨(sh=none∧k=1)) (h:i+k≤l.length):sub (.agg (l.map I)) i sh=some (zPn sh ((l.drop i).take k)):=by
 rcases j5 with rfl | ⟨rfl,rfl⟩
 ·simp only [sub,List.length_map,h,if_true,zPn,List.map_take,List.map_drop]
 ·have h2:i<l.length:=by omega
  simp only [sub,zPn]
  rw [List.drop_eq_getElem_cons h2]
  simp [h2]
theorem zMw {eq:PV→PV→Option Bool} {sh:Option Nat} {k:Nat} {l m:List Int} (u7:∀ a b:List Int,a.length=k→b.length=k→eq (zPn sh a) (zPn sh b)=some (decide (a=b))) (j5:sh=some k∨(sh=none∧k=1)):∀ n i,(i+n)*k=l.length→(i+n)*k=m.length→zT8 eq sh k (.agg (l.map I)) (.agg (m.map I)) i n=some (decide (l.drop (i*k)=m.drop (i*k)))
 | 0,i,h1,h2=>by
  simp only [zT8]
  rw [List.drop_eq_nil_of_le (by simpa using Nat.le_of_eq h1.symm),List.drop_eq_nil_of_le (by simpa using Nat.le_of_eq h2.symm)];simp
 | n + 1,i,h1,h2=>by
  have e:(i+(n+1))*k=i*k+k+n*k:=by rw [Nat.add_mul,Nat.succ_mul];omega
  have e1:(i+1)*k=i*k+k:=by rw [Nat.succ_mul]
  have hl:i*k+k≤l.length:=by omega
  have hm:i*k+k≤m.length:=by omega
  have ih:=zMw u7 j5 n (i+1) (by rw [← h1];congr 1;omega) (by rw [← h2];congr 1;omega)
  simp only [zT8,zOJ j5 hl,zOJ j5 hm]
  rw [u7 _ _ (by rw [List.length_take,List.length_drop];omega) (by rw [List.length_take,List.length_drop];omega)]
  have d1:l.drop (i*k)=(l.drop (i*k)).take k++l.drop ((i+1)*k):=by rw [e1,← List.drop_drop,List.take_append_drop]
  have d2:m.drop (i*k)=(m.drop (i*k)).take k++m.drop ((i+1)*k):=by rw [e1,← List.drop_drop,List.take_append_drop]
  by_cases hc:(l.drop (i*k)).take k=(m.drop (i*k)).take k
  ·simp only [hc,decide_true,ih]
   congr 1
   rw [d1,d2,hc]
   simp
  ·simp only [hc,decide_false]
   rw [Eq.comm,decide_eq_false]
   intro hx
   exact hc (by rw [hx])
def zOK:Option TypeDesc→Bool
 | some (.array ..)=>true
 | _=>false
def zUS:Option TypeDesc→Bool
 | some (.int .i64)=>true
 | _=>false
theorem zTb {x:Option TypeDesc} (h:zUS x=true):x=some (.int .i64):=by
 unfold zUS at h;split at h
 ·rfl
 ·cases h
theorem zMx {x:Option TypeDesc} (h:zOK x=true):∃ c e,x=some (.array c e):=by
 unfold zOK at h;split at h
 ·exact ⟨_,_,rfl⟩
 ·cases h
def zSx (P:Program):Nat→TypeId→Option Nat
 | 0,_=>none
 | n + 1,t=>match P.underlying t with
  | some (.int k)=>if k = .i64 then some 1 else none
  | some (.array m e)=>match szT P e,shT P e,zSx P n e with
   | some sz,some sh,some k=>if sz=k∧(sh=some k∧zOK (P.underlying e)=true∨sh=none∧k=1∧zUS (P.underlying e)=true) then some (m*k) else none
   | _,_,_=>none
  | _=>none
theorem zUW {P:Program} {n:Nat} {t:TypeId} {a b:Int} (h:P.underlying t=some (.int .i64)):eqT P (n+1) t (I a) (I b)=some (decide (a=b)):=by
 simp only [eqT,h,if_true];rfl
theorem zOa {P:Program}:∀ (n:Nat) (t:TypeId) (k:Nat) (l m:List Int),zSx P n t=some k→(∃ c e,P.underlying t=some (.array c e))→l.length=k→m.length=k→eqT P n t (.agg (l.map I)) (.agg (m.map I))=some (decide (l=m))
 | 0,_,_,_,_,h,_,_,_=>by cases h
 | n + 1, t, k,l,m,h,⟨c,e,hu⟩,hl,hm=>by
  simp only [zSx,hu] at h
  split at h
  ·rename_i sz sh k1 h1 h2 h3
   split at h
   ·rename_i hx
    obtain ⟨rfl,hx⟩:=hx
    cases h
    simp only [eqT,hu,h1,h2]
    have:=zMw (eq:=eqT P n e) (sh:=sh) (k:=sz) (l:=l) (m:=m) (fun a b ha hb=>by
     rcases hx with ⟨rfl,hx⟩ | ⟨rfl,rfl,hx⟩
     ·exact zOa n e sz a b h3 (zMx hx) ha hb
     ·cases n with
      | zero=>cases h3
      | succ n =>
       simp only [zPn,zUW (zTb hx)]
       match a,b,ha,hb with
       | [x],[y],_,_=>simp) (by
     rcases hx with ⟨rfl,_⟩ | ⟨rfl,rfl,_⟩
     ·exact .inl rfl
     ·exact .inr ⟨rfl,rfl⟩) c 0 (by rw [hl];simp) (by rw [hm];simp)
    simpa using this
   ·cases h
  ·cases h
def zJY (P:Program) (t:TypeId) (k:Nat):Bool := !P.eqGuardType P.depth t&&decide (zSx P 20 t=some k)&&zOK (P.underlying t)
theorem zQe {P:Program} {t:TypeId} {k:Nat} {l m:List Int} (h:zJY P t k=true) (hl:l.length=k) (hm:m.length=k):eqT P 20 t (.agg (l.map I)) (.agg (m.map I))=some (decide (l=m)):=by
 unfold zJY at h
 simp only [Bool.and_eq_true,decide_eq_true_eq,Bool.not_eq_true'] at h
 obtain ⟨⟨h1,h2⟩,h3⟩:=h
 exact zOa 20 t k l m h2 (zMx h3) hl hm
theorem zTW {P:Program} {t:TypeId} {k:Nat} {l m:List Int} (h:zJY P t k=true) (hl:l.length=k) (hm:m.length=k):eqV P t (.agg (l.map I)) (.agg (m.map I))=some (decide (l=m)):=by
 have hg:P.eqGuardType P.depth t=false:=by
  unfold zJY at h
  simp only [Bool.and_eq_true,Bool.not_eq_true'] at h
  exact h.1.1
 simp only [eqV,hg,cond_false,zQe h hl hm]
theorem zU8 {P:Program} {t:TypeId} {l m:List Int} (k:Nat) (hl:l.length=k) (hm:m.length=k) (h:zJY P t k=true:=by kernel_rfl):zHM P .eql t (.agg (l.map I)) (.agg (m.map I))=some (.bool (decide (l=m))):=by
 simp only [zHM,zTW h hl hm,Option.map_some]
theorem zSc {P:Program} {t:TypeId} {l m:List Int} (k:Nat) (hl:l.length=k) (hm:m.length=k) (h:zJY P t k=true:=by kernel_rfl):zHM P .neq t (.agg (l.map I)) (.agg (m.map I))=some (.bool (!decide (l=m))):=by
 simp only [zHM,zTW h hl hm,Option.map_some]
theorem zRk {a b c d:Int}:decide ([a,b]=[c,d])=(decide (a=c)&&decide (b=d)):=by simp
theorem zUX {P:Program} {t:TypeId} {a b c d:Int} (h:zJY P t 2=true:=by kernel_rfl):zHM P .neq t (.agg [I a,I b]) (.agg [I c,I d])=some (.bool (!(decide (a=c)&&decide (b=d)))):=by
 rw [← zRk];exact zSc (l:=[a,b]) (m:=[c,d]) 2 rfl rfl h
def zIG (P:Program) (t:TypeId):Bool := !P.eqGuardType P.depth t && !P.stoodInHeld t&&match P.underlying t with
  | some (.struct fs)=>match fs.toList with
    | [f1, f2] => !decide (f1.name = "_") && !decide (f2.name = "_") && decide (shT P f1.type = some none) && decide (shT P f2.type = some none) && decide (f1.offset = 0) && decide (f2.offset = 1) &&
      (match P.underlying f1.type with | some (.int k)=>decide (k = .i64) | _=>false)&&(match P.underlying f2.type with | some .bool=>true | _=>false)
    | _=>false
  | _=>false
theorem zPI {P:Program} {t:TypeId} {a c:Int} {b d:Bool} (h:zIG P t=true):eqV P t (.agg [I a,.bool b]) (.agg [I c,.bool d])=some (decide (a=c)&&decide (b=d)):=by
 unfold zIG at h
 rw [Bool.and_eq_true,Bool.and_eq_true] at h
 obtain ⟨⟨h1,h2⟩,h3⟩:=h
 split at h3
 ·rename_i fs hu
  split at h3
  ·rename_i f1 f2 hl
   simp only [Bool.and_eq_true,decide_eq_true_eq,Bool.not_eq_true',decide_eq_false_iff_not] at h1 h2 h3
   obtain ⟨⟨⟨⟨⟨⟨⟨n1,n2⟩,s1⟩,s2⟩,o1⟩,o2⟩,u1⟩,u2⟩:=h3
   split at u1
   ·rename_i k1' jI
    split at u2
    ·rename_i ud
     simp only [decide_eq_true_eq] at u1
     subst u1
     simp only [eqV,h1,cond_false,eqT,hu,h2,hl,zT0,n1,n2,s1,s2,o1,o2,sub,jI,ud,if_true,if_false,List.getElem?_cons_zero,List.getElem?_cons_succ]
     by_cases e1:a=c
     ·subst e1
      cases b<;>cases d<;>simp
     ·simp [e1]
    ·cases u2
   ·cases u1
  ·cases h3
 ·cases h3
theorem zTH {P:Program} {t:TypeId} {a c:Int} {b d:Bool} (h:zIG P t=true:=by kernel_rfl):zHM P .neq t (.agg [I a,.bool b]) (.agg [I c,.bool d])=some (.bool (!(decide (a=c)&&decide (b=d)))):=by
 simp only [zHM,zPI h,Option.map_some]
theorem zMl {P:Program} {kt:TypeId} {α:Type} {g:α→PV×PV} {kx ky:α→Int} (hk:∀ x,(g x).1 = .agg [I (kx x),I (ky x)]) (u7:∀ a b c d:Int,eqT P 20 kt (.agg [I a,I b]) (.agg [I c,I d])=some (decide (a=c)&&decide (b=d))) (a b:Int):∀ (M:List α) (i:Nat),zC1 P kt (.agg [I a,I b]) (M.map g) i=some ((M.findIdx? fun x=>decide (a=kx x)&&decide (b=ky x)).map (· + i))
 | [],i=>rfl
 | x :: M,i=>by
  have h1:=u7 a b (kx x) (ky x)
  rw [← hk x] at h1
  have h2:zFs (PV.agg [I a,I b]).cells (g x).1.cells=some (a==kx x&&(b==ky x&&true)):=by rw [hk x];rfl
  rw [List.map_cons,List.findIdx?_cons]
  have e:g x=((g x).1,(g x).2):=rfl
  rw [e]
  simp only [zC1,h1,h2]
  cases hc:(decide (a=kx x)&&decide (b=ky x)) with
  | true =>
   simp only [Bool.and_eq_true,decide_eq_true_eq] at hc
   simp [hc.1,hc.2]
  | false =>
   simp only
   rw [zMl hk u7 a b M (i+1)]
   simp only [Bool.false_eq_true,if_false,Option.map_map]
   congr 2
   funext y
   simp only [Function.comp];omega
theorem zQQ {P:Program} {t:TypeId} (h:zJY P t 2=true:=by kernel_rfl) (a b c d:Int):eqT P 20 t (.agg [I a,I b]) (.agg [I c,I d])=some (decide (a=c)&&decide (b=d)):=by
 rw [← zRk];exact zQe (l:=[a,b]) (m:=[c,d]) h rfl rfl
def zXf (F:List Int) (n:Nat):Nat→List PV
 | 0=>[]
 | m+1=>I (F.getD (n-(m+1)) 0)::zXf F n m
abbrev zAS (F:List Int) (m:Nat):List PV:=zXf F m m
theorem zRS {F:List Int} {n:Nat}:∀ (m:Nat),m≤n→zXf F n m=(List.range' (n-m) m).map fun k=>I (F.getD k 0)
 | 0,_=>rfl
 | m+1,h=>by
  rw [zXf,zRS m (by omega),List.range'_succ,List.map_cons,show n-(m+1)+1=n-m by omega]
theorem zNw {F:List Int} {m:Nat}:zAS F m=(List.range m).map fun k=>I (F.getD k 0):=by
 rw [List.range_eq_range',zAS,zRS m (Nat.le_refl m),Nat.sub_self]
theorem zEf {F:List Int} {m:Nat} (h:F.length=m):zAS F m=F.map I:=by
 rw [zNw]
 apply List.ext_getElem?
 intro k
 by_cases hk:k<m
 ·simp [hk,show k<F.length by omega]
 ·rw [List.getElem?_eq_none (by simp;omega),List.getElem?_eq_none (by simp;omega)]
section
variable {A B:List PV} {F:List Int} {m j:Nat} {r i c':Nat} {pre:zAO}
theorem zJk:(zAS F m).length=m:=by rw [zNw];simp
theorem zRB (hj:j<m):(zAS F m)[j]? = some (I (F.getD j 0)):=by rw [zNw];simp [hj]
theorem zUV (hj:j<m):(A++zAS F m++B)[A.length+j]? = some (I (F.getD j 0)):=by
 rw [List.append_assoc,List.getElem?_append_right (by omega),Nat.add_sub_cancel_left,List.getElem?_append_left (by rw [zJk];exact hj)]
 exact zRB hj
theorem zWP (hj:j<m):zCd (.ref (.agg (zAS F m))) j none=some (.ref (I (F.getD j 0))):=by
 have h1:(I (F.getD j 0)).oneCell=true:=rfl
 simp only [zCd,zOU,sub,zRB hj,Option.isSome,Bool.false_or,h1,cond_true]
theorem zGw {n:Nat} (hj:j<m) (hn:Nat.beq n 1=true:=by kernel_rfl):zCd (.ref (.agg (zAS F m))) (j*n) none=some (.ref (I (F.getD j 0))):=by
 rw [Nat.eq_of_beq_eq_true hn,Nat.mul_one];exact zWP hj
theorem zKm (hc:c'=A.length+j) (hj:j<m):zMA r pre i c' 1 (.agg (A++zAS F m++B))=some (true,[I (F.getD j 0)]):=by
 subst hc
 have hZ:A.length+j<(A++zAS F m++B).length:=by rw [List.length_append,List.length_append,zJk];omega
 have hb:Nat.ble (A.length+j+1) (PV.agg (A++zAS F m++B)).cells.length=true:=by rw [Nat.ble_eq];exact hZ
 have h2:((A++zAS F m++B).drop (A.length+j)).take 1=[I (F.getD j 0)]:=by
  rw [List.drop_eq_getElem_cons hZ]
  have:=zUV (A:=A) (B:=B) (F:=F) hj
  rw [List.getElem?_eq_getElem hZ] at this
  simp only [Option.some.injEq] at this
  rw [this];simp
 simp only [zMA,hb,cond_true,PV.isAgg]
 show some (true,zBx r pre i (A.length+j) (((A++zAS F m++B).drop (A.length+j)).take 1))=_
 rw [h2];rfl
theorem zUr {u:Int} (hj:j<m) (hF:F.length=m):(zAS F m).set j (I u)=zAS (F.set j u) m:=by
 rw [zEf hF,zEf (F:=F.set j u) (by simpa using hF),List.map_set]
theorem zN4 {u:Int} (hc:c'=A.length+j) (hj:j<m) (hF:F.length=m):zAy (.agg (A++zAS F m++B)) c' [I u] = .agg (A++zAS (F.set j u) m++B):=by
 subst hc
 have hZ:A.length+j<(A++zAS F m++B).length:=by rw [List.length_append,List.length_append,zJk];omega
 have e:(A++zAS F m++B).take (A.length+j)++[I u]++(A++zAS F m++B).drop (A.length+j+1)=(A++zAS F m++B).set (A.length+j) (I u):=by
  rw [List.set_eq_take_append_cons_drop,if_pos hZ];simp
 simp only [zAy,List.length_singleton,e]
 rw [List.append_assoc,List.set_append_right _ _ (by omega),Nat.add_sub_cancel_left,List.set_append_left _ _ (by rw [zJk];exact hj),zUr hj hF,List.append_assoc]
theorem zOd (hc:c'=A.length+j) (hj:j<m) {q:PV}:Nat.ble (c' + [q].length) (PV.agg (A++zAS F m++B)).cells.length=true:=by
 subst hc;rw [Nat.ble_eq];show _≤(A++zAS F m++B).length;rw [List.length_append,List.length_append,zJk];simp;omega
theorem zVL (hj:j<m):sub (.agg (zAS F m)) j none=some (I (F.getD j 0)):=by
 simp only [sub,zRB hj]
theorem zE1 (hc:c'=j) (hj:j<m):zMA r pre i c' 1 (.agg (zAS F m))=some (true,[I (F.getD j 0)]):=by
 have:=zKm (A:=[]) (B:=[]) (F:=F) (r:=r) (pre:=pre) (i:=i) (c':=c') (by simpa using hc) hj
 simpa using this
theorem zNJ {u:Int} (hc:c'=j) (hj:j<m) (hF:F.length=m):zAy (.agg (zAS F m)) c' [I u] = .agg (zAS (F.set j u) m):=by
 have:=zN4 (A:=[]) (B:=[]) (F:=F) (u:=u) (c':=c') (by simpa using hc) hj hF
 simpa using this
theorem zNQ (hc:c'=j) (hj:j<m) {q:PV}:Nat.ble (c' + [q].length) (PV.agg (zAS F m)).cells.length=true:=by
 have:=zOd (A:=[]) (B:=[]) (F:=F) (q:=q) (c':=c') (by simpa using hc) hj
 simpa using this
theorem zTJ {n:Nat} (hj:j<m) (hn:Nat.beq n 1=true:=by kernel_rfl):sub (.agg (zAS F m)) (j*n) none=some (I (F.getD j 0)):=by
 rw [Nat.eq_of_beq_eq_true hn,Nat.mul_one];exact zVL hj
end
section
variable {l:List Int} {r i c c' k:Nat} {pre:zAO}
theorem zJM:∀ (l:List Int) (c:Nat),zBx r pre i c (l.map I)=l.map I
 | [],_=>rfl
 | x::l,c=>by simp only [List.map_cons,zBx,zJM l (c+1)];rfl
theorem zWx (hc:c'=c) (h:c+k≤l.length):zMA r pre i c' k (.agg (l.map I))=some (true,((l.drop c).take k).map I):=by
 subst hc
 have hb:Nat.ble (c'+k) (PV.agg (l.map I)).cells.length=true:=by rw [Nat.ble_eq];simpa [PV.cells] using h
 simp only [zMA,hb,cond_true,PV.isAgg]
 show some (true,zBx r pre i c' (((l.map I).drop c').take k))=_
 rw [← List.map_drop,← List.map_take,zJM]
theorem zU5 {K:Nat} (hc:c'=c) (h:c+K≤l.length) (hk:Nat.beq k K=true):zMA r pre i c' k (.agg (l.map I))=some (true,((l.drop c).take K).map I):=by rw [Nat.eq_of_beq_eq_true hk];exact zWx hc h
theorem zU9 {K m:Nat} (hl:l.length=m) (hc:c'=c) (h:c+K≤m) (hk:Nat.beq k K=true):zMA r pre i c' k (.agg (zAS l m))=some (true,zAS ((l.drop c).take K) K):=by
 rw [zEf hl,zU5 (K:=K) hc (by omega) hk,zEf (F:=(l.drop c).take K) (by rw [List.length_take,List.length_drop];omega)]
theorem zU4 {P:Program} {t:TypeId} {l m:List Int} (k:Nat) (hl:l.length=k) (hm:m.length=k) (h:zJY P t k=true:=by kernel_rfl):zHM P .eql t (.agg (zAS l k)) (.agg (zAS m k))=some (.bool (decide (l=m))):=by
 rw [zEf hl,zEf hm];exact zU8 k hl hm h
theorem zQp {P:Program} {t:TypeId} {l m:List Int} (k:Nat) (hl:l.length=k) (hm:m.length=k) (h:zJY P t k=true:=by kernel_rfl):zHM P .neq t (.agg (zAS l k)) (.agg (zAS m k))=some (.bool (!decide (l=m))):=by
 rw [zEf hl,zEf hm];exact zSc k hl hm h
end
end Go.Eng
namespace Go.Eng
open Go
theorem zDF {a b m k M:Nat} (h:Nat.beq m M=true) (h2:Nat.beq k 1=true):a*m+b*k=a*M+b:=by rw [Nat.eq_of_beq_eq_true h,Nat.eq_of_beq_eq_true h2,Nat.mul_one]
theorem zDz {a m M:Nat} (h:Nat.beq m M=true):a*m=a*M:=by rw [Nat.eq_of_beq_eq_true h]
theorem zDO {a b m k M:Nat} (h:Nat.beq m M=true) (h2:Nat.beq k 1=true):0+a*m+b*k=a*M+b:=by rw [Nat.zero_add];exact zDF h h2
theorem zDJ {a m M:Nat} (h:Nat.beq m M=true):0+a*m=a*M:=by rw [Nat.zero_add];exact zDz h
theorem zCI {α:Type} {g:α→PV} {l:List α} {u:α} {y:PV} (h:g u=y):l.map g++[y]=(l++[u]).map g:=by rw [← h,List.map_append];rfl
def zUn (P:Program) (e:Env) (o:Oper):Option (Nat×PV×PV) :=
 match o.op,o.dst with
 | .call c,none=>match c.callee,c.args.toList,c.argTypes.toList with
  | .builtin .clear,[x],t::_=>match (zBM P t).bind (zCx P),(zBM P t).bind (szT P) with
   | some q,some s=>some (s,q,zXg e x)
   | _,_=>none
  | _,_,_=>none
 | _,_=>none
section
variable [Yo] {P:Program} {H:zBc} {f:FuncId} {i:Nat} {c:Code} {R:Env→Option Log→Prop}
theorem zRt {α:Type} {g:α→PV} {pre:zAO} (put':PV→PV) (r s lo n:Nat) (l:List α) (u:α) {st:RS} (kh:lo+n≤l.length) (hu:(g u).plain=true∧(g u).cells.length=s) (hy:∀ x,zWe s (g x) (g u)) (L:zNc pre put')
  (h:WS P H f c (i+1) ⟨none,st.e.set r (put' (.own s ((l.take lo++List.replicate n u++l.drop (lo+n)).map g))),none⟩ R) (he:st.e.get r=put' (.own s (l.map g)):=by kernel_rfl) (ho:zUn P st.e (zDP c i)=some (s,g u,.bor r pre s lo n):=by kernel_rfl) (hs:Nat.blt 0 s=true:=by kernel_rfl)
  (jg:st.dr=none:=by kernel_rfl) (vQ:st.lg=none:=by kernel_rfl) (hg:zLc c i st.e=true:=by kernel_rfl) (hi:Nat.blt i (zFf c).size=true:=by kernel_rfl):WS P H f c i st R:=by
 obtain ⟨dr,e,lg⟩:=st
 simp only at jg h he ho hg vQ
 subst jg;subst vQ
 obtain ⟨e',g1,g2,g3⟩:=zGl L he (j:=lo) (ys:=List.replicate n (g u)) (by simpa using kh) fun a x y hx uJ=>by
  rw [List.getElem?_map] at hx
  obtain ⟨x',_,rfl⟩:=Option.map_eq_some_iff.1 hx
  obtain ⟨hn,hy2⟩:=List.getElem?_eq_some_iff.1 uJ
  rw [List.getElem_replicate] at hy2
  subst hy2
  obtain ⟨_,_,h3,h4,h5,h6⟩:=hy x'
  exact ⟨h3,h4,h5,h6⟩
 have yT:∀ t,e'.get t=(e.set r (put' (.own s ((l.take lo++List.replicate n u++l.drop (lo+n)).map g)))).get t:=fun t=>by
  rw [Env.get_set]
  split
  ·rename_i h;subst h;rw [g1];simp
  ·rename_i h;exact g2 t h
 refine zWV (s:=⟨none,e,none⟩) (e':=e') ⟨0,fun m _=>?_⟩ (zUj h fun t=>yT t) rfl rfl hg hi
 show (opM P H _ _ _ (zDP c i)).run _ e=_
 generalize zDP c i=o at ho
 cases hop:o.op<;>simp only [zUn,hop] at ho<;>try (cases ho;done)
 rename_i cc
 cases kC:o.dst<;>rw [kC] at ho<;>simp only at ho<;>try (cases ho;done)
 split at ho
 ·rename_i x t ts hc ha hT
  split at ho
  ·rename_i q s' hq yy
   simp only [Option.some.injEq,Prod.mk.injEq] at ho
   obtain ⟨rfl,rfl,hx⟩:=ho
   simp only [opM,hop,zI6,hc,ha,hT,zBm,kC]
   rw [zNe hx (by simp)]
   simp only [zQm,hs,Nat.beq_refl,hu.1,hu.2,Bool.and_self,cond_true,hq,yy]
   rw [g3];rfl
  ·cases ho
 ·cases ho
end
end Go.Eng
namespace Go.Eng
open Go
section
variable [Yo] {P:Program} {H:zBc} {f:FuncId} {nt:Nat} {c:Code} {e:Env} {lg:Option Log} {K:X→Env→Option Log→Prop}
end
end Go.Eng
namespace Go.Eng
open Go
theorem zOj [Yo] {P:Program} {H:zBc} {f:FuncId} {nt:Nat} {e:Env} {lg:Option Log} {K:X→Env→Option Log→Prop} {σ:Type} {c:Code} {t g:Nat} {first caps:List PV} {xs:List (List PV)} (hY:zFY g first caps xs) (Inv:Nat→σ→Prop) (upd:σ→List (Nat×PV)) (s:σ) (hi:Inv 0 s)
  (h:∀ j x s,xs[j]? = some x→Inv j s→zLx P H f nt (zWJ c) (rgA c) (rgB c) x (zM4 (upd s) e) fun y e3=>match y with
   | .norm=>∃ s',Inv (j+1) s'∧after nt [] (zVS c) (zM4 (upd s) e) e3=zM4 (upd s') e
   | y=>K y (after nt [] (zVS c) (zM4 (upd s) e) e3) none) (hK:∀ s,Inv xs.length s→K .norm (zM4 (upd s) e) none) (hs:e=zM4 (upd s) e:=by kernel_rfl) (yN:zDC e t=some (g,first,caps,[]):=by kernel_rfl) (hc:rgT c=some t:=by kernel_rfl) (hl:lg=none:=by kernel_rfl):W P H f nt c e lg K :=
 zVJ (t:=t) hY Inv (fun s=>zM4 (upd s) e) s hi h hK hs yN hc hl
end Go.Eng
namespace Go.Eng
open Go
theorem zNc.field (A B:List PV):zNc [(0,A.length)] (fun q => .box (.agg (A++q::B))):=fun f z xs=>by
 have h1:(A++PV.own z xs::B)[A.length]? = some (.own z xs):=by simp
 simp only [zAv,zAZ,List.getElem?_cons_zero,PV.cells,h1]
 cases f (.own z xs) with
 | none=>rfl
 | some q=>simp [zAB,zAy]
end Go.Eng
namespace Go.Eng
open Go
theorem zFi (l:List Int):zAD (l.map I)=l.map I:=zBC l
theorem zHX (k:IntKind) (l:List Int):zAD (l.map (PV.int k))=l.map (PV.int k):=zBC l
theorem zET (l:List Bool):zAD (l.map PV.bool)=l.map PV.bool:=zBC l
theorem zCl {α:Type} {g g':α→PV} (l:List α) (h:∀ x,zAP (g x)=g' x:=by intro x;simp only [zAP,zAD,zFi,zET,zHX]):zAD (l.map g)=l.map g':=by
 induction l with
 | nil=>rfl
 | cons x l ih=>simp only [List.map_cons,zAD,h,ih]
theorem zCT {xs ys:List PV} (h:zAD xs=ys):zAD ((xs.drop 0).take xs.length)=ys:=by rw [List.drop_zero,List.take_length];exact h
theorem zUZ {r z:Nat} {xs ys:List PV} (h:zAD xs=ys):PV.mapW (inl r [] (.own z xs)) (.bor r [] z 0 xs.length) = .sl ys:=by
 have e:zAH r [] r []=true:=by simp [zAH]
 have e2:Nat.ble (0+xs.length) xs.length=true:=by simp
 simp only [PV.mapW,inl,e,cond_true]
 show zGj (zAz (.own z xs) []) (zCp 0 xs.length)=_
 simp only [zAz,zGj,zCp,e2,cond_true]
 rw [zCT h]
def zRu (P:Program) (t:TypeId) (k1 k2:IntKind):Bool := !P.eqGuardType P.depth t && !P.stoodInHeld t&&match P.underlying t with
  | some (.struct fs)=>match fs.toList with
    | [f1, f2] => !decide (f1.name = "_") && !decide (f2.name = "_") && decide (shT P f1.type = some none) && decide (shT P f2.type = some none) && decide (f1.offset = 0) && decide (f2.offset = 1) &&
      (match P.underlying f1.type with | some (.int k)=>decide (k=k1) | _=>false)&&(match P.underlying f2.type with | some (.int k)=>decide (k=k2) | _=>false)
    | _=>false
  | _=>false
theorem zVz {P:Program} {t:TypeId} {k1 k2:IntKind} {a b c d:Int} (h:zRu P t k1 k2=true):eqV P t (.agg [.int k1 a,.int k2 b]) (.agg [.int k1 c,.int k2 d])=some (decide (a=c)&&decide (b=d)):=by
 unfold zRu at h
 rw [Bool.and_eq_true,Bool.and_eq_true] at h
 obtain ⟨⟨h1,h2⟩,h3⟩:=h
 split at h3
 ·rename_i fs hu
  split at h3
  ·rename_i f1 f2 hl
   simp only [Bool.and_eq_true,decide_eq_true_eq,Bool.not_eq_true',decide_eq_false_iff_not] at h1 h2 h3
   obtain ⟨⟨⟨⟨⟨⟨⟨n1,n2⟩,s1⟩,s2⟩,o1⟩,o2⟩,u1⟩,u2⟩:=h3
   split at u1
   ·rename_i k1' jI
    split at u2
    ·rename_i k2' ud
     simp only [decide_eq_true_eq] at u1 u2
     subst u1;subst u2
     simp only [eqV,h1,cond_false,eqT,hu,h2,hl,zT0,n1,n2,s1,s2,o1,o2,sub,jI,ud,if_true,if_false,List.getElem?_cons_zero,List.getElem?_cons_succ]
     by_cases e1:a=c
     ·subst e1
      by_cases e2:b=d
      ·subst e2;simp
      ·simp [e2]
     ·simp [e1]
    ·cases u2
   ·cases u1
  ·cases h3
 ·cases h3
theorem zQ6 {P:Program} {t:TypeId} {k1 k2:IntKind} {a b c d:Int} (h:zRu P t k1 k2=true:=by kernel_rfl):zHM P .neq t (.agg [.int k1 a,.int k2 b]) (.agg [.int k1 c,.int k2 d])=some (.bool (!(decide (a=c)&&decide (b=d)))):=by
 simp only [zHM,zVz h,Option.map_some]
section
variable {α:Type} {g:α→PV} {l:List α} {i z:Nat} {b:PV}
end
def zIl (P:Program) (t:TypeId):Bool:=match P.underlying t with | some (.slice _)=>true | _=>false
theorem zUR {P:Program} {t:TypeId} {p:PV} {z:Nat} (he:zE2 p=true) (hp:(match p with | .nils _=>false | .agg _=>false | _=>true)=true:=by rfl) (h:zIl P t=true:=by kernel_rfl):eqV P t p (.nils z)=some false:=by
 unfold zIl at h
 split at h
 ·rename_i e hu
  unfold eqV
  rw [hu]
  cases p<;>first | (cases hp;done) | simp only [he,cond_true]
 ·cases h
theorem zTp {P:Program} {t:TypeId} {p:PV} {z:Nat} (he:zE2 p=true) (hp:(match p with | .nils _=>false | .agg _=>false | _=>true)=true:=by rfl) (h:zIl P t=true:=by kernel_rfl):(eqV P t p (.nils z)).map PV.bool=some (.bool false):=by rw [zUR he hp h];rfl
theorem zAQ {xs:List PV}:List.take xs.length (List.drop 0 xs)=xs:=by rw [List.drop_zero,List.take_length]
section
variable [Yo] {P:Program} {H:zBc} {f:FuncId} {e:Env} {lg:Option Log}
end
theorem zSC {α:Type} {g:α→PV} {l:List α} (h:0<l.length):zE2 (.sl (l.map g))=true:=by
 cases l with
 | nil=>exact absurd h (Nat.lt_irrefl _)
 | cons x l=>rfl
theorem zNk {P:Program} {t:TypeId} {z:Nat} {α:Type} {g:α→PV} {l:List α} (hp:0<l.length) (h:zIl P t=true:=by kernel_rfl):zHM P .eql t (.sl (l.map g)) (.nils z)=some (.bool false):=by
 have:=zTp (P:=P) (t:=t) (z:=z) (zSC (g:=g) hp) rfl h
 simpa [zHM] using this
class FrzOf {α:Type} (g:α→PV) (g':outParam (α→PV)):Prop where
 frz:∀ x,zAP (g x)=g' x
theorem zCW {α:Type} {g g':α→PV} [h:FrzOf g g'] (l:List α):zAD (l.map g)=l.map g':=zCl l h.frz
section
variable {α:Type} {g:α→PV} {l:List α} {i z:Nat} {b:PV} {u0:α}
end
end Go.Eng
namespace Go.Eng
open Go
theorem blz (l:List PV):(0+l.length).ble l.length=true:=by rw [Nat.zero_add];exact Nat.ble_self_eq_true _
theorem frT {α:Type} (g:α→PV) (l:List α) (h:∀ x,zAP (g x)=g x:=by intro x;simp only [zAP,zAD,zFi,zET,zHX]):PV.sl (zAD (List.take (List.map g l).length (List.drop 0 (List.map g l))))=PV.sl (List.map g l):=zO3 (zCT (zCl l h))
theorem frC {α:Type} (g g':α→PV) [FrzOf g g'] (l:List α):PV.sl (zAD (List.take (List.map g l).length (List.drop 0 (List.map g l))))=PV.sl (List.map g' l):=zO3 (zCT (zCW l))
theorem lnS {α:Type} (g:α→PV) (l:List α):some (List.map g l).length=some l.length:=by rw [List.length_map]
theorem wrN (i:Nat) (h:(i:Int)+1<9223372036854775808:=by omega):PV.int IntKind.i64 (IntKind.i64.wrap ((i:Int)+1))=PV.int IntKind.i64 ((i+1:Nat):Int):=zDl (by omega) (by omega)
theorem zAc [Yo] {P:Program} {H:zBc} {f:FuncId} {nt:Nat} {e:Env} {lg:Option Log} {K:X→Env→Option Log→Prop} {c:Code} (m:Nat) (h:WS P H f (cl c) (0+m) (zVT (zHV P H f (cl c) m 0 {dr:=bif zQN (cl c) then some ([],[]) else none,e:=e,lg:=lg})) (zX6 P H f nt (cr c) K .norm)) (h1:zVw c=true:=by kernel_rfl) (h2:zU2 (cl c)=true:=by kernel_rfl) (h3:(zHV P H f (cl c) m 0 {dr:=bif zQN (cl c) then some ([],[]) else none,e:=e,lg:=lg}).isSome=true:=by kernel_rfl) (h4:(0+m).ble (zFf (cl c)).size=true:=by kernel_rfl):W P H f nt c e lg K:=zAh (zAf (zAd m h h3 h4) h2) h1
abbrev zs (F:List Int) (i k:Nat):PV:=PV.int IntKind.i64 ((F.set i (i:Int)).getD k 0)
abbrev z8 (i:Nat):PV:=PV.int IntKind.i64 ((List.replicate 8 (0:Int)).getD i 0)
end Go.Eng
