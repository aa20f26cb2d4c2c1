/- For whatever news, cries, yT, notice and list, the law NewsPaths returns true and changes no argument: the path that is returned is one, ends at the yT and has as few jC as can be, and whether a list is a path is told as the reference tells it. -/
import Derived.Test.YtppbomajegnkeaaGreatPc
import Derived.Test.YtppbomajegnkeaaGreatPa
import Derived.KernelRfl
import Derived.IntWalk
set_option linter.unusedVariables false
set_option linter.unusedSimpArgs false
set_option linter.unusedSectionVars false
namespace Go.Eng
open Go
section
variable {P:Program} {H:zBf} {w0 w:World} {U Φ0 Φ:Nat→Prop} {nt:Nat} {hv:Hid} {a:Act} {e e':Env} {rv:Nat→Value} {E:Nat→PV} {L:Nat→List Nat} {o:zAD}
theorem zVo (S:St w0 U Φ0 nt hv a w e Φ rv E L) {g:Nat} (hg:zAb≤g) {k:PV→PM} {k2:PM} (h:(zQB (E g) k k2).run o e=some e') :
  k2.run o e=some e'∨∃ e1 rv1 E1,(k (E1 g)).run o e1=some e'∧Worked w0 U Φ0 nt hv a w rv E g e1 rv1 E1:=by
 have hO:=S.conf.rep g
 have fin:∀ {r:Nat} {pre:zAS} {q root p':PV} (hr:r<zAb) (yE:(E r).unlock=E r) (hq:zAy (E r) pre=some q) (h1:q.oneCell=true) (hm:zAu (fun _=>some .bad) (E r) pre=some root),
   (E g).oneCell=true→p'.oneCell=true→(∀ nv Li,zAR w (rv r) (E r) pre=some (nv,q)→Rep w Φ (zA0 w rv E) q nv Li→Li.Nodup→∃ Lg,Rep w Φ (zA0 w rv E) p' (rv g) Lg∧Lg.Nodup∧∀ b∈Lg,b∈Li) →
   (k p').run o (e.set r root)=some e'→∃ e1 rv1 E1,(k (E1 g)).run o e1=some e'∧Worked w0 U Φ0 nt hv a w rv E g e1 rv1 E1:=by
  intro r pre q root p' hr yE hq h1 hm uX ji y8 hk
  obtain ⟨kk1,kk2⟩:=zBE (q' := .bad) rfl rfl hm
  obtain ⟨nv,Li,g1,g2,g3,g4,g5⟩:=S.taken hg hr yE hq h1 hm kk1 kk2
  obtain ⟨Lg,p1,p2,p3⟩:=y8 nv Li g1 g2 g3
  obtain ⟨L',S1,vi⟩:=g5 p' (rv g) Lg p1 p2 (fun b hb => .inl (p3 b hb))
  have jL:∀ s,upd rv g (rv g) s=rv s:=fun s=>by
   by_cases hs:s=g
   ·subst hs;rw [zAl]
   ·rw [zAh hs]
  refine ⟨_,_,_,by rw [zAl];exact hk,⟨⟨_,_,S1⟩,jL g,fun s _=>jL s,fun s hs hI=>⟨by rw [zAh hI,zAh (by omega)],jL s⟩,?_,?_⟩⟩
  ·rw [zAl,(zBg ji).2,(zBg uX).2]
  ·rw [zAl,(zBg ji).1,(zBg uX).1];rfl
 generalize hE:E g=p at h
 rw [hE] at hO
 simp only [zQB] at h
 split at h
 ·rename_i r pre z lo n
  obtain ⟨q,hq,h1⟩:=zBC h
  obtain ⟨_,hr,⟨b,cap,yD,_⟩,hn⟩:=hO
  split at h1
  ·rename_i sz xs
   cases hc:Nat.ble (lo+n) xs.length with
   | false=>rw [hc] at h1;exact .inl h1
   | true =>
    rw [hc] at h1;simp only [cond_true] at h1
    obtain ⟨root,hl,hm,h2⟩:=zBT h1
    have yE:=zBu hl
    rw [yE,← S.env r hr] at hq
    rw [← S.env r hr] at yE hm
    refine .inr (fin hr yE hq rfl hm (by rw [hE];rfl) rfl (fun nv Li hf uZ yX=>?_) h2)
    obtain ⟨s2,xs2,q1,q2,q3⟩:=hn nv _ (by rw [yE];exact hf) rfl
    cases q1;subst q2
    obtain ⟨Lg,p1,p2,p3⟩:=zIi uZ (Nat.le_of_ble_eq_true hc) q3
    exact ⟨Lg,p1,p3 yX,p2⟩
  ·exact .inl h1
 ·rename_i r pre sh
  obtain ⟨q,hq,h1⟩:=zBC h
  obtain ⟨_,hr,b,yD,y1,hn⟩:=hO
  split at h1
  ·rename_i q
   obtain ⟨root,hl,hm,h2⟩:=zBT h1
   have yE:=zBu hl
   rw [yE,← S.env r hr] at hq
   rw [← S.env r hr] at yE hm
   refine .inr (fin hr yE hq rfl hm (by rw [hE];rfl) rfl (fun nv Li hf uZ yX=>?_) h2)
   refine ⟨Li,?_,yX,fun b hb=>hb⟩
   have hrp':=uZ
   obtain ⟨x,c,u,L',h3,h4,h5,_⟩:=hrp'
   have h6:nv=rv g:=by
    rw [yD,h4]
    have:=hn nv _ (by rw [yE];exact hf) x (by rw [h4];cases x;simp_all [zA2,zAr])
    rw [this]
   rw [← h6];exact uZ
  ·exact .inl h1
 ·rename_i r pre
  obtain ⟨q,hq,h1⟩:=zBC h
  obtain ⟨_,hr,⟨b,yD⟩,hn⟩:=hO
  split at h1
  ·rename_i es
   obtain ⟨root,hl,hm,h2⟩:=zBT h1
   have yE:=zBu hl
   rw [yE,← S.env r hr] at hq
   rw [← S.env r hr] at yE hm
   refine .inr (fin hr yE hq rfl hm (by rw [hE];rfl) rfl (fun nv Li hf uZ yX=>⟨Li,?_,yX,fun b hb=>hb⟩) h2)
   rw [hn nv _ (by rw [yE];exact hf) _ rfl];exact uZ
  ·exact .inl h1
 ·exact .inl h
theorem zLZ (S:St w0 U Φ0 nt hv a w e Φ rv E L) {g:Nat} (hg:zAb≤g) {frz:Bool} {k:PV→PM} (h:(zFP frz (E g) k).run o e=some e'):∃ e1 rv1 E1,(k (E1 g)).run o e1=some e'∧Worked w0 U Φ0 nt hv a w rv E g e1 rv1 E1:=by
 have iced:(zLB zAn zDC (E g) k).run o e=some e'→∃ e1 rv1 E1,(k (E1 g)).run o e1=some e'∧Worked w0 U Φ0 nt hv a w rv E g e1 rv1 E1:=by
  intro h
  obtain ⟨e1,Φ1,E1,L1,h1,S1,h2,h3,h4,h5,h6,h7⟩:=zJw (hb:=zAn) hg (by decide) zDC S h
  exact ⟨e1,rv,E1,h1,⟨⟨_,_,S1⟩,rfl,fun _ _=>rfl,fun s hs hI=>⟨h3 s hs hI,rfl⟩,h6,h7⟩⟩
 simp only [zFP] at h
 cases hc:(frz||(E g).ways.any fun w=>Nat.ble zAn w.1) with
 | true=>rw [hc] at h;exact iced h
 | false =>
  rw [hc] at h;simp only [cond_false] at h
  rcases zVo S hg h with h | h
  ·exact iced h
  ·exact h
theorem zKj {frz:Bool}:∀ (ps:List PV) (i:Nat) {k:List PV→PM} {e:Env} {Φ:Nat→Prop} {rv:Nat→Value} {E:Nat→PV} {L:Nat→List Nat},St w0 U Φ0 nt hv a w e Φ rv E L→(∀ (j:Nat) (p:PV),ps[j]? = some p→E (zAb+i+j)=p)→(zCr frz ps k).run o e=some e' →
  ∃ e1 Φ1 rv1 E1 L1 qs,(k qs).run o e1=some e'∧St w0 U Φ0 nt hv a w e1 Φ1 rv1 E1 L1∧qs.length=ps.length∧(∀ (j:Nat) (q:PV),qs[j]? = some q→E1 (zAb+i+j)=q∧rv1 (zAb+i+j)=rv (zAb+i+j)) ∧
   (∀ s,s<zAb→rv1 s=rv s)∧∀ s,zAb≤s→(s<zAb+i∨zAb+i+ps.length≤s)→E1 s=E s∧rv1 s=rv s
 | [],i,k,e,Φ,rv,E,L,S,hp,h=>⟨e,Φ,rv,E,L,[],h,S,rfl,by simp,fun _ _=>rfl,fun _ _ _=>⟨rfl,rfl⟩⟩
 | p :: ps,i,k,e,Φ,rv,E,L,S,hp,h=>by
  simp only [zCr] at h
  have hE:=hp 0 p rfl
  simp only [Nat.add_zero] at hE
  rw [← hE] at h
  obtain ⟨e1,rv1,E1,h1,W⟩:=zLZ S (g:=zAb+i) (by omega) h
  obtain ⟨Φ1,L1,S1⟩:=W.st
  obtain ⟨e2,Φ2,rv2,E2,L2,qs,h2,S2,h3,h4,h5,h6⟩:=zKj ps (i+1) S1 (fun j q hq=>by
   rw [(W.rest _ (by omega) (by omega)).1,show zAb+(i+1)+j=zAb+i+(j+1) by omega];exact hp (j+1) q (by simpa using hq)) h1
  refine ⟨e2,Φ2,rv2,E2,L2,E1 (zAb+i)::qs,h2,S2,by simp [h3],fun j q hq=>?_,fun s hs=>(h5 s hs).trans (W.low s hs),fun s hs js=>?_⟩
  ·cases j with
   | zero =>
    simp at hq;subst hq
    obtain ⟨k1,k2⟩:=h6 (zAb+i) (by omega) (.inl (by omega))
    simp only [Nat.add_zero]
    exact ⟨k1,k2.trans W.val⟩
   | succ j =>
    obtain ⟨k1,k2⟩:=h4 j q (by simpa using hq)
    rw [show zAb+(i+1)+j=zAb+i+(j+1) by omega] at k1 k2
    exact ⟨k1,k2.trans (W.rest _ (by omega) (by omega)).2⟩
  ·obtain ⟨k1,k2⟩:=h6 s hs (by simp at js;omega)
   obtain ⟨k3,k4⟩:=W.rest s hs (by simp at js;omega)
   exact ⟨k1.trans k3,k2.trans k4⟩
theorem zKn (C:Conf w0 U Φ0 w Φ rv E L):∀ (qs:List PV) (vs:List Value) (i:Nat),vs.length=qs.length→(∀ (j:Nat) (q:PV) (v:Value),qs[j]? = some q→vs[j]? = some v→E (i+j)=q∧rv (i+j)=v) →
  ∃ Lp,zAX w Φ (zA0 w rv E) qs vs Lp∧Lp.Nodup∧∀ b∈Lp,∃ t,i≤t∧t<i+qs.length∧b∈L t
 | [],vs,i,hl,h=>by
  have:vs=[]:=List.eq_nil_of_length_eq_zero (by simpa using hl)
  subst this;exact ⟨[],⟨rfl,rfl⟩,List.nodup_nil,by simp⟩
 | q :: qs,vs,i,hl,h=>by
  match vs,hl,h with
  | v :: vs,hl,h =>
   obtain ⟨h1,h2⟩:=h 0 q v rfl rfl
   simp only [Nat.add_zero] at h1 h2
   obtain ⟨Lp,k1,k2,k3⟩:=zKn C qs vs (i+1) (by simpa using hl) fun j q' v' hq hv=>by
    rw [show i+1+j=i+(j+1) by omega];exact h (j+1) q' v' (by simpa using hq) (by simpa using hv)
   have hr:=C.rep i
   rw [h1,h2] at hr
   refine ⟨L i++Lp,⟨v,vs,_,_,rfl,rfl,hr,k1⟩,?_,fun b hb=>?_⟩
   ·rw [List.nodup_append]
    refine ⟨C.nodup i,k2,fun x hx y hy e=>?_⟩
    obtain ⟨t,k4,k5,k6⟩:=k3 y hy
    exact C.disj i t (by omega) x hx (e▸k6)
   ·rcases List.mem_append.1 hb with hb | hb
    ·exact ⟨i,Nat.le_refl _,by simp,hb⟩
    ·obtain ⟨t,k4,k5,k6⟩:=k3 b hb
     exact ⟨t,by omega,by simp;omega,k6⟩
theorem zLX (S:St w0 U Φ0 nt hv a w e Φ rv E L) {j g:Nat} (hj:j<1000) (hg:zAb≤g) (hb:∀ s,zAb≤s→s≠g→E s = .bad) {k:PM} (h:(lay (zAx+j) (E g) k).run o e=some e') :
  ∃ e1 E1 L1,k.run o e1=some e'∧St w0 U Φ0 nt hv a w e1 Φ (upd rv (zAx+j) (rv g)) E1 L1∧zBk E1:=by
 have hh:zAn=50000000:=rfl
 have ho:zAx=60000000:=rfl
 have wV:zAb=1000000000:=rfl
 have jp:=S.small
 obtain ⟨e1,E1,L1,h1,C,h2,h3,h4,h5,h6⟩:=zQY S (d:=zAx+j) (by omega) hg h
 have uc:∀ d ps,d≠zAx+j→d<zAb→E1 d = .tup ps→∃ ps',E d = .tup ps'∧ps'.length=ps.length:=by
  intro d ps hd um hp
  rcases h3 d hd um with h7 | h7
  ·exact ⟨ps,by rw [← h7,hp],rfl⟩
  ·rw [h7] at hp;exact zD2 (zIg _ _) hp
 refine ⟨e1,E1,L1,h1,⟨C,h2,S.size,S.small,fun t ht=>?_,fun d ps i hd hp hi=>?_,fun s h7 h8=>?_,S.dfr⟩,fun s hs=>?_⟩
 ·rw [zAh (by omega)];exact S.tmps t ht
 ·obtain ⟨ps',h7,h8⟩:=uc d ps (by omega) (by omega) hp
  obtain ⟨h9,vs,jS,vO⟩:=S.parts d ps' i hd h7 (by omega)
  refine ⟨h9,vs,by rw [zAh (by omega)];exact jS,?_⟩
  rw [zAh (by simp only [zBo];omega)];exact vO
 ·rw [zAh (by omega)];exact S.hid s h7 h8
 ·by_cases yd:s=g
  ·subst yd;exact h5
  ·rcases h6 s hs yd with h7 | h7
   ·rw [h7];exact hb s hs yd
   ·rw [h7,hb s hs yd];rfl
theorem zWC (S:St w0 U Φ0 nt hv a w e Φ rv E L) (hb:zBk E) {frz:Bool} {j:Nat} (hj:j<1000) {p:PV} {v:Value} (hp:Rep w Φ (zA0 w rv E) p v []) {k:PM} (h:(zGs frz p fun q=>lay (zAx+j) q k).run o e=some e') :
  ∃ e1 Φ1 rv1 E1 L1,k.run o e1=some e'∧St w0 U Φ0 nt hv a w e1 Φ1 rv1 E1 L1∧zBk E1∧rv1 (zAx+j)=v∧∀ s,s<zAb→s≠zAx+j→rv1 s=rv s:=by
 have ho:zAx=60000000:=rfl
 have wV:zAb=1000000000:=rfl
 have single:(zFP frz p fun q=>lay (zAx+j) q k).run o e=some e'→∃ e1 Φ1 rv1 E1 L1,k.run o e1=some e'∧St w0 U Φ0 nt hv a w e1 Φ1 rv1 E1 L1∧zBk E1∧rv1 (zAx+j)=v∧∀ s,s<zAb→s≠zAx+j→rv1 s=rv s:=by
  intro h
  have S1:=S.hold (g:=zAb) (Nat.le_refl _) hp
  obtain ⟨e1,rv1,E1,h1,W⟩:=zLZ S1 (g:=zAb) (Nat.le_refl _) (by rw [zAl];exact h)
  obtain ⟨Φ1,L1,S2⟩:=W.st
  obtain ⟨e2,E2,L2,h2,S3,qZ⟩:=zLX S2 hj (Nat.le_refl zAb) (fun s hs hI=>by rw [(W.rest s hs hI).1,zAh hI];exact hb s hs) h1
  refine ⟨e2,Φ1,_,E2,L2,h2,S3,qZ,?_,fun s hs hI=>?_⟩
  ·rw [zAl,W.val,zAl]
  ·rw [zAh hI,W.low s hs,zAh (by omega)]
 simp only [zGs] at h
 split at h
 ·rename_i cs
  obtain ⟨vs,rfl,hr⟩:=hp
  obtain ⟨rv1,E1,L1,S1,k1,k2,k3⟩:=zLm cs vs.toList 1 S hr
  have yO:=hr.length
  have yU:∀ (j:Nat) (p:PV),cs[j]? = some p→∃ v,vs.toList[j]? = some v:=fun j p hj=>⟨_,List.getElem?_eq_getElem (by have:=(List.getElem?_eq_some_iff.1 hj).1;omega)⟩
  obtain ⟨e2,Φ2,rv2,E2,L2,qs,h2,S2,h3,h4,h5,h6⟩:=zKj cs 1 S1 (fun j p hjp=>by
   obtain ⟨v,yD⟩:=yU j p hjp
   exact (k2 j p v hjp yD).1) h
  have vQ:∀ s,zAb≤s→(s<zAb+1∨zAb+1+cs.length≤s)→E2 s = .bad:=fun s hs js=>by
   rw [(h6 s hs js).1,(k3 s hs js).1];exact hb s hs
  have gU:∀ (j:Nat) (q:PV) (v:Value),qs[j]? = some q→vs.toList[j]? = some v→E2 (zAb+1+j)=q∧rv2 (zAb+1+j)=v:=fun j q v hq yD=>by
   obtain ⟨m1,m2⟩:=h4 j q hq
   have je:j<cs.length:=by have:=(List.getElem?_eq_some_iff.1 hq).1;omega
   have:=k2 j _ v (List.getElem?_eq_getElem je) yD
   exact ⟨m1,m2.trans this.2.1⟩
  obtain ⟨Lp,r1,r2,r3⟩:=zKn S2.conf qs vs.toList (zAb+1) (by omega) gU
  have hG:∀ s,decide (zAb+1≤s∧s<zAb+1+cs.length)=true↔zAb+1≤s∧s<zAb+1+cs.length:=fun s=>decide_eq_true_iff
  have hc:=S2.conf.make (w':=w) (fun s=>decide (zAb+1≤s∧s<zAb+1+cs.length)) (fun s hs=>by have:=(hG s).1 hs;omega) (g:=zAb) (Nat.le_refl _) (p := .agg qs) (v := .agg vs) (Lp:=Lp)
   (fun A hA=>⟨vs,rfl,r1.mono zDd.refl hA (fun _ _=>rfl)⟩) r2 (fun b hb=>by
    obtain ⟨t,q1,q2,q3⟩:=r3 b hb
    exact .inl ⟨t,q3,(hG t).2 ⟨q1,by omega⟩⟩) (Nat.le_refl _) (fun _ _ _=>rfl) ⟨rfl,rfl,rfl⟩
  have yu:∀ s,s<zAb→decide (zAb+1≤s∧s<zAb+1+cs.length)=false:=fun s hs=>decide_eq_false (by omega)
  have S3:=S2.turn (e':=e2) hc (fun s hs=>by
   rw [zAh (by omega)]
   simp only [yu s hs,Bool.false_eq_true,if_false];exact S2.env s hs) (fun s hs=>zAh (by omega)) (fun d ps hd hp=>by
   rw [zAh (by omega)] at hp
   simp only [yu d (by omega),Bool.false_eq_true,if_false] at hp;exact ⟨ps,hp,rfl⟩)
  obtain ⟨e4,E4,L4,m1,S4,m2⟩:=zLX S3 hj (Nat.le_refl zAb) (fun s hs hI=>by
   rw [zAh hI]
   by_cases h7:s<zAb+1+cs.length
   ·simp only [(hG s).2 ⟨by omega,h7⟩,if_true]
   ·have:decide (zAb+1≤s∧s<zAb+1+cs.length)=false:=decide_eq_false (by omega)
    simp only [this,Bool.false_eq_true,if_false];exact vQ s hs (by omega)) (by rw [zAl];exact h2)
  refine ⟨e4,Φ2,_,E4,L4,m1,S4,m2,?_,fun s hs hI=>?_⟩
  ·rw [zAl,zAl]
  ·rw [zAh hI,zAh (by omega),h5 s hs,(k1 s hs).2]
 ·exact single h
def zWL (nt:Nat):ResultVar→Bool
 | .tmp t=>Nat.blt t nt
 | .cell t _=>Nat.blt t nt
def zHh (a:Act):ResultVar→Sem Value
 | .tmp t=>pure (a.tmps.getD t undef)
 | .cell t ty=>do loadVar ty (← asAddr (a.tmps.getD t undef))
theorem zME {frz:Bool}:∀ (rs:List ResultVar) (j:Nat) {e:Env} {Φ:Nat→Prop} {rv:Nat→Value} {E:Nat→PV} {L:Nat→List Nat},St w0 U Φ0 nt hv a w e Φ rv E L→zBk E→j+rs.length≤1000→(∀ x∈rs,zWL nt x=true)→(zCE P frz j rs).run o e=some e' →
  ∃ Φ1 rv1 E1 L1,St w0 U Φ0 nt hv a w e' Φ1 rv1 E1 L1∧zBk E1∧(∀ s,s<zAx+j→rv1 s=rv s)∧∀ (i:Nat) (x:ResultVar),rs[i]? = some x→(zHh a x).run P w = .ok (rv1 (zAx+j+i)) w
 | [],j,e,Φ,rv,E,L,S,hb,hj,hr,h=>by
  simp only [zCE,PM.run,Option.some.injEq] at h;subst h
  exact ⟨Φ,rv,E,L,S,hb,fun _ _=>rfl,by simp⟩
 | x :: rs,j,e,Φ,rv,E,L,S,hb,hj,hr,h=>by
  have ho:zAx=60000000:=rfl
  have wV:zAb=1000000000:=rfl
  simp only [List.length_cons] at hj
  have hx:=hr x (by simp)
  have fin:∀ {p:PV} {v:Value},Rep w Φ (zA0 w rv E) p v []→(zHh a x).run P w = .ok v w→(zGs frz p fun q=>lay (zAx+j) q (zCE P frz (j+1) rs)).run o e=some e' →
    ∃ Φ1 rv1 E1 L1,St w0 U Φ0 nt hv a w e' Φ1 rv1 E1 L1∧zBk E1∧(∀ s,s<zAx+j→rv1 s=rv s)∧∀ (i:Nat) (y:ResultVar),(x::rs)[i]? = some y→(zHh a y).run P w = .ok (rv1 (zAx+j+i)) w:=by
   intro p v hp yD h
   obtain ⟨e1,Φ1,rv1,E1,L1,h1,S1,y7,h2,h3⟩:=zWC S hb (by omega) hp h
   obtain ⟨Φ2,rv2,E2,L2,S2,jW,h4,h5⟩:=zME rs (j+1) S1 y7 (by omega) (fun y hy=>hr y (by simp [hy])) h1
   refine ⟨Φ2,rv2,E2,L2,S2,jW,fun s hs=>(h4 s (by omega)).trans (h3 s (by omega) (by omega)),fun i y hy=>?_⟩
   cases i with
   | zero =>
    simp at hy;subst hy
    rw [Nat.add_zero,h4 _ (by omega),h2];exact yD
   | succ i =>
    rw [show zAx+j+(i+1)=zAx+(j+1)+i by omega]
    exact h5 i y (by simpa using hy)
  cases x with
  | tmp t =>
   have uP:t<nt:=zB1 hx
   have yg:t<zAb:=Nat.lt_of_lt_of_le uP (Nat.le_trans S.small (by decide))
   simp only [zCE,PM.run] at h
   rw [← S.env t yg] at h
   exact fin (S.conf.view yg) (by simp only [zHh,Sem.run_pure];rw [S.tmps t uP]) h
  | cell t ty =>
   have uP:t<nt:=zB1 hx
   have yg:t<zAb:=Nat.lt_of_lt_of_le uP (Nat.le_trans S.small (by decide))
   simp only [zCE] at h
   obtain ⟨sh,j6,h1⟩:=zBA h
   simp only [PM.run] at h1
   rw [← S.env t yg] at h1
   have yD:=S.conf.view yg
   split at h1
   ·rename_i r pre i c s' ub
    rw [ub] at yD
    obtain ⟨b,u,q,q1,q2,q3,q4⟩:=zLz (P:=P) S j6 yD h1
    exact fin q4 (by simp only [zHh,Sem.run_bind];rw [S.tmps t uP,q1];simp [asAddr,q2]) q3
   ·cases h1
end
end Go.Eng
namespace Go.Eng
open Go
def zVK (P:Program) (fn:Func):Bool :=
 match fn.body with
 | none=>true
 | some c=>zCA P fn.ntmps c&&fn.results.toList.all (zWL fn.ntmps)&&Nat.ble fn.ntmps 2000000&&Nat.ble fn.results.size 1000
section
variable {P:Program} {H:zBf} {w:World} {orc:zAD} {yo:zCM}
theorem zJt {α β:Type} {f:α→Sem β}:∀ (l:List α) (vs:List β),l.length=vs.length→(∀ (i:Nat) (x:α) (v:β),l[i]? = some x→vs[i]? = some v→(f x).run P w = .ok v w)→(l.mapM f).run P w = .ok vs w
 | [],[],_,_=>rfl
 | [],_::_,h,_=>by cases h
 | _::_,[],h,_=>by cases h
 | x::l,v::vs,h,hf=>by
  simp only [List.mapM_cons,Sem.run_bind,hf 0 x v rfl rfl,Result.andThen_ok,zJt l vs (by simpa using h) (fun i y u hy hu=>hf (i+1) y u (by simpa using hy) (by simpa using hu)),Sem.run_pure]
theorem zNM {fn:Func} {a:Act} {vs:List Value} (hl:fn.results.size=vs.length) (h:∀ (i:Nat) (x:ResultVar) (v:Value),fn.results.toList[i]? = some x→vs[i]? = some v→(zHh a x).run P w = .ok v w) :
  (results fn a.tmps).run P w = .ok (if h:vs.toArray.size=1 then vs.toArray[0] else .tuple vs.toArray) w:=by
 have h1:=zJt (P:=P) (w:=w) (f:=zHh a) fn.results.toList vs (by simpa using hl) h
 have h2:(fn.results.mapM (zHh a)).run P w = .ok vs.toArray w:=by
  rw [Array.mapM_eq_mapM_toList]
  simp only [Sem.run_map,h1,Result.andThen_ok]
 have h3:(fun | .tmp t=>pure (a.tmps.getD t undef) | .cell t ty=>do loadVar ty (← asAddr (a.tmps.getD t undef)):ResultVar→Sem Value)=zHh a:=by
  funext x;cases x<;>rfl
 simp only [results,Sem.run_bind]
 have h4:(fn.results.mapM (fun | .tmp t=>pure (a.tmps.getD t undef) | .cell t ty=>do loadVar ty (← asAddr (a.tmps.getD t undef)):ResultVar→Sem Value)).run P w = .ok vs.toArray w:=by rw [h3];exact h2
 erw [h4]
 rfl
theorem zJo {fn:Func} {tmps:Array Value} {R:Ending→World→Prop}:∀ (ds:List Deferred) (w:World),(∀ d∈ds,∃ D,d.target = .collected D∧w.heap[D]? = some (.deferred (some [])))→ds.Pairwise (fun d d'=>∀ D D',d.target = .collected D→d'.target = .collected D'→D≠D') →
  (∀ w',w'.heap.size=w.heap.size→(∀ b,(∀ d∈ds,d.target ≠ .collected b)→w'.heap[b]? = w.heap[b]?)→(w'.os=w.os∧w'.tape=w.tape∧w'.output=w.output)→LeavesIn (FF none) 0 P fn tmps R [] .returning w')→LeavesInM (FF none) 0 P fn tmps R ds .returning w
 | [],w,_,_,h=>h w rfl (fun _ _=>rfl) ⟨rfl,rfl,rfl⟩
 | d :: ds,w,h1,h2,h=>by
  obtain ⟨D,q1,q2⟩:=h1 d (by simp)
  obtain ⟨p1,p2⟩:=List.pairwise_cons.1 h2
  refine ⟨by simp,.inl ⟨D,_,q1,run_takeDeferred q2,zJo ds _ (fun d' hd=>?_) p2 fun w' g1 g2 g3=>?_⟩⟩
  ·obtain ⟨D',r1,r2⟩:=h1 d' (by simp [hd])
   exact ⟨D',r1,(World.putObj_heap_other (Ne.symm (p1 d' hd D D' q1 r1))).trans r2⟩
  ·refine h w' (g1.trans (by simp)) (fun b hb=>(g2 b fun d' hd=>hb d' (by simp [hd])).trans (World.putObj_heap_other fun e=>hb d (by simp) (e▸q1))) g3
theorem zVl (zE4:P.follows .mixedOrders=true) (jH:zGd P orc) (hnm:zEK P) (qj:zMn P yo) {f:FuncId} {fn:Func} {body:Code} {n:Nat} {args hid hZ:List PV} {v:PV} (hf:P.funcs[f]? = some fn) (yW:fn.body=some body) (hwf:zVK P fn=true) (h:zJA P H orc yo zB8 n f fn body args hid=some (v,hZ)) :
    zFp P f args hid v hZ:=by
  have ho:zAx=60000000:=rfl
  have hh:zAn=50000000:=rfl
  have wV:zAb=1000000000:=rfl
  simp only [zVK,yW,Bool.and_eq_true] at hwf
  obtain ⟨⟨⟨jN,y9⟩,u9⟩,jX⟩:=hwf
  have u9:=Nat.le_of_ble_eq_true u9
  have jX:=Nat.le_of_ble_eq_true jX
  simp only [zJA] at h
  cases hc:(Nat.ble args.length fn.ntmps&&Nat.ble hid.length 1000&&args.all fun p => !p.isTup) with
  | false=>rw [hc] at h;cases h
  | true =>
    rw [hc] at h;simp only [cond_true] at h
    simp only [Bool.and_eq_true] at hc
    obtain ⟨⟨yL,u8⟩,uc⟩:=hc
    have yL:=Nat.le_of_ble_eq_true yL
    have u8:=Nat.le_of_ble_eq_true u8
    have key : ∀ x e1,exec P H orc yo zB8 fn.ntmps (H f) n body (zA4 args hid) none=some (x,e1,none)→(x = .norm∨x = .ret)→∀ e',(zCE P (H f).frz 0 fn.results.toList).run orc e1=some e' →
        (bif Nat.beq fn.results.size 1&&(e'.get zAx).isTup then none else some (zVP e' fn.results.size,(List.range hid.length).map fun j=>e'.get (zAn+j)))=some (v,hZ)→zFp P f args hid v hZ:=by
      intro x e1 hx gR e' wJ yf w Φ rv E L vs hE kd C yG yq jd
      refine callsIn_wide.1 (callsIn_of_wp_marks (n:=0) hf yW trivial ?_)
      have hntm:vs.size+(fn.ntmps-vs.size)=fn.ntmps:=by omega
      have S:St w (fun b=>∃ s,b∈L s) Φ fn.ntmps ⟨rv,[]⟩ {tmps:=vs++Array.replicate (fn.ntmps-vs.size) undef,defers:=[]} w (zA4 args hid) Φ rv E L:=by
        refine ⟨C,hE,by simp;omega,u9,fun t ht=>?_,fun d ps i hd hp hi=>?_,fun _ _ _=>rfl,rfl⟩
        · simp only [Array.getD_eq_getD_getElem?,Array.getElem?_append]
          by_cases h1:t<vs.size
          · rw [if_pos h1,yq t (by omega)];rfl
          · rw [if_neg h1,Array.getElem?_replicate,if_pos (by omega),jd t (by omega) (by omega)];rfl
        · rw [hE d (by omega),zDj (by omega)] at hp
          split at hp
          · rename_i ve
            have:(args.getD d .bad)∈args:=by
              simp only [List.getD,List.getElem?_eq_getElem ve,Option.getD_some];exact List.getElem_mem ve
            have:=List.all_eq_true.1 uc _ this
            rw [hp] at this;cases this
          · split at hp
            · omega
            · cases hp
      have hw:=zHq (zV2 jH hnm) zE4 n body (.inr (zV6 zE4 jH hnm qj)) jN (fun _ _=>trivial) rfl (⟨rfl,w,_,Φ,[],Rel.refl,⟨fun _ h=>(by cases h),.nil⟩,Φ,rv,E,L,S,kd⟩:GB w (fun b=>∃ s,b∈L s) Φ fn.ntmps rv _ w _ none) hx
      refine wpIn_mono hw fun ex a' w1 ⟨wy,_,wz,Uz,Φz,ds,qB,wW,Φ1,rv1,E1,L1,Sz,y7⟩=>?_
      have ud:LeavesInM (FF none) 0 P fn a'.tmps (fun e w'=>∃ u Φ' rv' E' L',e = .returned u∧Conf w (fun b=>∃ s,b∈L s) Φ w' Φ' rv' E' L'∧hZ.length=hid.length ∧
          (∀ j,j<hid.length→E' (zAn+j)=hZ.getD j .bad∧rv' (zAn+j)=rv (zAn+j))∧Gave v u rv' E') a'.defers .returning w1:=by
       rw [Sz.dfr]
       have gV:∀ d∈ds,∀ D,d.target = .collected D→(∀ s,D∉L1 s)∧¬ Φ1 D∧w.heap.size≤D:=by
         intro d hd D hD
         obtain ⟨D',q1,q0,q2,q3,q4,q5⟩:=wW.each d hd
         rw [q1] at hD;cases hD
         refine ⟨fun s hs=>?_,fun h=>?_,q0⟩
         · rcases (Sz.conf.own s D hs).2.2 with h | h
           · exact q4 h
           · omega
         · rcases (Sz.conf.frz D h).2 with h | h | h
           · exact q5 h
           · exact q4 h
           · omega
       refine zJo ds w1 (fun d hd=>?_) wW.apart fun w' m1 m2 m3=>?_
       · obtain ⟨D,q1,_,q2,q3,q4,_⟩:=wW.each d hd
         exact ⟨D,q1,(Sz.conf.kept D q2 q4).trans q3⟩
       have C1:Conf w (fun b=>∃ s,b∈L s) Φ w' Φ1 rv1 E1 L1:=(Sz.conf.rebase qB).moved (by omega) (fun s b hb=>m2 b fun d hd h=>(gV d hd b h).1 s hb) (fun b hb=>m2 b fun d hd h=>(gV d hd b h).2.1 hb) (fun b hb _=>m2 b fun d hd h=>by have:=(gV d hd b h).2.2;omega) m3
       have S1:St w (fun b=>∃ s,b∈L s) Φ fn.ntmps ⟨rv,ds⟩ a' w' e1 Φ1 rv1 E1 L1:=Sz.with C1
       obtain ⟨Φ2,rv2,E2,L2,S2,jW,_,h3⟩:=zME fn.results.toList 0 S1 y7 (by simpa using jX) (fun y hy=>List.all_eq_true.1 y9 y hy) wJ
       let us:List Value:=(List.range fn.results.size).map fun i=>rv2 (zAx+i)
       have yA:=zNM (P:=P) (w:=w') (fn:=fn) (a:=a') (vs:=us) (by simp [us]) (fun i y u hy hu=>by
         have:=h3 i y hy
         rw [Nat.add_zero] at this
         rw [this]
         have hi:i<fn.results.size:=by have:=(List.getElem?_eq_some_iff.1 hy).1;simpa using this
         simp only [us,List.getElem?_map,List.getElem?_range hi,Option.map_some,Option.some.injEq] at hu
         rw [hu])
       refine ⟨_,yA,_,Φ2,rv2,E2,L2,rfl,S2.conf,?_⟩
       have hv:v=zVP e' fn.results.size∧hZ=(List.range hid.length).map fun j=>e'.get (zAn+j):=by
         revert yf
         cases (Nat.beq fn.results.size 1&&(e'.get zAx).isTup) with
         | true=>intro h;cases h
         | false=>intro h;simp only [cond_false,Option.some.injEq,Prod.mk.injEq] at h;exact ⟨h.1.symm,h.2.symm⟩
       obtain ⟨uw,kg⟩:=hv
       refine ⟨by rw [kg];simp,fun j hj=>⟨?_,S2.hid _ (by omega) (by omega)⟩,?_⟩
       · rw [S2.env _ (by omega),kg]
         simp [List.getD,hj]
       · by_cases h1:fn.results.size=1
         · have u9:(e'.get zAx).isTup=false:=by
             revert yf
             cases hb:(e'.get zAx).isTup with
             | true=>simp [h1]
             | false=>intro _;rfl
           have hv3:v=e'.get zAx:=by rw [uw,zVP,if_pos h1]
           have wS:us=[rv2 zAx]:=by simp only [us,h1];rfl
           refine ⟨fun _=>⟨by rw [S2.env _ (by omega),hv3],?_⟩,fun ps y5=>?_⟩
           · rw [wS];rfl
           · rw [hv3] at y5;rw [y5] at u9;cases u9
         · have hv3:v = .tup ((List.range fn.results.size).map fun j=>e'.get (zAx+j)):=by rw [uw,zVP,if_neg h1]
           refine ⟨fun h=>absurd hv3 (h _),fun ps y5=>?_⟩
           rw [hv3] at y5
           simp only [PV.tup.injEq] at y5
           subst y5
           refine ⟨us.toArray,?_,by simp [us],fun j p hj=>?_⟩
           · rw [dif_neg (by simpa [us] using h1)]
           · simp only [List.getElem?_map] at hj
             cases hr:(List.range fn.results.size)[j]? with
             | none=>rw [hr] at hj;cases hj
             | some k =>
               rw [hr] at hj;simp only [Option.map_some,Option.some.injEq] at hj
               obtain ⟨jM,uj⟩:=List.getElem?_eq_some_iff.1 hr
               simp only [List.getElem_range] at uj
               subst uj
               simp only [List.length_range] at jM
               exact ⟨by rw [S2.env _ (by omega)];exact hj,by simp [us,jM]⟩
      subst wy
      rcases gR with rfl | rfl<;>exact ud
    revert h
    cases hx:exec P H orc yo zB8 fn.ntmps (H f) n body (zA4 args hid) none with
    | none=>intro h;cases h
    | some r =>
      obtain ⟨x,e1,lg⟩:=r
      intro h
      cases x with
      | ex id=>cases lg<;>cases h
      | norm =>
        cases lg with
        | some g=>cases h
        | none =>
          cases wJ:(zCE P (H f).frz 0 fn.results.toList).run orc e1 with
          | none=>simp only [wJ] at h;cases h
          | some e'=>simp only [wJ] at h;exact key .norm e1 hx (.inl rfl) e' wJ h
      | ret =>
        cases lg with
        | some g=>cases h
        | none =>
          cases wJ:(zCE P (H f).frz 0 fn.results.toList).run orc e1 with
          | none=>simp only [wJ] at h;cases h
          | some e'=>simp only [wJ] at h;exact key .ret e1 hx (.inr rfl) e' wJ h
def zEA (P:Program) (H:zBf):Prop:=∀ (f:FuncId) (fn:Func) (args hid:List PV) (v:PV) (hZ:List PV),P.funcs[f]? = some fn→(H f).intr≠0→zDJ P fn (H f).intr args hid=some (v,hZ)→zCt P f∧zFp P f args hid v hZ
def Fit (P:Program) (H:zBf):Prop:=∀ (f:FuncId) (fn:Func),P.funcs[f]? = some fn→(H f).intr=0→zVK P fn=true
def zUk (P:Program) (g:FuncId) (first:List PV) (i:Nat) (caps:List PV) (k:Int) (plan:List (List PV)):Prop :=
  ∀ (J:List (List PV)→World→(Nat→Prop)→Prop) (Jx:World→Prop) (Ψ:Nat→Prop),Client P i plan k Ψ J Jx→∀ (w:World) (Φ:Nat→Prop) (rv:Nat→Value) (E:Nat→PV) (L:Nat→List Nat) (vs:Array Value) (B:Nat→Prop),
   (∀ s,s<zAb→E s=(zA4 (first++PV.yld i::caps) []).get s)→(∀ s,zAb≤s→E s = .bad)→Conf w (fun b=>∃ s,b∈L s) Φ w Φ rv E L→vs.size=(first++PV.yld i::caps).length→(∀ j,j<(first++PV.yld i::caps).length→vs[j]? = some (rv j)) →
   (∀ s,(first++PV.yld i::caps).length≤s→s<zAn→rv s=undef)→J [] w B→(∀ b,B b→∀ s,b∉L s)→(∀ b,Φ b→Ψ b∨¬ B b) →
   CallsIn (FF none) 0 P g vs w fun en w'=>(∃ v,en = .returned v)∧((k-plan.length≠0∧∃ B',J plan w' B')∨(k-plan.length=0∧Jx w'))
theorem zPy (zE4:P.follows .mixedOrders=true) (jH:zGd P orc) (hnm:zEK P) (zMr:Fit P H) {n:Nat} {g:FuncId} {first caps:List PV} {i:Nat} {k:Int} {plan:List (List PV)} (h:zWc P H orc yo zB8 n g first i caps k=some plan):zCt P g∧(first++PV.yld i::caps).length≤zAn∧zUk P g first i caps k plan:=by
 have hh:zAn=50000000:=rfl
 simp only [zWc] at h
 split at h
 ·rename_i fn hf
  split at h
  ·rename_i body yW
   rcases zBe h with ⟨hc,h⟩ | ⟨_,h⟩
   ·simp only [Bool.and_eq_true] at hc
    obtain ⟨⟨⟨⟨h1,h2⟩,h3⟩,h4⟩,hint⟩:=hc
    have hint:=Nat.eq_of_beq_eq_true hint
    have h1:=Nat.le_of_ble_eq_true h1
    have hwf:=zMr g fn hf hint
    simp only [zVK,yW,Bool.and_eq_true] at hwf
    obtain ⟨⟨⟨jN,y9⟩,u9⟩,jX⟩:=hwf
    have u9:=Nat.le_of_ble_eq_true u9
    have uc:(first++PV.yld i::caps).all (fun p => !p.isTup)=true:=by
     rw [List.all_append,List.all_cons,Bool.and_eq_true] 
     rw [List.all_append,Bool.and_eq_true] at h3
     exact ⟨h3.1,by rw [h3.2];rfl⟩
    have hk:k≠0:=by simpa using h4
    refine ⟨⟨fn,hf,by rw [yW];rfl⟩,by omega,?_⟩
    have key:∀ {x:X} {e1:Env} {l:Log},exec P H orc yo zB8 fn.ntmps (H g) n body (zA4 (first++PV.yld i::caps) []) (some ⟨[],k,i⟩)=some (x,e1,some l)→(x = .norm∨x = .ret)→l.xs=plan→zUk P g first i caps k plan:=fun hx gR hg J Jx Ψ hC w Φ rv E L vs B hE kd C yG yq jd hJ hBL hBΦ =>
     zUz zE4 jH hnm hC hf yW jN u9 h1 uc h2 hx gR hg hk hE kd C yG yq jd hJ hBL hBΦ
    split at h
    ·rename_i e1 l hx
     simp only [Option.some.injEq] at h
     exact key hx (.inl rfl) h
    ·rename_i e1 l hx
     simp only [Option.some.injEq] at h
     exact key hx (.inr rfl) h
    ·cases h
   ·cases h
  ·cases h
 ·cases h
theorem zEY [Yo] (zE4:P.follows .mixedOrders=true) (hnm:zEK P) (zMr:Fit P H) (hin:zEA P H) (qj:zMn P Yo.yo):∀ n,zGd P (zCR P H n)
 | 0=>by intro f args hid v hZ h;cases h
 | n + 1 => by
  have jH:=zEY zE4 hnm zMr hin qj n
  intro f args hid v hZ h
  have h:zJK P H (zCR P H n) Yo.yo zB8 (n+1) f args hid=some (v,hZ):=h
  simp only [zJK] at h
  split at h
  ·rename_i fn hf
   split at h
   ·rename_i hi
    exact hin f fn args hid v hZ hf hi h
   ·rename_i hi
    split at h
    ·rename_i body yW
     exact ⟨⟨fn,hf,by rw [yW];rfl⟩,zVl zE4 jH hnm qj hf yW (zMr f fn hf (by simpa using hi)) h⟩
    ·cases h
  ·cases h
abbrev yo0:Yo:=⟨fun _ _ _ _ _=>none⟩
noncomputable def zSm (P:Program) (H:zBf) (n:Nat):zCM:=fun g first i caps k=>zWc P H (@zCR P H yo0 n) yo0.yo zB8 (n+1) g first i caps k
open Classical in
noncomputable def zW9 (P:Program) (H:zBf):zCM:=fun g first i caps k=>if h:∃ xs n0,∀ n,n0≤n→zSm P H n g first i caps k=some xs then some (Classical.choose h) else none
noncomputable abbrev yo1 (P:Program) (H:zBf):Yo:=⟨zW9 P H⟩
theorem zVa {g:FuncId} {first:List PV} {i:Nat} {caps:List PV} {k:Int} {xs:List (List PV)} {n0:Nat} (h:∀ n,n0≤n→zSm P H n g first i caps k=some xs):zW9 P H g first i caps k=some xs:=by
 have h':∃ xs n0,∀ n,n0≤n→zSm P H n g first i caps k=some xs:=⟨xs,n0,h⟩
 simp only [zW9,dif_pos h']
 obtain ⟨n1,h1⟩:=Classical.choose_spec h'
 have h2:=h1 (max n0 n1) (by omega)
 rw [h (max n0 n1) (by omega)] at h2
 exact h2.symm
theorem zPM (zE4:P.follows .mixedOrders=true) (hnm:zEK P) (zMr:Fit P H) (hin:zEA P H):zMn P (zW9 P H):=by
 intro g first i caps k plan h
 simp only [zW9] at h
 split at h
 ·rename_i h'
  simp only [Option.some.injEq] at h;subst h
  obtain ⟨n1,h1⟩:=Classical.choose_spec h'
  exact zPy zE4 (@zEY P H yo0 zE4 hnm zMr hin (fun g first i caps k plan h=>by cases h) n1) hnm zMr (h1 n1 (by omega))
 ·cases h
end
end Go.Eng
namespace Go.Eng
open Go
def zHn:zAD:=fun _ _ _=>none
def zVS:zCM:=fun _ _ _ _ _=>none
def zGV:All:=fun _=>none
theorem zFy {o:zAD}:∀ {p:PM} {e e1:Env},p.run zHn e=some e1→p.run o e=some e1:=by
 intro p
 induction p with
 | ok=>intro e e1 h;exact h
 | fail=>intro e e1 h;cases h
 | view s k ih=>intro e e1 h;exact ih _ h
 | get s k ih=>intro e e1 h;simp only [PM.run] at h ⊢;split at h<;>first | (cases h;done) | exact ih _ h
 | set s q k ih=>intro e e1 h;exact ih h
 | cells r pre i c n k ih=>intro e e1 h;simp only [PM.run] at h ⊢;split at h<;>first | (cases h;done) | exact ih _ _ h
 | deep r pre k ih=>intro e e1 h;simp only [PM.run] at h ⊢;split at h<;>first | (cases h;done) | exact ih _ h
 | wcells r pre i c qs k ih=>intro e e1 h;simp only [PM.run] at h ⊢;split at h<;>first | (cases h;done) | exact ih h
 | wnode r pre q k ih =>
  intro e e1 h
  simp only [PM.run] at h ⊢
  rcases zBe h with ⟨_,h⟩ | ⟨hl,h⟩
  ·cases h
  ·rw [hl];simp only [cond_false]
   split at h
   ·exact ih h
   ·cases h
 | kill r pre k ih=>intro e e1 h;exact ih h
 | frz r pre k ih=>intro e e1 h;simp only [PM.run] at h ⊢;split at h<;>first | (cases h;done) | exact ih h
 | killEx r pre k ih=>intro e e1 h;exact ih h
 | forget r k ih=>intro e e1 h;exact ih h
 | call f args hid k ih=>intro e e1 h;cases h
theorem zAo {α β:Type} {x y:Option α} {f:α→β} {r:β} (h:x.map f=some r) (g:∀ a,x=some a→y=some a):y.map f=some r:=by
 obtain ⟨a,h1,h2⟩:=Option.map_eq_some_iff.1 h
 rw [g a h1];simp [h2]
theorem zIn {o:zAD}:∀ {p:PM} {e:Env} {r:Env×Tok},p.runT zHn e=some r→p.runT o e=some r:=by
 intro p
 induction p with
 | ok=>intro e e1 h;exact h
 | fail=>intro e e1 h;cases h
 | view s k ih=>intro e e1 h;exact zAo h fun a h=>ih _ h
 | get s k ih=>intro e e1 h;simp only [PM.runT] at h ⊢;split at h<;>first | (cases h;done) | exact zAo h fun a h=>ih _ h
 | set s q k ih=>intro e e1 h;exact zAo h fun a h=>ih h
 | cells r pre i c n k ih=>intro e e1 h;simp only [PM.runT] at h ⊢;split at h<;>first | (cases h;done) | exact zAo h fun a h=>ih _ _ h
 | deep r pre k ih=>intro e e1 h;simp only [PM.runT] at h ⊢;split at h<;>first | (cases h;done) | exact zAo h fun a h=>ih _ h
 | wcells r pre i c qs k ih=>intro e e1 h;simp only [PM.runT] at h ⊢;split at h<;>first | (cases h;done) | exact zAo h fun a h=>ih h
 | wnode r pre q k ih =>
  intro e e1 h
  simp only [PM.runT] at h ⊢
  rcases zBe h with ⟨_,h⟩ | ⟨hl,h⟩
  ·cases h
  ·rw [hl];simp only [cond_false]
   split at h
   ·exact zAo h fun a h=>ih h
   ·cases h
 | kill r pre k ih=>intro e e1 h;exact zAo h fun a h=>ih h
 | frz r pre k ih=>intro e e1 h;simp only [PM.runT] at h ⊢;split at h<;>first | (cases h;done) | exact zAo h fun a h=>ih h
 | killEx r pre k ih=>intro e e1 h;exact zAo h fun a h=>ih h
 | forget r k ih=>intro e e1 h;exact zAo h fun a h=>ih h
 | call f args hid k ih=>intro e e1 h;cases h
section
variable {P:Program} {H:zBf} {o:zAD} {fz tk nl:Bool} {fzs tks:List Nat} {ops:Array Oper} {nt:Nat} {hh:FHint} {yo:zCM} {al:All}
theorem zHS {x:Oper} {h0:Nat} {args:List PV} {l:Log} {e:Env} {r:Env×Option Log} (h:zBJ zHn ops x h0 args l e=some r):zBJ o ops x h0 args l e=some r:=by
 simp only [zBJ] at h ⊢
 split at h
 ·rcases zBe h with ⟨hc,h⟩ | ⟨_,h⟩
  ·rw [hc];simp only [cond_true]
   refine zAo h fun a h=>?_
   rcases zBe h with ⟨hk,h⟩ | ⟨hk,h⟩<;>rw [hk]
   ·exact zFy h
   ·exact zFy h
  ·cases h
 ·exact zAo h fun a h=>zFy h
 ·cases h
theorem zQ1 {x:Oper} {e:Env} {lg:Option Log} {r:Env×Option Log} (h:zCI P H zHn fz tk nl ops x e lg=some r):zCI P H o fz tk nl ops x e lg=some r:=by
 simp only [zCI] at h ⊢
 split at h
 ·exact zAo h fun a h=>zFy h
 ·split at h
  ·exact zHS h
  ·exact zAo h fun a h=>zFy h
theorem zMO {x:Oper} {e:Env} {lg:Option Log} {r:Env×Option Log×Tok} (h:zEj P H zHn fz tk nl ops x e lg=some r):zEj P H o fz tk nl ops x e lg=some r:=by
 simp only [zEj] at h ⊢
 split at h
 ·exact zAo h fun a h=>zIn h
 ·split at h
  ·exact zAo h fun a h=>zHS h
  ·exact zAo h fun a h=>zIn h
theorem zG2:∀ {l:List Oper} {i:Nat} {e:Env} {lg:Option Log} {r:Env×Option Log},zA6 P H zHn fzs tks nl ops l i e lg=some r→zA6 P H o fzs tks nl ops l i e lg=some r
 | [],_,_,_,_,h=>h
 | x::l,i,e,lg,r,h=>by
  simp only [zA6] at h ⊢
  cases hs:zCI P H zHn (fzs.contains i) (tks.contains i) nl ops x e lg with
  | none=>rw [hs] at h;cases h
  | some q=>rw [hs] at h;rw [zQ1 hs];exact zG2 h
theorem zJg:∀ {l:List Oper} {i:Nat} {acc:List Nat} {ts:List Tok} {e:Env} {lg:Option Log} {r:Env×Option Log},zCk P H zHn fzs tks nl ops l i acc ts e lg=some r→zCk P H o fzs tks nl ops l i acc ts e lg=some r
 | [],_,_,_,_,_,_,h=>h
 | x :: l,i,acc,ts,e,lg,r,h=>by
  simp only [zCk] at h ⊢
  cases hs:zEj P H zHn (fzs.contains i) (tks.contains i) nl ops x e lg with
  | none=>rw [hs] at h;cases h
  | some q =>
   rw [hs] at h;rw [zMO hs]
   simp only at h ⊢
   rcases zBe h with ⟨hc,h⟩ | ⟨_,h⟩
   ·rw [hc];exact zJg h
   ·cases h
theorem zOo:∀ {m:Nat} {c:Code} {e:Env} {lg:Option Log} {r:X×Env×Option Log},exec P H zHn zVS zGV nt hh m c e lg=some r→∀ {m':Nat},m≤m'→exec P H o yo al nt hh m' c e lg=some r
 | 0,_,_,_,_,h,_,_=>by cases h
 | m + 1,c,e,lg,r,h,m',hm=>by
  obtain ⟨m',rfl⟩:∃ k,m'=k+1:=⟨m'-1,by omega⟩
  have ih:∀ {c:Code} {e:Env} {lg:Option Log} {r:X×Env×Option Log},exec P H zHn zVS zGV nt hh m c e lg=some r→exec P H o yo al nt hh m' c e lg=some r:=fun h=>zOo h (by omega)
  cases c with
  | region id ops draw =>
   simp only [exec] at h ⊢
   split at h
   ·rename_i e1 lg1 h1
    have:(if draw=true then zCk P H o (hh.frzs id) (hh.take id) hh.nils ops ops.toList 0 [] [] e lg else zA6 P H o (hh.frzs id) (hh.take id) hh.nils ops ops.toList 0 e lg)=some (e1,lg1):=by
     cases draw with
     | true=>exact zJg h1
     | false=>exact zG2 h1
    rw [this];exact h
   ·cases h
  | seq a b =>
   simp only [exec] at h ⊢
   cases h1:exec P H zHn zVS zGV nt hh m a e lg with
   | none=>rw [h1] at h;cases h
   | some q =>
    rw [h1] at h;rw [ih h1]
    obtain ⟨x,e1,lg1⟩:=q
    cases x with
    | norm=>exact ih h
    | ex id=>exact h
    | ret=>exact h
  | cond c a b =>
   cases c with
   | tmp t =>
    simp only [exec] at h ⊢
    revert h
    cases e.get t with
    | bool v=>intro h;cases v<;>exact ih h
    | _=>intro h;cases h
   | const v =>
    simp only [exec] at h ⊢
    revert h
    cases v with
    | bool v=>intro h;cases v<;>exact ih h
    | _=>intro h;cases h
   | _=>cases h
  | block id b =>
   simp only [exec] at h ⊢
   cases h1:exec P H zHn zVS zGV nt hh m b e lg with
   | none=>rw [h1] at h;cases h
   | some q =>
    rw [h1] at h;rw [ih h1];exact h
  | loop b =>
   simp only [exec] at h ⊢
   cases h1:exec P H zHn zVS zGV nt hh m b (e.drop (hh.loopDrop (zAP b))) lg with
   | none=>rw [h1] at h;cases h
   | some q =>
    rw [h1] at h;rw [ih h1]
    obtain ⟨x,e1,lg1⟩:=q
    cases x with
    | norm=>exact ih h
    | ex id=>exact h
    | ret=>exact h
  | scope b=>exact ih h
  | rangeFunc x ps ca cb =>
   cases x with
   | tmp t =>
    simp only [exec] at h
    cases lg with
    | none =>
     simp only at h
     obtain ⟨q,h1,_⟩:=Option.map_eq_some_iff.1 h
     simp only [zGT] at h1
     split at h1
     ·cases h1
     ·cases h1
    | some _=>cases h
   | _=>cases h
  | skip=>exact h
  | exit id=>exact h
  | ret=>exact h
  | label l=>exact h
  | _=>cases h
end
def cl:Code→Code
 | .seq a _=>a
 | .cond _ a _=>a
 | .block _ b=>b
 | .loop b=>b
 | .scope b=>b
 | c=>c
def cr:Code→Code
 | .seq _ b=>b
 | .cond _ _ b=>b
 | c=>c
def zVh:Code→Bool
 | .seq .. => true
 | _=>false
def zN8:Code→Bool
 | .loop _=>true
 | _=>false
def zQS:Code→Bool
 | .scope _=>true
 | _=>false
def zQi:Code→Option Nat
 | .block n _=>some n
 | _=>none
def zP6:Code→Option Nat
 | .cond (.tmp t) _ _=>some t
 | _=>none
def zTP:Code→Option Nat
 | .exit n=>some n
 | _=>none
def zWD:Code→Bool
 | .ret=>true
 | _=>false
def zT2:Code→Bool
 | .skip=>true
 | _=>false
def zVI:Code→Bool
 | .region .. => true
 | _=>false
def rid:Code→Nat
 | .region n _ _=>n
 | _=>0
def zFj:Code→Array Oper
 | .region _ o _=>o
 | _=>#[]
def zRI:Code→Bool
 | .region _ _ d=>d
 | _=>false
def zDY (c : Code) (i : Nat) : Oper := (zFj c)[i]?.getD { dst := none, op := .move (.const .nilIface), type := 0, pos := "", after := #[], guard := none }
theorem zSq {c:Code} (h:zVh c=true):c = .seq (cl c) (cr c):=by cases c<;>first | rfl | cases h
theorem zMt {c:Code} (h:zN8 c=true):c = .loop (cl c):=by cases c<;>first | rfl | cases h
theorem zPi {c:Code} (h:zQS c=true):c = .scope (cl c):=by cases c<;>first | rfl | cases h
theorem zTk {c:Code} (h:zWD c=true):c = .ret:=by cases c<;>first | rfl | cases h
theorem zRU {c:Code} (h:zT2 c=true):c = .skip:=by cases c<;>first | rfl | cases h
theorem zSJ {c:Code} (h:zVI c=true):c = .region (rid c) (zFj c) (zRI c):=by cases c<;>first | rfl | cases h
theorem zPG {c:Code} {n:Nat} (h:zQi c=some n):c = .block n (cl c):=by cases c<;>first | (cases h;rfl) | cases h
theorem zSb {c:Code} {n:Nat} (h:zTP c=some n):c = .exit n:=by cases c<;>first | (cases h;rfl) | cases h
theorem zPr {c:Code} {t:Nat} (h:zP6 c=some t):c = .cond (.tmp t) (cl c) (cr c):=by
 cases c<;>try (cases h;done)
 rename_i x a b
 cases x<;>first | (cases h;rfl) | cases h
section
variable [Yo] (P:Program) (H:zBf)
def zDp (f:FuncId) (args hid:List PV) (v:PV) (hZ:List PV):Prop:=∃ n0,∀ n,n0≤n→zCR P H n f args hid=some (v,hZ)
def W (f:FuncId) (nt:Nat) (c:Code) (e:Env) (lg:Option Log) (K:X→Env→Option Log→Prop):Prop :=
 ∃ n0 x e' lg',(∀ n m,n0≤n→n0≤m→exec P H (zCR P H n) Yo.yo zB8 nt (H f) m c e lg=some (x,e',lg'))∧K x e' lg'
def zFi (dr:Option (List Nat×List Tok)) (i:Nat) (o:Oper) (t:Tok):Option (Option (List Nat×List Tok)) :=
 match dr with
 | none=>some none
 | some (acc,ts)=>bif o.after.toList.all (fun e => !Region.binds .any e||Nat.blt e.on i)&&zF6 (zHN acc o) t 0 ts then some (some (acc++[zHN acc o],ts++[t])) else none
def zU2 (orc:zAD) (fzs tks:List Nat) (nl:Bool) (ops:Array Oper) (dr:Option (List Nat×List Tok)) (l:List Oper) (i:Nat) (e:Env) (lg:Option Log):Option (Env×Option Log) :=
 match dr with
 | none=>zA6 P H orc fzs tks nl ops l i e lg
 | some (acc,ts)=>zCk P H orc fzs tks nl ops l i acc ts e lg
def WR (f:FuncId) (id:Nat) (ops:Array Oper) (dr:Option (List Nat×List Tok)) (i:Nat) (e:Env) (lg:Option Log) (K:Env→Option Log→Prop):Prop :=
 ∃ n0 eN lg',(∀ n,n0≤n→∃ e',zU2 P H (zCR P H n) ((H f).frzs id) ((H f).take id) (H f).nils ops dr (ops.toList.drop i) i e lg=some (e',lg')∧(e'.drop ((H f).drop id)).norm=eN)∧K eN lg'
end
section
variable [Yo] {P:Program} {H:zBf} {f:FuncId} {nt:Nat} {e e':Env} {lg:Option Log} {K:X→Env→Option Log→Prop}
def zYF (P:Program) (H:zBf) (f:FuncId) (nt:Nat) (b:Code) (K:X→Env→Option Log→Prop):X→Env→Option Log→Prop
 | .norm,e,lg=>W P H f nt b e lg K
 | x,e,lg=>K x e lg
theorem zXZ {a b:Code} (h:W P H f nt a e lg (zYF P H f nt b K)):W P H f nt (.seq a b) e lg K:=by
 obtain ⟨n0,x,e1,lg1,h1,h2⟩:=h
 cases x with
 | norm =>
  obtain ⟨n2,x,e2,lg2,h3,h4⟩:=h2
  refine ⟨max n0 n2+1,x,e2,lg2,fun n m hn hm=>?_,h4⟩
  obtain ⟨m,rfl⟩:∃ k,m=k+1:=⟨m-1,by omega⟩
  simp only [exec,h1 n m (by omega) (by omega),h3 n m (by omega) (by omega)]
 | ex id =>
  refine ⟨n0+1,_,e1,lg1,fun n m hn hm=>?_,h2⟩
  obtain ⟨m,rfl⟩:∃ k,m=k+1:=⟨m-1,by omega⟩
  simp only [exec,h1 n m (by omega) (by omega)]
 | ret =>
  refine ⟨n0+1,_,e1,lg1,fun n m hn hm=>?_,h2⟩
  obtain ⟨m,rfl⟩:∃ k,m=k+1:=⟨m-1,by omega⟩
  simp only [exec,h1 n m (by omega) (by omega)]
theorem zTL (m:Nat) {c:Code} {x:X} {e1:Env} {lg1:Option Log} (h:exec P H zHn zVS zGV nt (H f) m c e lg=some (x,e1,lg1)) (hk:K x e1 lg1):W P H f nt c e lg K :=
 ⟨m,x,e1,lg1,fun _ _ _ hm=>zOo h hm,hk⟩
theorem zT3 {c:Code} {K':X→Env→Option Log→Prop} (h:W P H f nt c e lg K) (hk:∀ x e lg,K x e lg→K' x e lg):W P H f nt c e lg K':=by
 obtain ⟨n0,x,e1,lg1,h1,h2⟩:=h
 exact ⟨n0,x,e1,lg1,h1,hk _ _ _ h2⟩
theorem zYN (h:K .ret e lg):W P H f nt .ret e lg K:=zTL 1 rfl h
theorem zW6 (h:K .norm e lg):W P H f nt .skip e lg K:=zTL 1 rfl h
theorem zWT {id:Nat} (h:K (.ex id) (zVU ((H f).ices id) e) lg):W P H f nt (.exit id) e lg K:=zTL 1 rfl h
theorem zVJ {b:Code} (h:W P H f nt b e lg K):W P H f nt (.scope b) e lg K:=by
 obtain ⟨n0,x,e1,lg1,h1,h2⟩:=h
 refine ⟨n0+1,x,e1,lg1,fun n m hn hm=>?_,h2⟩
 obtain ⟨m,rfl⟩:∃ k,m=k+1:=⟨m-1,by omega⟩
 exact h1 n m (by omega) (by omega)
def Blk (id:Nat) (K:X→Env→Option Log→Prop):X→Env→Option Log→Prop
 | .ex id',e,lg=>bif Nat.beq id' id then K .norm e lg else K (.ex id') e lg
 | x,e,lg=>K x e lg
theorem zUr {id:Nat} {b:Code} (h:W P H f nt b e lg (Blk id K)):W P H f nt (.block id b) e lg K:=by
 obtain ⟨n0,x,e1,lg1,h1,h2⟩:=h
 cases x with
 | ex id' =>
  by_cases hid:id'=id
  ·subst hid
   simp only [Blk,Nat.beq_refl,cond_true] at h2
   refine ⟨n0+1,.norm,e1,lg1,fun n m hn hm=>?_,h2⟩
   obtain ⟨m,rfl⟩:∃ k,m=k+1:=⟨m-1,by omega⟩
   simp only [exec,h1 n m (by omega) (by omega),if_true]
  ·have hb:Nat.beq id' id=false:=by
    cases hc:Nat.beq id' id with
    | false=>rfl
    | true=>exact (hid (Nat.eq_of_beq_eq_true hc)).elim
   simp only [Blk,hb,cond_false] at h2
   refine ⟨n0+1,.ex id',e1,lg1,fun n m hn hm=>?_,h2⟩
   obtain ⟨m,rfl⟩:∃ k,m=k+1:=⟨m-1,by omega⟩
   simp only [exec,h1 n m (by omega) (by omega),if_neg hid]
 | norm =>
  refine ⟨n0+1,_,e1,lg1,fun n m hn hm=>?_,h2⟩
  obtain ⟨m,rfl⟩:∃ k,m=k+1:=⟨m-1,by omega⟩
  simp only [exec,h1 n m (by omega) (by omega)]
 | ret =>
  refine ⟨n0+1,_,e1,lg1,fun n m hn hm=>?_,h2⟩
  obtain ⟨m,rfl⟩:∃ k,m=k+1:=⟨m-1,by omega⟩
  simp only [exec,h1 n m (by omega) (by omega)]
theorem zWM {t:Nat} {a b:Code} {c:Bool} (ht:e.get t = .bool c) (h1:c=true→W P H f nt a e lg K) (h2:c=false→W P H f nt b e lg K):W P H f nt (.cond (.tmp t) a b) e lg K:=by
 cases c with
 | true =>
  obtain ⟨n0,x,e1,lg1,h3,h4⟩:=h1 rfl
  refine ⟨n0+1,_,_,lg1,fun n m hn hm=>?_,h4⟩
  obtain ⟨m,rfl⟩:∃ k,m=k+1:=⟨m-1,by omega⟩
  simp only [exec,ht];exact h3 n m (by omega) (by omega)
 | false =>
  obtain ⟨n0,x,e1,lg1,h3,h4⟩:=h2 rfl
  refine ⟨n0+1,_,_,lg1,fun n m hn hm=>?_,h4⟩
  obtain ⟨m,rfl⟩:∃ k,m=k+1:=⟨m-1,by omega⟩
  simp only [exec,ht];exact h3 n m (by omega) (by omega)
theorem zWz {σ:Type} (Inv:σ→Prop) (I:σ→Env) (μ:σ→Nat) {b:Code} (h:∀ s,Inv s→W P H f nt b (I s) lg fun x e lg'=>match x with
   | .norm=>∃ s',Inv s'∧μ s'<μ s∧e.drop ((H f).loopDrop (zAP b))=I s'∧lg'=lg
   | x=>K x e lg'):∀ (n:Nat) (s:σ) (e:Env),μ s≤n→Inv s→e.drop ((H f).loopDrop (zAP b))=I s→W P H f nt (.loop b) e lg K:=by
 intro n
 induction n with
 | zero =>
  intro s e hs hi he
  obtain ⟨n0,x,e1,lg1,h1,h2⟩:=h s hi
  cases x with
  | norm=>obtain ⟨s',_,h3,_⟩:=h2;omega
  | ex id =>
   refine ⟨n0+1,_,e1,lg1,fun n m hn hm=>?_,h2⟩
   obtain ⟨m,rfl⟩:∃ k,m=k+1:=⟨m-1,by omega⟩
   simp only [exec,he,h1 n m (by omega) (by omega)]
  | ret =>
   refine ⟨n0+1,_,e1,lg1,fun n m hn hm=>?_,h2⟩
   obtain ⟨m,rfl⟩:∃ k,m=k+1:=⟨m-1,by omega⟩
   simp only [exec,he,h1 n m (by omega) (by omega)]
 | succ n ih =>
  intro s e hs hi he
  obtain ⟨n0,x,e1,lg1,h1,h2⟩:=h s hi
  cases x with
  | norm =>
   obtain ⟨s',h3,h4,h7,rfl⟩:=h2
   obtain ⟨n2,x,e2,lg2,h5,h6⟩:=ih s' e1 (by omega) h3 h7
   refine ⟨max n0 n2+1,x,e2,lg2,fun n m hn hm=>?_,h6⟩
   obtain ⟨m,rfl⟩:∃ k,m=k+1:=⟨m-1,by omega⟩
   simp only [exec,he,h1 n m (by omega) (by omega),h5 n m (by omega) (by omega)]
  | ex id =>
   refine ⟨n0+1,_,e1,lg1,fun n m hn hm=>?_,h2⟩
   obtain ⟨m,rfl⟩:∃ k,m=k+1:=⟨m-1,by omega⟩
   simp only [exec,he,h1 n m (by omega) (by omega)]
  | ret =>
   refine ⟨n0+1,_,e1,lg1,fun n m hn hm=>?_,h2⟩
   obtain ⟨m,rfl⟩:∃ k,m=k+1:=⟨m-1,by omega⟩
   simp only [exec,he,h1 n m (by omega) (by omega)]
theorem zAf {c:Code} (h:W P H f nt (cl c) e lg (zYF P H f nt (cr c) K)) (hc:zVh c=true:=by kernel_rfl):W P H f nt c e lg K:=by rw [zSq hc];exact zXZ h
theorem zAm {c:Code} (h:K .ret e lg) (hc:zWD c=true:=by kernel_rfl):W P H f nt c e lg K:=by rw [zTk hc];exact zYN h
theorem zAk {c:Code} (h:K .norm e lg) (hc:zT2 c=true:=by kernel_rfl):W P H f nt c e lg K:=by rw [zRU hc];exact zW6 h
theorem zAA {c:Code} (n:Nat) (h:K (.ex n) (zVU ((H f).ices n) e) lg) (hc:zTP c=some n:=by kernel_rfl):W P H f nt c e lg K:=by rw [zSb hc];exact zWT h
theorem zVd {c:Code} (h:W P H f nt (cl c) e lg K) (hc:zQS c=true:=by kernel_rfl):W P H f nt c e lg K:=by rw [zPi hc];exact zVJ h
theorem zAi {c:Code} (n:Nat) (h:W P H f nt (cl c) e lg (Blk n K)) (hc:zQi c=some n:=by kernel_rfl):W P H f nt c e lg K:=by rw [zPG hc];exact zUr h
def zEw (c:Code) (e:Env):Option Bool :=
 match zP6 c with
 | some t=>match e.get t with
  | .bool b=>some b
  | _=>none
 | none=>none
theorem zDt (b:Bool) {c:Code} (h1:b=true→W P H f nt (cl c) e lg K) (h2:b=false→W P H f nt (cr c) e lg K) (hc:zEw c e=some b:=by kernel_rfl):W P H f nt c e lg K:=by
 simp only [zEw] at hc
 split at hc
 ·rename_i t ht
  rw [zPr ht]
  split at hc
  ·rename_i b' hb
   simp only [Option.some.injEq] at hc;subst hc
   exact zWM hb h1 h2
  ·cases hc
 ·cases hc
theorem zA8 {c:Code} (h:W P H f nt (cl c) e lg K) (hc:zEw c e=some true:=by kernel_rfl):W P H f nt c e lg K:=zDt true (fun _=>h) (fun h=>by cases h) hc
theorem zAw {c:Code} (h:W P H f nt (cr c) e lg K) (hc:zEw c e=some false:=by kernel_rfl):W P H f nt c e lg K:=zDt false (fun h=>by cases h) (fun _=>h) hc
theorem zV4 {σ:Type} {c:Code} (Inv:σ→Prop) (I:σ→Env) (μ:σ→Nat) (s:σ) (hi:Inv s) (h:∀ s,Inv s→W P H f nt (cl c) (I s) lg fun x e lg'=>match x with
   | .norm=>∃ s',Inv s'∧μ s'<μ s∧e.drop ((H f).loopDrop (zAP (cl c)))=I s'∧lg'=lg
   | x=>K x e lg') (hs:e.drop ((H f).loopDrop (zAP (cl c)))=I s:=by kernel_rfl) (hc:zN8 c=true:=by kernel_rfl):W P H f nt c e lg K:=by
 rw [zMt hc];exact zWz Inv I μ h (μ s) s e (Nat.le_refl _) hi hs
def zLG (o:Option Env):Env :=
 match o with
 | some e=>e
 | none=>[]
structure RS where
 dr:Option (List Nat×List Tok)
 e:Env
 lg:Option Log
def noY (lg:Option Log) (e:Env) (o:Oper):Bool :=
 match lg with
 | none=>true
 | some _=>(zCa e o).isNone
def WS (P:Program) (H:zBf) (f:FuncId) (c:Code) (i:Nat) (s:RS) (R:Env→Option Log→Prop):Prop:=WR P H f (rid c) (zFj c) s.dr i s.e s.lg R
def zUT (P:Program) (H:zBf) (f:FuncId) (c:Code) (i:Nat) (s:RS):Option RS :=
 match zEj P H zHn (((H f).frzs (rid c)).contains i) (((H f).take (rid c)).contains i) (H f).nils (zFj c) (zDY c i) s.e s.lg with
 | some (e',lg',t)=>(zFi s.dr i (zDY c i) t).map fun dr=>⟨dr,e',lg'⟩
 | none=>none
def zHW (P:Program) (H:zBf) (f:FuncId) (c:Code):Nat→Nat→RS→Option RS
 | 0,_,s=>some s
 | m+1,i,s=>match zUT P H f c i s with
  | some s'=>zHW P H f c m (i+1) s'
  | none=>none
variable {i:Nat} {c:Code} {s s':RS} {R:Env→Option Log→Prop}
abbrev zWq (P:Program) (H:zBf) (f:FuncId) (c:Code) (i:Nat):PM:=opM P H (((H f).frzs (rid c)).contains i) (((H f).take (rid c)).contains i) (H f).nils (zDY c i)
def zVY (o:Option RS):RS :=
 match o with
 | some s=>s
 | none=>⟨none,[],none⟩
theorem zMP {o:Option RS} (h:o.isSome=true):o=some (zVY o):=by cases o<;>first | rfl | cases h
theorem zAe (h:WS P H f c 0 ⟨bif zRI c then some ([],[]) else none,e,lg⟩ (K .norm)) (hc:zVI c=true:=by kernel_rfl):W P H f nt c e lg K:=by
 obtain ⟨n0,e1,lg1,h1,h2⟩:=h
 rw [zSJ hc]
 refine ⟨n0+1,_,_,lg1,fun n m hn hm=>?_,h2⟩
 obtain ⟨m,rfl⟩:∃ k,m=k+1:=⟨m-1,by omega⟩
 obtain ⟨e2,this,h3⟩:=h1 n (by omega)
 cases hd:zRI c with
 | true=>simp only [hd,cond_true,zU2,List.drop_zero] at this;simp only [exec,this,if_true,h3]
 | false=>simp only [hd,cond_false,zU2,List.drop_zero] at this;simp only [exec,this,← h3];rfl
theorem zW4 (e1:Env) (h:R e1 s.lg) (he:(s.e.drop ((H f).drop (rid c))).norm=e1:=by kernel_rfl) (hi:Nat.ble (zFj c).size i=true:=by kernel_rfl):WS P H f c i s R:=by
 have hi:=Nat.le_of_ble_eq_true hi
 refine ⟨0,e1,s.lg,fun n _=>⟨s.e,?_,he⟩,h⟩
 rw [List.drop_eq_nil_of_le (by simpa using hi)]
 cases s.dr<;>rfl
theorem zAa (h:R ((s.e.drop ((H f).drop (rid c))).norm) s.lg) (hi:Nat.ble (zFj c).size i=true:=by kernel_rfl):WS P H f c i s R:=zW4 _ h rfl hi
theorem zVC (h:Nat.blt i (zFj c).size=true):(zFj c)[i]? = some (zDY c i):=by
 have:i<(zFj c).size:=by simpa using h
 simp [zDY,this]
theorem zQl (h:Nat.blt i (zFj c).size=true):(zFj c).toList.drop i=zDY c i::(zFj c).toList.drop (i+1):=by
 have h1:(zFj c).toList[i]? = some (zDY c i):=by rw [Array.getElem?_toList];exact zVC h
 obtain ⟨h2,h3⟩:=List.getElem?_eq_some_iff.1 h1
 rw [← h3];exact (List.drop_eq_getElem_cons h2)
theorem zJX {orc:zAD} {fz tk nl:Bool} {ops:Array Oper} {o:Oper} {lg':Option Log} {t:Tok} (h:zEj P H orc fz tk nl ops o e lg=some (e',lg',t)):zCI P H orc fz tk nl ops o e lg=some (e',lg'):=by
 simp only [zEj] at h
 simp only [zCI]
 split at h
 ·obtain ⟨a,h1,h2⟩:=Option.map_eq_some_iff.1 h
  cases h2
  rw [zEb h1];rfl
 ·split at h
  ·obtain ⟨a,h1,h2⟩:=Option.map_eq_some_iff.1 h
   cases h2
   rw [h1]
  ·obtain ⟨a,h1,h2⟩:=Option.map_eq_some_iff.1 h
   cases h2
   rw [zEb h1];rfl
theorem zKY {t:Tok} {dr':Option (List Nat×List Tok)} {lg':Option Log} (hi:Nat.blt i (zFj c).size=true) (hT:∃ n0,∀ n,n0≤n→zEj P H (zCR P H n) (((H f).frzs (rid c)).contains i) (((H f).take (rid c)).contains i) (H f).nils (zFj c) (zDY c i) s.e s.lg=some (e',lg',t))
  (hd:zFi s.dr i (zDY c i) t=some dr') (h:WS P H f c (i+1) ⟨dr',e',lg'⟩ R):WS P H f c i s R:=by
 obtain ⟨n0,hT⟩:=hT
 obtain ⟨n2,e2,lg2,h1,h2⟩:=h
 obtain ⟨dr,e,lg⟩:=s
 refine ⟨max n0 n2,e2,lg2,fun n hn=>?_,h2⟩
 have hs:=hT n (by omega)
 obtain ⟨e3,h1,h3⟩:=h1 n (by omega)
 refine ⟨e3,?_,h3⟩
 rw [zQl hi]
 cases dr with
 | none =>
  simp only [zFi,Option.some.injEq] at hd;subst hd
  simp only [zU2] at h1 ⊢
  simp only [zA6,zJX hs];exact h1
 | some d =>
  obtain ⟨acc,ts⟩:=d
  simp only [zFi] at hd
  rcases zBe hd with ⟨hc,hd⟩ | ⟨_,hd⟩
  ·simp only [Option.some.injEq] at hd;subst hd
   simp only [zU2] at h1 ⊢
   simp only [zCk,hs,hc,cond_true];exact h1
  ·cases hd
theorem zQr {orc:zAD} {fz tk nl:Bool} {ops:Array Oper} {o:Oper} {t:Tok} (hy:noY lg e o=true) (h:(zFH P H ops fz tk nl o).runT orc e=some (e',t)):zEj P H orc fz tk nl ops o e lg=some (e',lg,t):=by
 cases lg with
 | none=>simp only [zEj,h];rfl
 | some l =>
  simp only [noY,Option.isNone_iff_eq_none] at hy
  simp only [zEj,hy,h];rfl
theorem zWu {t:Tok} {dr':Option (List Nat×List Tok)} (hi:Nat.blt i (zFj c).size=true) (hT:∃ n0,∀ n,n0≤n→(zFH P H (zFj c) (((H f).frzs (rid c)).contains i) (((H f).take (rid c)).contains i) (H f).nils (zDY c i)).runT (zCR P H n) s.e=some (e',t))
  (hd:zFi s.dr i (zDY c i) t=some dr') (h:WS P H f c (i+1) ⟨dr',e',s.lg⟩ R) (hy:noY s.lg s.e (zDY c i)=true):WS P H f c i s R:=by
 obtain ⟨n0,hT⟩:=hT
 exact zKY hi ⟨n0,fun n hn=>zQr hy (hT n hn)⟩ hd h
theorem zS9 (hi:Nat.blt i (zFj c).size=true) (hs:zUT P H f c i s=some s') (h:WS P H f c (i+1) s' R):WS P H f c i s R:=by
 simp only [zUT] at hs
 split at hs
 ·rename_i e1 lg1 t ht
  obtain ⟨dr,hd,rfl⟩:=Option.map_eq_some_iff.1 hs
  exact zKY hi ⟨0,fun n _=>zMO ht⟩ hd h
 ·cases hs
theorem zMS:∀ (m:Nat) {i:Nat} {s s':RS},Nat.ble (i+m) (zFj c).size=true→zHW P H f c m i s=some s'→WS P H f c (i+m) s' R→WS P H f c i s R
 | 0,i,s,s',_,hs,h=>by simp only [zHW,Option.some.injEq] at hs;subst hs;exact h
 | m + 1,i,s,s',hi,hs,h=>by
  have gB:=Nat.le_of_ble_eq_true hi
  simp only [zHW] at hs
  split at hs
  ·rename_i s1 h1
   refine zS9 (by simp;omega) h1 (zMS m ?_ hs ?_)
   ·rw [show i+1+m=i+(m+1) by omega];exact hi
   ·rw [show i+1+m=i+(m+1) by omega];exact h
  ·cases hs
theorem zAc (m:Nat) (h:WS P H f c (i+m) (zVY (zHW P H f c m i s)) R) (hs:(zHW P H f c m i s).isSome=true:=by kernel_rfl) (hi:Nat.ble (i+m) (zFj c).size=true:=by kernel_rfl):WS P H f c i s R :=
 zMS m hi (zMP hs) h
def zLd (c:Code) (i:Nat) (e:Env):Bool :=
 match (zDY c i).guard with
 | none=>true
 | some (j,want)=>match ((zFj c)[j]?).bind (·.dst) with
  | some t=>match e.get t with
   | .bool b=>b==want
   | _=>false
  | none=>false
theorem zWd {e':Env} (hm:∃ n0,∀ n,n0≤n→(zWq P H f c i).run (zCR P H n) s.e=some e') (h:WS P H f c (i+1) ⟨none,e',s.lg⟩ R) (jj:s.dr=none:=by kernel_rfl) (hy:noY s.lg s.e (zDY c i)=true:=by kernel_rfl) (hg:zLd c i s.e=true:=by kernel_rfl) (hi:Nat.blt i (zFj c).size=true:=by kernel_rfl):WS P H f c i s R:=by
 obtain ⟨n0,hm⟩:=hm
 obtain ⟨n2,e2,lg2,h1,h2⟩:=h
 obtain ⟨dr,e,lg⟩:=s
 simp only at jj hg hm hy;subst jj
 refine ⟨max n0 n2,e2,lg2,fun n hn=>?_,h2⟩
 obtain ⟨e3,h1,h3⟩:=h1 n (by omega)
 refine ⟨e3,?_,h3⟩
 have hr:(zFH P H (zFj c) (((H f).frzs (rid c)).contains i) (((H f).take (rid c)).contains i) (H f).nils (zDY c i)).run (zCR P H n) e=some e':=by
  have hm:=hm n (by omega)
  revert hg
  simp only [zLd]
  cases qa:(zDY c i).guard with
  | none=>intro _;simp only [zFH,qa];exact hm
  | some w =>
   obtain ⟨j,want⟩:=w
   intro hg
   simp only at hg
   cases hj:((zFj c)[j]?).bind (·.dst) with
   | none=>rw [hj] at hg;cases hg
   | some u =>
    rw [hj] at hg;simp only at hg
    cases hv:e.get u<;>rw [hv] at hg<;>try (cases hg;done)
    have hb:=eq_of_beq hg
    simp only [zFH,qa,hj,PM.run,hv,hb,if_true]
    exact hm
 rw [zQl hi]
 simp only [zU2] at h1 ⊢
 have hs:zCI P H (zCR P H n) (((H f).frzs (rid c)).contains i) (((H f).take (rid c)).contains i) (H f).nils (zFj c) (zDY c i) e lg=some (e',lg):=by
  cases lg with
  | none=>simp only [zCI,hr,Option.map_some]
  | some l =>
   simp only [noY,Option.isNone_iff_eq_none] at hy
   simp only [zCI,hy,hr,Option.map_some]
 simp only [zA6,hs];exact h1
end
end Go.Eng
namespace Go.Eng
open Go
section
variable {P:Program} {H:zBf} {f:FuncId} {e e':Env} {i:Nat} {c:Code} {fz tk nl:Bool} {orc:zAD}
def zXf (e:Env):Operand→PV
 | .tmp t=>view t (e.get t)
 | .const v=>zEz v
 | .func f => .func f [] []
 | .global _ => .bad
theorem zPR {α β:Type} {f:β→α→β} {b:β} {l:List α} {i:Nat} (h:i<l.length):(l.take (i+1)).foldl f b=f ((l.take i).foldl f b) l[i]:=by
 rw [List.take_add_one,List.getElem?_eq_getElem h]
 simp only [Option.toList,List.foldl_append,List.foldl]
def two (o:Oper) (r:PV):PM :=
 match o.op with
 | .binOp _ _ x y _=>opd x fun _=>opd y fun _=>put o.dst r
 | .indexAddr _ x y=>opd x fun _=>opd y fun _=>put o.dst r
 | .index _ x y=>opd x fun _=>opd y fun _=>put o.dst r
 | _ => .fail
theorem zWZ {a:Int} (h : -9223372036854775808≤a∧a<9223372036854775808):IntKind.i64.wrap a=a:=by
 rw [IntKind.wrap_i64];omega
end
end Go.Eng
namespace Go.Eng
open Go
section
variable [Yo] {P:Program} {H:zBf} {f:FuncId} {e e':Env} {i:Nat} {c:Code} {s:RS} {R:Env→Option Log→Prop} {fz tk nl:Bool} {orc:zAD}
def zZs (e:Env) (p q:PV) (l:List (Nat×zAS)):Prop:=∀ (orc:zAD) (k:PV→List (Nat×zAS)→PM),(zPh p k).run orc e=(k q l).run orc e
inductive SeenAll (e:Env):List Nat→List PV→List Arg→Prop where
 | nil {ms}:SeenAll e ms [] []
 | ref {ms ps as p}:Nat.beq (ms.headD 0) 1=true→SeenAll e ms.tail ps as→SeenAll e ms (p::ps) ({p:=p,byref:=true}::as)
 | one {ms ps as p q l}:Nat.beq (ms.headD 0) 1=false→zZs e p q l→SeenAll e ms.tail ps as→SeenAll e ms (p::ps) ({p:=q,shared:=l}::as)
theorem zKr {o o':zAD} (ho:∀ g a h r,o g a h=some r→o' g a h=some r):∀ {p:PM} {e e1:Env},p.run o e=some e1→p.run o' e=some e1:=by
 intro p
 induction p with
 | ok=>intro e e1 h;exact h
 | fail=>intro e e1 h;cases h
 | view s k ih=>intro e e1 h;exact ih _ h
 | get s k ih=>intro e e1 h;simp only [PM.run] at h ⊢;split at h<;>first | (cases h;done) | exact ih _ h
 | set s q k ih=>intro e e1 h;exact ih h
 | cells r pre i c n k ih=>intro e e1 h;simp only [PM.run] at h ⊢;split at h<;>first | (cases h;done) | exact ih _ _ h
 | deep r pre k ih=>intro e e1 h;simp only [PM.run] at h ⊢;split at h<;>first | (cases h;done) | exact ih _ h
 | wcells r pre i c qs k ih=>intro e e1 h;simp only [PM.run] at h ⊢;split at h<;>first | (cases h;done) | exact ih h
 | wnode r pre q k ih =>
  intro e e1 h
  simp only [PM.run] at h ⊢
  rcases zBe h with ⟨_,h⟩ | ⟨hl,h⟩
  ·cases h
  ·rw [hl];simp only [cond_false]
   split at h
   ·exact ih h
   ·cases h
 | kill r pre k ih=>intro e e1 h;exact ih h
 | frz r pre k ih=>intro e e1 h;simp only [PM.run] at h ⊢;split at h<;>first | (cases h;done) | exact ih h
 | killEx r pre k ih=>intro e e1 h;exact ih h
 | forget r k ih=>intro e e1 h;exact ih h
 | call f args hid k ih =>
  intro e e1 h
  simp only [PM.run] at h ⊢
  split at h
  ·rename_i v hZ hq
   rw [ho _ _ _ _ hq];exact ih _ _ h
  ·cases h
end
end Go.Eng
namespace Go.Eng
open Go
section
variable [Yo] {P:Program} {H:zBf} {f:FuncId} {e e':Env} {i:Nat} {c:Code} {s:RS} {R:Env→Option Log→Prop} {fz tk nl:Bool} {orc:zAD}
def zSg (c:Code) (i:Nat) (s:RS) (e':Env) (t:Tok):Option RS :=
 bif noY s.lg s.e (zDY c i) then match (match (zDY c i).guard with
  | none=>some t
  | some (j,want)=>match ((zFj c)[j]?).bind (·.dst) with
   | some u=>match s.e.get u with
    | .bool b=>bif b==want then some (Tok.join {rd:=[u]} t) else none
    | _=>none
   | none=>none) with
 | some t=>(zFi s.dr i (zDY c i) t).map fun dr=>⟨dr,e',s.lg⟩
 | none=>none else none
theorem zXT {m:Option (Env×Tok)} (hm:∃ n0,∀ n,n0≤n→(zWq P H f c i).runT (zCR P H n) s.e=m) (h:WS P H f c (i+1) (zVY (m.bind fun r=>zSg c i s r.1 r.2)) R) (hs:(m.bind fun r=>zSg c i s r.1 r.2).isSome=true:=by kernel_rfl) (hi:Nat.blt i (zFj c).size=true:=by kernel_rfl):WS P H f c i s R:=by
 cases m with
 | none=>cases hs
 | some r =>
 obtain ⟨e',t⟩:=r
 have yz:=zMP hs
 revert h
 generalize zVY ((some (e',t)).bind fun r=>zSg c i s r.1 r.2)=s' at yz
 intro h
 obtain ⟨n0,hm⟩:=hm
 simp only [Option.bind_some,zSg] at yz
 rcases zBe yz with ⟨hy,yz⟩ | ⟨_,yz⟩
 case inr=>cases yz
 split at yz
 ·rename_i t' ht
  obtain ⟨dr,hd,rfl⟩:=Option.map_eq_some_iff.1 yz
  refine zWu hi ⟨n0,fun n hn=>?_⟩ hd h hy
  revert ht
  cases hg:(zDY c i).guard with
  | none=>intro ht;simp only [Option.some.injEq] at ht;subst ht;simp only [zFH,hg];exact hm n hn
  | some w =>
   obtain ⟨j,want⟩:=w
   intro ht
   simp only at ht
   cases hj:((zFj c)[j]?).bind (·.dst) with
   | none=>rw [hj] at ht;cases ht
   | some u =>
    rw [hj] at ht;simp only at ht
    cases hv:s.e.get u<;>rw [hv] at ht<;>try (cases ht;done)
    rcases zBe ht with ⟨hb,ht⟩ | ⟨_,ht⟩
    ·have hb:=eq_of_beq hb
     simp only [Option.some.injEq] at ht;subst ht
     simp only [zFH,hg,hj,PM.runT,hv,hb,if_true]
     rw [hm n hn];rfl
    ·cases ht
 ·cases yz
theorem zNC {x:Operand} {p:PV} {k:PV→PM} (hx:zXf e x=p) (hp:p ≠ .bad):(opd x k).run orc e=(k p).run orc e:=by
 subst hx
 cases x with
 | tmp t=>rfl
 | const v=>rfl
 | func g=>rfl
 | global g=>exact (hp rfl).elim
theorem zNc {v:PV} (hh:v.heavy=false):v.cells.all (fun q => !q.heavy)=true:=by
 cases v<;>simp only [PV.cells,List.all_cons,List.all_nil,Bool.and_true,hh,Bool.not_false]
 rename_i cs
 simp only [PV.heavy] at hh
 refine List.all_eq_true.2 fun q hq=>?_
 obtain ⟨i,hi⟩:=List.getElem?_of_mem hq
 rw [zEr hh hi];rfl
theorem zMG:∀ {ps:List PV},ps.all (fun q=>q.ways.isEmpty)=true→zBs ps=[]
 | [],_=>rfl
 | p::ps,h=>by
  simp only [List.all_cons,Bool.and_eq_true,List.isEmpty_iff] at h
  simp only [zBs,h.1,List.nil_append,zMG h.2]
end
end Go.Eng
namespace Go.Eng
open Go
section
variable [Yo] {P:Program} {H:zBf} {f:FuncId} {e e':Env} {i:Nat} {c:Code} {s:RS} {R:Env→Option Log→Prop} {fz tk nl:Bool} {orc:zAD}
theorem zHK {x:Option Env} (h:x.isSome=true):x=some (zLG x):=by cases x<;>first | rfl | cases h
theorem zSt {α:Type} {xs ys:List α} {y:α} {j:Nat} (h:j+(ys.length+1)≤xs.length):(xs.set j y).take (j+1)++ys++(xs.set j y).drop (j+1+ys.length)=xs.take j++(y::ys)++xs.drop (j+(ys.length+1)):=by
 obtain ⟨A, x, B, rfl, rfl⟩ : ∃ A x B, xs = A ++ x :: B ∧ A.length = j := ⟨xs.take j, xs[j]'(by omega), xs.drop (j + 1), by rw [← List.drop_eq_getElem_cons (by omega), List.take_append_drop], by simp; omega⟩
 have h1:(A++x::B).set A.length y=A++y::B:=by simp
 have h2:(A++y::B).take (A.length+1)=A++[y]:=by rw [List.take_append,List.take_of_length_le (by omega)];simp
 have h3:(A++y::B).drop (A.length+1+ys.length)=B.drop ys.length:=by
  rw [List.drop_append,List.drop_eq_nil_of_le (by omega)]
  simp [show A.length+1+ys.length-A.length=ys.length+1 by omega]
 have h4:(A++x::B).drop (A.length+(ys.length+1))=B.drop ys.length:=by
  rw [List.drop_append,List.drop_eq_nil_of_le (by omega)]
  simp
 have h5:(A++x::B).take A.length=A:=by simp
 rw [h1,h2,h3,h4,h5];simp
end
end Go.Eng
namespace Go.Eng
open Go
def Srt (e:Env):Prop:=e.Pairwise (fun a b=>a.1<b.1)∧∀ x∈e,x.2 ≠ .bad
theorem zMY:∀ {e:Env} {k:Nat},(∀ x∈e,k<x.1)→e.get k = .bad
 | [],_,_=>rfl
 | (k',v)::e,k,h=>by
  have h1:k<k':=h (k',v) (by simp)
  have:Nat.beq k' k=false:=by
   cases hb:Nat.beq k' k with
   | false=>rfl
   | true=>have:=Nat.eq_of_beq_eq_true hb;omega
  simp only [Env.get,this,cond_false]
  exact zMY fun x hx=>h x (by simp [hx])
theorem Srt.eq:∀ {e e':Env},Srt e→Srt e'→(∀ s,e.get s=e'.get s)→e=e'
 | [],[],_,_,_=>rfl
 | [],(k,v)::e',_,h2,h=>by
  have:=h k
  simp only [Env.get,Nat.beq_refl,cond_true] at this
  exact (h2.2 (k,v) (by simp) this.symm).elim
 | (k,v)::e,[],h1,_,h=>by
  have:=h k
  simp only [Env.get,Nat.beq_refl,cond_true] at this
  exact (h1.2 (k,v) (by simp) this).elim
 | (k, v)::e,(k',v')::e',h1,h2,h=>by
  obtain ⟨p1,q1⟩:=h1
  obtain ⟨p2,q2⟩:=h2
  obtain ⟨a1,b1⟩:=List.pairwise_cons.1 p1
  obtain ⟨a2,b2⟩:=List.pairwise_cons.1 p2
  have hk:k=k':=by
   rcases Nat.lt_trichotomy k k' with yI | ub | yI
   ·have:=h k
    rw [zMY (e:=(k',v')::e') (k:=k) (fun x hx=>by
     rcases List.mem_cons.1 hx with rfl | hx
     ·exact yI
     ·exact Nat.lt_trans yI (a2 x hx))] at this
    simp only [Env.get,Nat.beq_refl,cond_true] at this
    exact (q1 (k,v) (by simp) this).elim
   ·exact ub
   ·have:=h k'
    rw [zMY (e:=(k,v)::e) (k:=k') (fun x hx=>by
     rcases List.mem_cons.1 hx with rfl | hx
     ·exact yI
     ·exact Nat.lt_trans yI (a1 x hx))] at this
    simp only [Env.get,Nat.beq_refl,cond_true] at this
    exact (q2 (k',v') (by simp) this.symm).elim
  subst hk
  have hv:=h k
  simp only [Env.get,Nat.beq_refl,cond_true] at hv
  subst hv
  congr 1
  refine Srt.eq ⟨b1,fun x hx=>q1 x (by simp [hx])⟩ ⟨b2,fun x hx=>q2 x (by simp [hx])⟩ fun s=>?_
  have hs:=h s
  simp only [Env.get] at hs
  cases hb:Nat.beq k s with
  | false=>rw [hb] at hs;exact hs
  | true =>
   have:=Nat.eq_of_beq_eq_true hb;subst this
   rw [zMY a1,zMY a2]
theorem zKQ:∀ {e:Env} {k:Nat} {v:PV} {x:Nat×PV},x∈e.set k v→x=(k,v)∨x∈e
 | [],k,v,x,h=>by simp only [Env.set,List.mem_singleton] at h;exact .inl h
 | (k',v')::e,k,v,x,h=>by
  simp only [Env.set] at h
  cases hb:Nat.beq k' k with
  | true=>rw [hb] at h;simp only [cond_true,List.mem_cons] at h;rcases h with h | h<;>simp [h]
  | false =>
   rw [hb] at h;simp only [cond_false] at h
   cases hl:Nat.ble k k' with
   | true=>rw [hl] at h;simp only [cond_true,List.mem_cons] at h;rcases h with h | h | h<;>simp [h]
   | false =>
    rw [hl] at h;simp only [cond_false,List.mem_cons] at h
    rcases h with h | h
    ·simp [h]
    ·rcases zKQ h with h | h<;>simp [h]
theorem Srt.set:∀ {e:Env} {k:Nat} {v:PV},Srt e→v ≠ .bad→Srt (e.set k v)
 | [],k,v,_,hv=>⟨by simp [Env.set],by simp [Env.set,hv]⟩
 | (k',v')::e,k,v,h,hv=>by
  obtain ⟨p,q⟩:=h
  obtain ⟨a,b⟩:=List.pairwise_cons.1 p
  refine ⟨?_,fun x hx=>by
   rcases zKQ hx with rfl | hx
   ·exact hv
   ·exact q x hx⟩
  simp only [Env.set]
  cases hb:Nat.beq k' k with
  | true =>
   have:=Nat.eq_of_beq_eq_true hb;subst this
   exact List.pairwise_cons.2 ⟨a,b⟩
  | false =>
   have hI:k'≠k:=by intro h;subst h;rw [Nat.beq_refl] at hb;cases hb
   cases hl:Nat.ble k k' with
   | true =>
    have:=Nat.le_of_ble_eq_true hl
    exact List.pairwise_cons.2 ⟨fun x hx=>by
     rcases List.mem_cons.1 hx with rfl | hx
     ·show k<k';omega
     ·have:k'<x.1:=a x hx
      show k<x.1;omega,p⟩
   | false =>
    have yI:k'<k:=by
     have:¬ k≤k':=fun hh=>by rw [← Nat.ble_eq] at hh;rw [hh] at hl;cases hl
     omega
    refine List.pairwise_cons.2 ⟨fun x hx=>?_,(Srt.set ⟨b,fun x hx=>q x (by simp [hx])⟩ hv).1⟩
    rcases zKQ hx with rfl | hx
    ·exact yI
    ·exact a x hx
theorem Srt.norm:∀ (e:Env),Srt e.norm
 | []=>⟨by simp [Env.norm],by simp [Env.norm]⟩
 | (k,v)::e=>by
  have ih:=Srt.norm e
  simp only [Env.norm,Env.put]
  split
  ·exact ⟨ih.1.filter _,fun x hx=>ih.2 x (List.mem_filter.1 hx).1⟩
  ·rename_i hv;exact ih.set (fun h=>hv h)
theorem zVn {e e':Env} (h:∀ s,e.get s=e'.get s):e.norm=e'.norm:=(Srt.norm e).eq (Srt.norm e') fun s=>by rw [zIl,zIl];exact h s
section
variable [Yo] {P:Program} {H:zBf} {f:FuncId} {i:Nat} {c:Code} {R:Env→Option Log→Prop}
theorem zFl {o:zAD} {fzs tks:List Nat} {nl:Bool} {ops:Array Oper}:∀ {l:List Oper} {i:Nat} {e g:Env} {r:Env×Option Log},g.get=e.get→zA6 P H o fzs tks nl ops l i e none=some r→∃ g1,zA6 P H o fzs tks nl ops l i g none=some (g1,r.2)∧g1.get=r.1.get
 | [],_,e,g,r,he,h=>by simp only [zA6,Option.some.injEq] at h;subst h;exact ⟨g,rfl,he⟩
 | x :: l,i,e,g,r,he,h=>by
  simp only [zA6,zCI] at h ⊢
  cases hs:(zFH P H ops (fzs.contains i) (tks.contains i) nl x).run o e with
  | none=>rw [hs] at h;cases h
  | some e1 =>
   rw [hs] at h
   obtain ⟨g1,h1,h2⟩:=zFt he hs
   rw [h1]
   exact zFl h2 h
theorem zT8 {e e':Env} (h:WS P H f c i ⟨none,e',none⟩ R) (he:∀ s,e.get s=e'.get s):WS P H f c i ⟨none,e,none⟩ R:=by
 obtain ⟨n0,eN,lg',h1,h2⟩:=h
 refine ⟨n0,eN,lg',fun n hn=>?_,h2⟩
 obtain ⟨e1,h3,h4⟩:=h1 n hn
 simp only [zU2] at h3
 obtain ⟨g1,h5,h6⟩:=zFl (funext he) h3
 refine ⟨g1,h5,?_⟩
 rw [← h4]
 refine zVn fun s=>?_
 rw [Env.get_drop,Env.get_drop,h6]
def zT6 (P:Program) (e:Env) (o:Oper):Option (Nat×PV×PV) :=
 match o.op with
 | .call c=>match c.callee,c.args.toList,c.argTypes.toList with
  | .builtin .copy,[x,y],t::_=>match (zBP P t).bind (szT P) with
   | some s=>some (s,zXf e x,zXf e y)
   | none=>none
  | _,_,_=>none
 | _=>none
def zWe (s:Nat) (x y:PV):Prop:=y.plain=true∧y.cells.length=s∧y.heavy=false∧y.cells.all (fun q=>q.ways.isEmpty)=true∧y.cells.length≤x.cells.length∧zAz x 0 y.cells=y
end
end Go.Eng
namespace Go.Eng
open Go
def Le (o o':zAD):Prop:=∀ g a h r,o g a h=some r→o' g a h=some r
theorem zRL {o0 o:zAD} (ho:Le o0 o):∀ {p:PM} {e:Env} {r:Env×Tok},p.runT o0 e=some r→p.runT o e=some r:=by
 intro p
 induction p with
 | ok=>intro e e1 h;exact h
 | fail=>intro e e1 h;cases h
 | view s k ih=>intro e e1 h;exact zAo h fun a h=>ih _ h
 | get s k ih=>intro e e1 h;simp only [PM.runT] at h ⊢;split at h<;>first | (cases h;done) | exact zAo h fun a h=>ih _ h
 | set s q k ih=>intro e e1 h;exact zAo h fun a h=>ih h
 | cells r pre i c n k ih=>intro e e1 h;simp only [PM.runT] at h ⊢;split at h<;>first | (cases h;done) | exact zAo h fun a h=>ih _ _ h
 | deep r pre k ih=>intro e e1 h;simp only [PM.runT] at h ⊢;split at h<;>first | (cases h;done) | exact zAo h fun a h=>ih _ h
 | wcells r pre i c qs k ih=>intro e e1 h;simp only [PM.runT] at h ⊢;split at h<;>first | (cases h;done) | exact zAo h fun a h=>ih h
 | wnode r pre q k ih =>
  intro e e1 h
  simp only [PM.runT] at h ⊢
  rcases zBe h with ⟨_,h⟩ | ⟨hl,h⟩
  ·cases h
  ·rw [hl];simp only [cond_false]
   split at h
   ·exact zAo h fun a h=>ih h
   ·cases h
 | kill r pre k ih=>intro e e1 h;exact zAo h fun a h=>ih h
 | frz r pre k ih=>intro e e1 h;simp only [PM.runT] at h ⊢;split at h<;>first | (cases h;done) | exact zAo h fun a h=>ih h
 | killEx r pre k ih=>intro e e1 h;exact zAo h fun a h=>ih h
 | forget r k ih=>intro e e1 h;exact zAo h fun a h=>ih h
 | call f args hid k ih =>
  intro e e1 h
  simp only [PM.runT] at h ⊢
  split at h
  ·rename_i v hZ hq
   rw [ho _ _ _ _ hq];exact ih _ _ h
  ·cases h
section
variable [Yo] {P:Program} {H:zBf} {o0 o:zAD} (ho:Le o0 o) {fz tk nl:Bool} {fzs tks:List Nat} {ops:Array Oper} {nt:Nat} {hh:FHint} {yo0 yo:zCM} {al:All}
include ho in
theorem zI3 {x:Oper} {h0:Nat} {args:List PV} {l:Log} {e:Env} {r:Env×Option Log} (h:zBJ o0 ops x h0 args l e=some r):zBJ o ops x h0 args l e=some r:=by
 simp only [zBJ] at h ⊢
 split at h
 ·rcases zBe h with ⟨hc,h⟩ | ⟨_,h⟩
  ·rw [hc];simp only [cond_true]
   refine zAo h fun a h=>?_
   rcases zBe h with ⟨hk,h⟩ | ⟨hk,h⟩<;>rw [hk]
   ·exact zKr ho h
   ·exact zKr ho h
  ·cases h
 ·exact zAo h fun a h=>zKr ho h
 ·cases h
include ho in
theorem zTB {x:Oper} {e:Env} {lg:Option Log} {r:Env×Option Log} (h:zCI P H o0 fz tk nl ops x e lg=some r):zCI P H o fz tk nl ops x e lg=some r:=by
 simp only [zCI] at h ⊢
 split at h
 ·exact zAo h fun a h=>zKr ho h
 ·split at h
  ·exact zI3 ho h
  ·exact zAo h fun a h=>zKr ho h
include ho in
theorem zSU {x:Oper} {e:Env} {lg:Option Log} {r:Env×Option Log×Tok} (h:zEj P H o0 fz tk nl ops x e lg=some r):zEj P H o fz tk nl ops x e lg=some r:=by
 simp only [zEj] at h ⊢
 split at h
 ·exact zAo h fun a h=>zRL ho h
 ·split at h
  ·exact zAo h fun a h=>zI3 ho h
  ·exact zAo h fun a h=>zRL ho h
include ho in
theorem zH4:∀ {l:List Oper} {i:Nat} {e:Env} {lg:Option Log} {r:Env×Option Log},zA6 P H o0 fzs tks nl ops l i e lg=some r→zA6 P H o fzs tks nl ops l i e lg=some r
 | [],_,_,_,_,h=>h
 | x::l,i,e,lg,r,h=>by
  simp only [zA6] at h ⊢
  cases hs:zCI P H o0 (fzs.contains i) (tks.contains i) nl ops x e lg with
  | none=>rw [hs] at h;cases h
  | some q=>rw [hs] at h;rw [zTB ho hs];exact zH4 h
include ho in
theorem zKk:∀ {l:List Oper} {i:Nat} {acc:List Nat} {ts:List Tok} {e:Env} {lg:Option Log} {r:Env×Option Log},zCk P H o0 fzs tks nl ops l i acc ts e lg=some r→zCk P H o fzs tks nl ops l i acc ts e lg=some r
 | [],_,_,_,_,_,_,h=>h
 | x :: l,i,acc,ts,e,lg,r,h=>by
  simp only [zCk] at h ⊢
  cases hs:zEj P H o0 (fzs.contains i) (tks.contains i) nl ops x e lg with
  | none=>rw [hs] at h;cases h
  | some q =>
   rw [hs] at h;rw [zSU ho hs]
   simp only at h ⊢
   rcases zBe h with ⟨hc,h⟩ | ⟨_,h⟩
   ·rw [hc];exact zKk h
   ·cases h
include ho in
theorem zP7:∀ {m:Nat} {c:Code} {e:Env} {lg:Option Log} {r:X×Env×Option Log},exec P H o0 yo0 zGV nt hh m c e lg=some r→∀ {m':Nat},m≤m'→exec P H o yo al nt hh m' c e lg=some r
 | 0,_,_,_,_,h,_,_=>by cases h
 | m + 1,c,e,lg,r,h,m',hm=>by
  obtain ⟨m',rfl⟩:∃ k,m'=k+1:=⟨m'-1,by omega⟩
  have ih:∀ {c:Code} {e:Env} {lg:Option Log} {r:X×Env×Option Log},exec P H o0 yo0 zGV nt hh m c e lg=some r→exec P H o yo al nt hh m' c e lg=some r:=fun h=>zP7 h (by omega)
  cases c with
  | region id ops draw =>
   simp only [exec] at h ⊢
   split at h
   ·rename_i e1 lg1 h1
    have:(if draw=true then zCk P H o (hh.frzs id) (hh.take id) hh.nils ops ops.toList 0 [] [] e lg else zA6 P H o (hh.frzs id) (hh.take id) hh.nils ops ops.toList 0 e lg)=some (e1,lg1):=by
     cases draw with
     | true=>exact zKk ho h1
     | false=>exact zH4 ho h1
    rw [this];exact h
   ·cases h
  | seq a b =>
   simp only [exec] at h ⊢
   cases h1:exec P H o0 yo0 zGV nt hh m a e lg with
   | none=>rw [h1] at h;cases h
   | some q =>
    rw [h1] at h;rw [ih h1]
    obtain ⟨x,e1,lg1⟩:=q
    cases x with
    | norm=>exact ih h
    | ex id=>exact h
    | ret=>exact h
  | cond c a b =>
   cases c with
   | tmp t =>
    simp only [exec] at h ⊢
    revert h
    cases e.get t with
    | bool v=>intro h;cases v<;>exact ih h
    | _=>intro h;cases h
   | const v =>
    simp only [exec] at h ⊢
    revert h
    cases v with
    | bool v=>intro h;cases v<;>exact ih h
    | _=>intro h;cases h
   | _=>cases h
  | block id b =>
   simp only [exec] at h ⊢
   cases h1:exec P H o0 yo0 zGV nt hh m b e lg with
   | none=>rw [h1] at h;cases h
   | some q =>
    rw [h1] at h;rw [ih h1];exact h
  | loop b =>
   simp only [exec] at h ⊢
   cases h1:exec P H o0 yo0 zGV nt hh m b (e.drop (hh.loopDrop (zAP b))) lg with
   | none=>rw [h1] at h;cases h
   | some q =>
    rw [h1] at h;rw [ih h1]
    obtain ⟨x,e1,lg1⟩:=q
    cases x with
    | norm=>exact ih h
    | ex id=>exact h
    | ret=>exact h
  | scope b=>exact ih h
  | rangeFunc x ps ca cb =>
   cases x with
   | tmp t =>
    simp only [exec] at h
    cases lg with
    | none =>
     simp only at h
     obtain ⟨q,h1,_⟩:=Option.map_eq_some_iff.1 h
     simp only [zGT] at h1
     split at h1
     ·cases h1
     ·cases h1
    | some _=>cases h
   | _=>cases h
  | skip=>exact h
  | exit id=>exact h
  | ret=>exact h
  | label l=>exact h
  | _=>cases h
end
section
variable [Yo] {P:Program} {H:zBf}
theorem zSS {o0 o:zAD} (ho:Le o0 o) {yo0 yo:zCM} {al:All} {n n':Nat} (hn:n≤n') {f:FuncId} {args hid:List PV} {r:PV×List PV} (h:zJK P H o0 yo0 zGV n f args hid=some r):zJK P H o yo al n' f args hid=some r:=by
 simp only [zJK] at h ⊢
 cases hf:P.funcs[f]? with
 | none=>rw [hf] at h;cases h
 | some fn =>
  rw [hf] at h
  simp only at h ⊢
  by_cases hi:(H f).intr≠0
  ·rw [if_pos hi] at h ⊢;exact h
  ·rw [if_neg hi] at h ⊢
   cases hb:fn.body with
   | none=>rw [hb] at h;cases h
   | some body =>
    rw [hb] at h
    simp only [zJA] at h ⊢
    rcases zBe h with ⟨hc,h⟩ | ⟨_,h⟩
    ·rw [hc];simp only [cond_true]
     cases hx:exec P H o0 yo0 zGV fn.ntmps (H f) n body (zA4 args hid) none with
     | none=>rw [hx] at h;cases h
     | some q =>
      rw [hx] at h;rw [zP7 ho hx hn]
      obtain ⟨x,e1,lg⟩:=q
      cases x<;>cases lg<;>simp only at h ⊢ <;> try (cases h;done)
      all_goals
       cases hr:(zCE P (H f).frz 0 fn.results.toList).run o0 e1 with
       | none=>rw [hr] at h;cases h
       | some e2=>rw [hr] at h;rw [zKr ho hr];exact h
    ·cases h
abbrev zW7 (P:Program) (H:zBf) (n:Nat):zAD:=(zR7 P H zGV n).1
theorem zOy:∀ (n n':Nat),n≤n'→Le (zW7 P H n) (zCR P H n')
 | 0,_,_=>fun g a h r hh=>by cases hh
 | n+1,n',hn=>by
  obtain ⟨k,rfl⟩:∃ k,n'=k+1:=⟨n'-1,by omega⟩
  intro g a h r hh
  exact zSS (zOy n k (by omega)) (by omega) hh
theorem zDp.closed {f:FuncId} {args hid hZ:List PV} {v:PV} (n:Nat) (h:zW7 P H n f args hid=some (v,hZ):=by kernel_rfl):zDp P H f args hid v hZ:=⟨n,fun n' hn=>zOy n n' hn _ _ _ _ h⟩
end
end Go.Eng
namespace Go.Eng
open Go
section
variable {P:Program} {H:zBf}
theorem zQQ (zE4:P.follows .mixedOrders=true) (hnm:zEK P) (zMr:Fit P H) (hin:zEA P H) {f:FuncId} {args:List PV} (hg:@zDp (yo1 P H) P H f args [] (.bool true) []) {w:World} {Φ:Nat→Prop} {vs:Array Value} (hΦ:∀ b,Φ b→b<w.heap.size) (hr:zAX w Φ zB6 args vs.toList []) (uY:args.length≤zAn) :
  Calls P f vs w fun e w'=>e = .returned (.bool true)∧w.heap.size≤w'.heap.size∧(∀ b,b<w.heap.size→w'.heap[b]? = w.heap[b]?)∧w'.os=w.os∧w'.tape=w.tape∧w'.output=w.output:=by
 have wV:zAb=1000000000:=rfl
 have hhh:zAn=50000000:=rfl
 obtain ⟨n0,hg⟩:=hg
 obtain ⟨_,hm⟩:=@zEY P H (yo1 P H) zE4 hnm zMr hin (zPM zE4 hnm zMr hin) n0 f args [] (.bool true) [] (hg n0 (Nat.le_refl _))
 obtain ⟨hX,jB⟩:=zKT hr
 have hvz:vs.size=args.length:=by rw [← hX];simp
 have p2:Conf w (fun b=>∃ s,b∈((fun _=>[]):Nat→List Nat) s) Φ w Φ (fun s=>(vs[s]?).getD undef) (fun s=>(zA4 args []).get s) (fun _=>[]):=by
  refine ⟨fun s=>?_,fun _=>List.nodup_nil,fun _ _ _ _ h=>(by cases h),fun _ _ h=>(by cases h),fun b hb=>⟨hΦ b hb,.inl hb⟩,fun _ h=>h,Nat.le_refl _,fun _ _ _=>rfl,rfl,rfl,rfl⟩
  show Rep _ _ _ ((zA4 args []).get s) _ _
  rw [zDj (by omega)]
  by_cases h1:s<args.length
  ·rw [if_pos h1]
   obtain ⟨v,uw,kg⟩:=jB s args[s] (List.getElem?_eq_getElem h1)
   have:vs[s]? = some v:=by rw [← Array.getElem?_toList];exact uw
   rw [this]
   simp only [List.getD,List.getElem?_eq_getElem h1,Option.getD_some]
   exact kg.mono (fun b hb=>⟨hb,rfl⟩) (fun _ _ _ h=>h.elim) (by simp)
  ·rw [if_neg h1,if_neg (by simp only [List.length_nil];omega)]
   rfl
 have hc:=hm w Φ (fun s=>(vs[s]?).getD undef) (fun s=>(zA4 args []).get s) (fun _=>[]) vs (fun _ _=>rfl) (fun s hs=>by
   rw [zDj (by omega),if_neg (by omega),if_neg (by simp only [List.length_nil];omega)]) p2 hvz (fun j hj=>by rw [Array.getElem?_eq_getElem (by omega)];rfl) (fun s hs _=>by rw [Array.getElem?_eq_none (by omega)];rfl)
 refine hc.mono fun e w' ⟨u,Φ',rv',E',L',he,C,_,_,vC⟩=>?_
 obtain ⟨h1,h2⟩:=vC.one (fun ps h=>by cases h)
 have hO:=C.rep zAx
 rw [h1] at hO
 have hu:u = .bool true:=by rw [← h2];exact hO.1
 refine ⟨by rw [he,hu],C.size,fun b hb=>C.kept b hb (fun ⟨s,hs⟩=>by cases hs),C.os,C.tape,C.output⟩
end
end Go.Eng
namespace Go.Eng
open Go
section
variable [Yo] {P:Program} {H:zBf} {f:FuncId} {nt:Nat} {e e':Env} {lg:Option Log} {K:X→Env→Option Log→Prop} {i:Nat} {c:Code} {s:RS} {R:Env→Option Log→Prop} {fz tk nl:Bool} {orc:zAD}
theorem zCd (p:Prop) [Decidable p] (h1:p→W P H f nt (cl c) e lg K) (h2:¬p→W P H f nt (cr c) e lg K) (hc:zEw c e=some (decide p):=by kernel_rfl):W P H f nt c e lg K :=
 zDt (decide p) (fun h=>h1 (of_decide_eq_true h)) (fun h=>h2 (of_decide_eq_false h)) hc
theorem zAI (p:Prop) [Decidable p] (hp:p) (h1:W P H f nt (cl c) e lg K) (hc:zEw c e=some (decide p):=by kernel_rfl):W P H f nt c e lg K :=
 zDt (decide p) (fun _=>h1) (fun h=>absurd hp (of_decide_eq_false h)) hc
theorem zAQ (p:Prop) [Decidable p] (hp:¬p) (h2:W P H f nt (cr c) e lg K) (hc:zEw c e=some (decide p):=by kernel_rfl):W P H f nt c e lg K :=
 zDt (decide p) (fun h=>absurd (of_decide_eq_true h) hp) (fun _=>h2) hc
theorem zDc (p:Prop) [Decidable p] (h1:¬p→W P H f nt (cl c) e lg K) (h2:p→W P H f nt (cr c) e lg K) (hc:zEw c e=some (!decide p):=by kernel_rfl):W P H f nt c e lg K :=
 zDt (!decide p) (fun h=>h1 (by simpa using h)) (fun h=>h2 (by simpa using h)) hc
theorem zEy (p:Prop) [Decidable p] (hp:¬p) (h1:W P H f nt (cl c) e lg K) (hc:zEw c e=some (!decide p):=by kernel_rfl):W P H f nt c e lg K :=
 zDc p (fun _=>h1) (fun h=>absurd h hp) hc
theorem zFL (p:Prop) [Decidable p] (hp:p) (h1:W P H f nt (cr c) e lg K) (hc:zEw c e=some (!decide p):=by kernel_rfl):W P H f nt c e lg K :=
 zDc p (fun h=>absurd hp h) (fun _=>h1) hc
theorem zCn (t:Nat) (b:Bool) (h1:b=true→WS P H f c i ⟨s.dr,s.e.set t (.bool true),s.lg⟩ R) (h2:b=false→WS P H f c i ⟨s.dr,s.e.set t (.bool false),s.lg⟩ R) (hb:s.e.set t (.bool b)=s.e:=by kernel_rfl):WS P H f c i s R:=by
 obtain ⟨dr,e,lg⟩:=s
 simp only at h1 h2 hb
 rw [← hb]
 cases b with
 | true=>exact h1 rfl
 | false=>exact h2 rfl
theorem zD5 (t:Nat) (p:Prop) [Decidable p] (h1:p→WS P H f c i ⟨s.dr,s.e.set t (.bool true),s.lg⟩ R) (h2:¬p→WS P H f c i ⟨s.dr,s.e.set t (.bool false),s.lg⟩ R) (hb:s.e.set t (.bool (decide p))=s.e:=by kernel_rfl):WS P H f c i s R :=
 zCn t (decide p) (fun h=>h1 (of_decide_eq_true h)) (fun h=>h2 (of_decide_eq_false h)) hb
theorem zBL (t:Nat) (p:Prop) [Decidable p] (hp:p) (h1:WS P H f c i ⟨s.dr,s.e.set t (.bool true),s.lg⟩ R) (hb:s.e.set t (.bool (decide p))=s.e:=by kernel_rfl):WS P H f c i s R :=
 zD5 t p (fun _=>h1) (fun h=>absurd hp h) hb
theorem zG0 (t:Nat) (p:Prop) [Decidable p] (hp:¬p) (h1:WS P H f c i ⟨s.dr,s.e.set t (.bool false),s.lg⟩ R) (hb:s.e.set t (.bool (decide p))=s.e:=by kernel_rfl):WS P H f c i s R :=
 zD5 t p (fun h=>absurd h hp) (fun _=>h1) hb
theorem zMB (t:Nat) (p:Prop) [Decidable p] (h1:¬p→WS P H f c i ⟨s.dr,s.e.set t (.bool true),s.lg⟩ R) (h2:p→WS P H f c i ⟨s.dr,s.e.set t (.bool false),s.lg⟩ R) (hb:s.e.set t (.bool (!decide p))=s.e:=by kernel_rfl):WS P H f c i s R :=
 zCn t (!decide p) (fun h=>h1 (by simpa using h)) (fun h=>h2 (by simpa using h)) hb
theorem zQK (t:Nat) (p:Prop) [Decidable p] (hp:p) (h1:WS P H f c i ⟨s.dr,s.e.set t (.bool false),s.lg⟩ R) (hb:s.e.set t (.bool (!decide p))=s.e:=by kernel_rfl):WS P H f c i s R :=
 zMB t p (fun h=>absurd hp h) (fun _=>h1) hb
theorem get_map {α β:Type} {g:α→β} {l:List α} {i:Nat} {d:α} (h:i<l.length):(l.map g)[i]? = some (g (l.getD i d)):=by
 simp [List.getD,List.getElem?_eq_getElem h]
def zXX (e:Env) (p q:PV) (l:List (Nat×zAS)) (t:Tok):Prop:=∀ (orc:zAD) (k:PV→List (Nat×zAS)→PM),(zPh p k).runT orc e=((k q l).runT orc e).map fun y=>(y.1,Tok.join t y.2)
inductive SeenAllT (e:Env):List Nat→List PV→List Arg→List Tok→Prop where
 | nil {ms}:SeenAllT e ms [] [] []
 | ref {ms ps as ts p}:SeenAllT e ms.tail ps as ts→(hb:Nat.beq (ms.headD 0) 1=true:=by kernel_rfl)→SeenAllT e ms (p::ps) ({p:=p,byref:=true}::as) ts
 | one {ms ps as ts p q l t}:zXX e p q l t→SeenAllT e ms.tail ps as ts→(hb:Nat.beq (ms.headD 0) 1=false:=by kernel_rfl)→SeenAllT e ms (p::ps) ({p:=q,shared:=l}::as) (t::ts)
def zM0:List (Nat×PV)→Env→Env
 | [],e=>e
 | (k,v)::l,e=>zM0 l (e.set k v)
theorem zAq {σ:Type} {c:Code} (Inv:σ→Prop) (upd:σ→List (Nat×PV)) (μ:σ→Nat) (s:σ) (hi:Inv s) (h:∀ s,Inv s→W P H f nt (cl c) (zM0 (upd s) (e.drop ((H f).loopDrop (zAP (cl c))))) lg fun x e' lg'=>match x with
   | .norm=>∃ s',Inv s'∧μ s'<μ s∧e'.drop ((H f).loopDrop (zAP (cl c)))=zM0 (upd s') (e.drop ((H f).loopDrop (zAP (cl c))))∧lg'=lg
   | x=>K x e' lg') (hs:e.drop ((H f).loopDrop (zAP (cl c)))=zM0 (upd s) (e.drop ((H f).loopDrop (zAP (cl c)))):=by kernel_rfl) (hc:zN8 c=true:=by kernel_rfl):W P H f nt c e lg K :=
 zV4 Inv (fun s=>zM0 (upd s) (e.drop ((H f).loopDrop (zAP (cl c))))) μ s hi h hs hc
end
end Go.Eng
namespace Go.Eng
open Go
theorem zIX {x:Nat→Option (List (List PV))} {r:List (List PV)} (h:∀ i,x i=some r):zB8 x=some r:=by
 have h':∃ r,∀ i,x i=some r:=⟨r,h⟩
 simp only [zB8,dif_pos h']
 have:=(Classical.choose_spec h') 0
 rw [h 0] at this
 exact this.symm
section
def zSB [Yo] (g:FuncId) (first caps:List PV) (k:Int) (xs:List (List PV)):Prop:=∀ i,Yo.yo g first i caps k=some xs
def zFX [Yo] (g:FuncId) (first caps:List PV) (xs:List (List PV)):Prop:=zSB g first caps (-1) xs∧∀ j:Nat,1≤j→j≤xs.length→zSB g first caps j (xs.take j)
variable [Yo] (P:Program) (H:zBf)
def zKN (f:FuncId) (nt:Nat) (ps:List Tmp) (assign body:Code) (x:List PV) (e:Env) (K:X→Env→Prop):Prop :=
 ∃ e1,zCm ps x e=some e1∧W P H f nt assign e1 none fun y e2 lg=>y = .norm∧lg=none∧W P H f nt body e2 none fun y e3 lg=>lg=none∧K y e3
def Rg (f:FuncId) (nt:Nat) (ps:List Tmp) (assign body:Code) (R ds:List Nat) (K:X→Env→Option Log→Prop):List (List PV)→Env→Prop
 | [],e=>K .norm e none
 | x :: xs,e=>zKN P H f nt ps assign body x e fun y e3=>match y with
  | .norm=>match R with
   | []=>Rg f nt ps assign body R ds K xs (after nt [] ds e e3)
   | r::R'=>zF2 e (zCO e (r::R'))=true∧∃ e1,zEl (zCO e (r::R')) e=some e1∧zKN P H f nt ps assign body x e1 fun y e3=>y = .norm∧Rg f nt ps assign body R ds K xs (after nt (zCO e (r::R')) ds e e3)
  | y=>K y (after nt [] ds e e3) none
end
section
variable [Yo] {P:Program} {H:zBf} {f:FuncId} {nt:Nat} {e e':Env} {lg:Option Log} {K:X→Env→Option Log→Prop}
noncomputable abbrev zNh (P:Program) (H:zBf) (f:FuncId) (nt n m:Nat):Code→Env→Option (X×Env):=fun c e=>match exec P H (zCR P H n) Yo.yo zB8 nt (H f) m c e none with | some (x,e',none)=>some (x,e') | _=>none
def zOV (run:Code→Env→Option (X×Env)) (ps:List Tmp) (assign body:Code) (x:List PV) (e:Env):Option (X×Env):=match zCm ps x e with
 | some e1=>match run assign e1 with
  | some (.norm,e2)=>run body e2
  | _=>none
 | none=>none
theorem zBH {run:Code→Env→Option (X×Env)} {ps:List Tmp} {assign body:Code} {R ds:List Nat} {x:List PV} {xs:List (List PV)} {j:Nat}:zC4 nt run ps assign body R ds (x::xs) e j=(match zOV run ps assign body x e with
  | some (.norm,e3)=>match R with
   | []=>zC4 nt run ps assign body R ds xs (after nt [] ds e e3) (j+1)
   | r :: R=>match (bif zF2 e (zCO e (r::R)) then zEl (zCO e (r::R)) e else none) with
    | some e1=>match zOV run ps assign body x e1 with
     | some (.norm,e3)=>zC4 nt run ps assign body (r::R) ds xs (after nt (zCO e (r::R)) ds e e3) (j+1)
     | _=>none
    | none=>none
  | some (r,e3)=>some (some (j+1,r),after nt [] ds e e3)
  | none=>none):=by
 cases R<;>rfl
theorem zKN.run {ps:List Tmp} {assign body:Code} {x:List PV} {K:X→Env→Prop} (h:zKN P H f nt ps assign body x e K):∃ n0 y e3,(∀ n m,n0≤n→n0≤m→zOV (zNh P H f nt n m) ps assign body x e=some (y,e3))∧K y e3:=by
 obtain ⟨e1,h1,n1,y,e2,lg,h2,rfl,rfl,n2,z,e3,lg,h3,rfl,h4⟩:=h
 refine ⟨max n1 n2,z,e3,fun n m hn hm=>?_,h4⟩
 simp only [zOV,h1,zNh,h2 n m (by omega) (by omega),h3 n m (by omega) (by omega)]
theorem Rg.run {ps:List Tmp} {assign body:Code} {R ds:List Nat}:∀ {xs:List (List PV)} {e:Env},Rg P H f nt ps assign body R ds K xs e→∃ n0,
  (∃ e',(∀ n m j,n0≤n→n0≤m→zC4 nt (zNh P H f nt n m) ps assign body R ds xs e j=some (none,e'))∧K .norm e' none) ∨
  (∃ i y e',i<xs.length∧y ≠ .norm∧(∀ n m j,n0≤n→n0≤m→zC4 nt (zNh P H f nt n m) ps assign body R ds xs e j=some (some (j+i+1,y),e')) ∧
   (∀ n m j,n0≤n→n0≤m→zC4 nt (zNh P H f nt n m) ps assign body R ds (xs.take (i+1)) e j=some (some (j+i+1,y),e'))∧K y e' none)
 | [],e,h=>⟨0,.inl ⟨e,fun _ _ _ _ _=>rfl,h⟩⟩
 | x :: xs,e,h=>by
  obtain ⟨n1,y,e3,h1,h2⟩:=zKN.run h
  cases y with
  | norm =>
   cases R with
   | nil =>
    simp only at h2
    obtain ⟨n2,h3⟩:=Rg.run h2
    refine ⟨max n1 n2,?_⟩
    rcases h3 with ⟨e',h3,h4⟩ | ⟨i,y,e',hi,hy,h3,h4,h5⟩
    ·exact .inl ⟨e',fun n m j hn hm=>by rw [zBH,h1 n m (by omega) (by omega)];exact h3 n m _ (by omega) (by omega),h4⟩
    ·refine .inr ⟨i+1,y,e',by simp;omega,hy,fun n m j hn hm=>?_,fun n m j hn hm=>?_,h5⟩
     ·rw [zBH,h1 n m (by omega) (by omega)];simp only;rw [h3 n m _ (by omega) (by omega)];simp only [Option.some.injEq,Prod.mk.injEq,and_true];omega
     ·rw [List.take_succ_cons,zBH,h1 n m (by omega) (by omega)];simp only;rw [h4 n m _ (by omega) (by omega)];simp only [Option.some.injEq,Prod.mk.injEq,and_true];omega
   | cons r R' =>
    simp only at h2
    obtain ⟨hc,e1,hf,hr⟩:=h2
    obtain ⟨n3,z,e4,h6,rfl,h7⟩:=zKN.run hr
    obtain ⟨n2,h3⟩:=Rg.run h7
    refine ⟨max n1 (max n2 n3),?_⟩
    rcases h3 with ⟨e',h3,h4⟩ | ⟨i,y,e',hi,hy,h3,h4,h5⟩
    ·exact .inl ⟨e',fun n m j hn hm=>by rw [zBH,h1 n m (by omega) (by omega)];simp only [hc,cond_true,hf,h6 n m (by omega) (by omega)];exact h3 n m _ (by omega) (by omega),h4⟩
    ·refine .inr ⟨i+1,y,e',by simp;omega,hy,fun n m j hn hm=>?_,fun n m j hn hm=>?_,h5⟩
     ·rw [zBH,h1 n m (by omega) (by omega)];simp only [hc,cond_true,hf,h6 n m (by omega) (by omega)];rw [h3 n m _ (by omega) (by omega)];simp only [Option.some.injEq,Prod.mk.injEq,and_true];omega
     ·rw [List.take_succ_cons,zBH,h1 n m (by omega) (by omega)];simp only [hc,cond_true,hf,h6 n m (by omega) (by omega)];rw [h4 n m _ (by omega) (by omega)];simp only [Option.some.injEq,Prod.mk.injEq,and_true];omega
  | ex id =>
   refine ⟨n1,.inr ⟨0,.ex id,_,by simp,by simp,fun n m j hn hm=>?_,fun n m j hn hm=>?_,h2⟩⟩
   ·rw [zBH,h1 n m (by omega) (by omega)]
   ·rw [List.take_succ_cons,zBH,h1 n m (by omega) (by omega)]
  | ret =>
   refine ⟨n1,.inr ⟨0,.ret,_,by simp,by simp,fun n m j hn hm=>?_,fun n m j hn hm=>?_,h2⟩⟩
   ·rw [zBH,h1 n m (by omega) (by omega)]
   ·rw [List.take_succ_cons,zBH,h1 n m (by omega) (by omega)]
def rgT:Code→Option Nat
 | .rangeFunc (.tmp t) _ _ _=>some t
 | _=>none
def zWf:Code→List Tmp
 | .rangeFunc _ ps _ _=>ps.toList
 | _=>[]
def rgA:Code→Code
 | .rangeFunc _ _ a _=>a
 | c=>c
def rgB:Code→Code
 | .rangeFunc _ _ _ b=>b
 | c=>c
def zVQ (c:Code):List Nat:=zWf c++zBI (rgA c)++zBI (rgB c)
theorem zUC {t:Tmp} {ps:Array Tmp} {assign body:Code} {g:FuncId} {first caps:List PV} {R:List Nat} {xs:List (List PV)} (yO:zDO e t=some (g,first,caps,R)) (hY:zFX g first caps xs)
  (h:Rg P H f nt ps.toList assign body R (ps.toList++zBI assign++zBI body) K xs e):W P H f nt (.rangeFunc (.tmp t) ps assign body) e none K:=by
 obtain ⟨hY1,hY2⟩:=hY
 obtain ⟨n2,hr⟩:=Rg.run h
 rcases hr with ⟨e',h3,h4⟩ | ⟨i,y,e',hi,hy,h3,h4,h5⟩
 ·refine ⟨n2+1,.norm,e',none,fun n m hn hm=>?_,h4⟩
  obtain ⟨m,rfl⟩:∃ k,m=k+1:=⟨m-1,by omega⟩
  show (zGT nt Yo.yo zB8 (zNh P H f nt n m) t ps.toList assign body e).map (fun x=>(x.1,x.2,none))=_
  simp only [zGT,yO,zIX (fun i=>hY1 i),h3 n m 0 (by omega) (by omega),Option.map_some]
 ·have hY2:=hY2 (i+1) (by omega) (by omega)
  refine ⟨n2+1,y,e',none,fun n m hn hm=>?_,h5⟩
  obtain ⟨m,rfl⟩:∃ k,m=k+1:=⟨m-1,by omega⟩
  show (zGT nt Yo.yo zB8 (zNh P H f nt n m) t ps.toList assign body e).map (fun x=>(x.1,x.2,none))=_
  simp only [zGT,yO,zIX (fun i=>hY1 i),h3 n m 0 (by omega) (by omega)]
  have hcast:((0+i+1:Nat):Int)=((i+1:Nat):Int):=by omega
  rw [hcast,zIX (fun i=>hY2 i)]
  simp only [h4 n m 0 (by omega) (by omega),List.length_take]
  rw [if_pos ⟨trivial,by omega⟩]
  rfl
theorem zQo {c:Code} {t g:Nat} {first caps:List PV} {R:List Nat} {xs:List (List PV)} (hY:zFX g first caps xs) (h:Rg P H f nt (zWf c) (rgA c) (rgB c) R (zVQ c) K xs e) (yO:zDO e t=some (g,first,caps,R):=by kernel_rfl) (hc:rgT c=some t:=by kernel_rfl) (hl:lg=none:=by kernel_rfl):W P H f nt c e lg K:=by
 subst hl
 cases c<;>try (cases hc;done)
 rename_i x ps a b
 cases x<;>try (cases hc;done)
 rename_i u
 simp only [rgT,Option.some.injEq] at hc;subst hc
 exact zUC yO hY h
theorem zU8 {σ:Type} {c:Code} {t g:Nat} {first caps:List PV} {xs:List (List PV)} (hY:zFX g first caps xs) (Inv:Nat→σ→Prop) (I:σ→Env) (s:σ) (hi:Inv 0 s)
  (h:∀ j x s,xs[j]? = some x→Inv j s→zKN P H f nt (zWf c) (rgA c) (rgB c) x (I s) fun y e3=>match y with
   | .norm=>∃ s',Inv (j+1) s'∧after nt [] (zVQ c) (I s) e3=I s'
   | y=>K y (after nt [] (zVQ c) (I s) e3) none) (hK:∀ s,Inv xs.length s→K .norm (I s) none) (hs:e=I s:=by kernel_rfl) (yO:zDO e t=some (g,first,caps,[]):=by kernel_rfl) (hc:rgT c=some t:=by kernel_rfl) (hl:lg=none:=by kernel_rfl):W P H f nt c e lg K:=by
 refine zQo hY ?_ yO hc hl
 clear yO hY
 subst hs
 have key:∀ (ys:List (List PV)) (j:Nat) (s:σ),xs.drop j=ys→j≤xs.length→Inv j s→Rg P H f nt (zWf c) (rgA c) (rgB c) [] (zVQ c) K ys (I s):=by
  intro ys
  induction ys with
  | nil =>
   intro j s hd hj hi
   have:j=xs.length:=by
    have:=congrArg List.length hd;simp at this;omega
   subst this
   exact hK s hi
  | cons x ys ih =>
   intro j s hd hj hi
   have hx:xs[j]? = some x:=by
    have:=congrArg (fun l=>l[0]?) hd
    simpa using this
   have yI:=(List.getElem?_eq_some_iff.1 hx).1
   obtain ⟨e1,h1,h2⟩:=h j x s hx hi
   refine ⟨e1,h1,zT3 h2 fun y e2 lg ⟨a1,a2,a3⟩=>⟨a1,a2,zT3 a3 fun y e3 lg ⟨b1,b2⟩=>⟨b1,?_⟩⟩⟩
   cases y with
   | norm =>
    obtain ⟨s',yz,he⟩:=b2
    simp only
    rw [he]
    refine ih (j+1) s' ?_ (by omega) yz
    rw [← List.drop_drop,hd];rfl
   | ex id=>exact b2
   | ret=>exact b2
 exact key xs 0 s rfl (by omega) hi
theorem zO8 {ps:List Tmp} {a b:Code} {x:List PV} {K:X→Env→Prop} (h:W P H f nt a ((zCm ps x e).getD []) none fun y e2 lg=>y = .norm∧lg=none∧W P H f nt b e2 none fun y e3 lg=>lg=none∧K y e3) (hp:(zCm ps x e).isSome=true:=by kernel_rfl):zKN P H f nt ps a b x e K:=by
 obtain ⟨e1,h1⟩:=Option.isSome_iff_exists.1 hp
 rw [h1] at h
 exact ⟨e1,h1,h⟩
omit [Yo] in
theorem zSF (fn:Func) {g:FuncId} {first caps:List PV} {k:Int} {xs:List (List PV)} (h:∀ i,@W yo0 P H g fn.ntmps (fn.body.getD .ret) (zA4 (first++PV.yld i::caps) []) (some ⟨[],k,i⟩) fun x _ lg=>(x = .norm∨x = .ret)∧lg.map (·.xs)=some xs) (hk:k≠0)
  (hf:P.funcs[g]? = some fn:=by kernel_rfl) (hb:fn.body.isSome=true:=by kernel_rfl) (hc:∀ i,(Nat.ble (first++PV.yld i::caps).length fn.ntmps&&fn.results.isEmpty&&(first++caps).all (fun p => !p.isTup))=true:=by intro i;kernel_rfl) (hin:Nat.beq (H g).intr 0=true:=by kernel_rfl):@zSB (yo1 P H) g first caps k xs:=by
 intro i
 obtain ⟨body,hb⟩:∃ body,fn.body=some body:=by cases hx:fn.body<;>first | exact ⟨_,rfl⟩ | (rw [hx] at hb;cases hb)
 have h:=h i
 simp only [hb,Option.getD_some] at h
 obtain ⟨n0,x,e1,lg1,h1,hx,hl⟩:=h
 refine zVa (n0:=n0) fun n hn=>?_
 have j7:=h1 n (n+1) (by omega) (by omega)
 cases lg1 with
 | none=>cases hl
 | some l =>
  simp only [Option.map_some,Option.some.injEq] at hl
  simp only [zSm,zWc,hf,hb]
  have wN:(k != 0)=true:=by simpa using hk
  have hc':=hc i
  rw [hc',wN,hin]
  simp only [Bool.and_self,cond_true,j7]
  rcases hx with rfl | rfl<;>simp [hl]
end
end Go.Eng
namespace Go.Eng
open Go
inductive PX where
 | ok | fail | emb (p:PM)
 | view (s:Nat) (k:PV→PX) | get (s:Nat) (k:PV→PX) | set (s:Nat) (p:PV) (k:PX)
 | cells (r:Nat) (pre:zAS) (i c n:Nat) (k:Bool→List PV→PX) | deep (r:Nat) (pre:zAS) (k:PV→PX)
 | wcells (r:Nat) (pre:zAS) (i c:Nat) (qs:List PV) (k:PX) | wnode (r:Nat) (pre:zAS) (q:PV) (k:PX)
 | kill (r:Nat) (pre:zAS) (k:PX) | frz (r:Nat) (pre:zAS) (k:PX) | frzp (r:Nat) (pre:zAS) (p:PV) (k:PV→PX) | killEx (r:Nat) (keep:List zAS) (k:PX)
 | call (f:FuncId) (args hid:List PV) (k:PV→List PV→PX)
 | test (b:Bool) (k:PX) | pick (x:Option PV) (k:PV→PX) | num (x:Option Nat) (k:Nat→PX) | idx (x:Option (Option Nat)) (k:Option Nat→PX)
 | choose (b:Bool) (k1 k2:PX) | same (p:PV) (k:PV→PX) | sames (ps:List PV) (k:List PV→PX)
 | nats (x:List Nat) (k:List Nat→PX) | pure (d:Option Nat) (f:FuncId) (args:List PV) (k:PX)
def PX.toPM:PX→PM
 | .ok => .ok
 | .fail => .fail
 | .emb p=>p
 | .view s k => .view s fun p=>(k p).toPM
 | .get s k => .get s fun p=>(k p).toPM
 | .set s p k => .set s p k.toPM
 | .cells r pre i c n k => .cells r pre i c n fun a qs=>(k a qs).toPM
 | .deep r pre k => .deep r pre fun q=>(k q).toPM
 | .wcells r pre i c qs k => .wcells r pre i c qs k.toPM
 | .wnode r pre q k => .wnode r pre q k.toPM
 | .kill r pre k => .kill r pre k.toPM
 | .frz r pre k => .frz r pre k.toPM
 | .frzp r pre p k => .frz r pre (k p).toPM
 | .killEx r keep k => .killEx r keep k.toPM
 | .call f args hid k => .call f args hid fun v h=>(k v h).toPM
 | .test b k=>bif b then k.toPM else .fail
 | .pick x k=>match x with
  | some v=>(k v).toPM
  | none => .fail
 | .num x k=>match x with
  | some v=>(k v).toPM
  | none => .fail
 | .idx x k=>match x with
  | some v=>(k v).toPM
  | none => .fail
 | .choose b k1 k2=>bif b then k1.toPM else k2.toPM
 | .same p k=>(k p).toPM
 | .sames ps k=>(k ps).toPM
 | .nats x k=>(k x).toPM
 | .pure _ _ _ k=>k.toPM
inductive An where
 | ob | v (p:PV) | vs (ps:List PV) | n (k:Nat) | ix (k:Option Nat) | yes | no | cs (a:Bool) (qs:List PV) | root (r:PV) (kept:Bool) | ret (v:PV) (hid:List PV) | ns (l:List Nat) | env (e:Env) | envv (e:Env) (q:PV)
abbrev Ans:=List (Nat×An)
def zGe:Ans→Option An×Ans
 | []=>(none,[])
 | (0,a)::l=>(some a,l)
 | (n+1,a)::l=>(none,(n,a)::l)
section
variable [Yo] (P:Program) (H:zBf)
def zSZ (f:FuncId) (args:List PV) (v:PV):Prop:=∀ (d:Option Nat) (e:Env),∃ n0,∀ n,n0≤n→(zNk H d f args).runT (zCR P H n) e=(put d v).runT (zCR P H n) e
abbrev XR:=Option (Env×Tok×List Prop)
def XR.tok (t:Tok) (x:XR):XR:=x.map fun y=>(y.1,Tok.join t y.2.1,y.2.2)
def XR.ob (q:Prop) (x:XR):XR:=x.map fun y=>(y.1,y.2.1,q::y.2.2)
def PX.run:PX→Ans→Env→XR
 | .ok,_,e=>some (e,{},[])
 | .fail,_,_=>none
 | .emb p,_,e=>(p.runT zHn e).map fun y=>(y.1,y.2,[])
 | .view s k,as,e=>((k (Eng.view s (e.get s))).run as e).tok {look:=[s]}
 | .get s k,as,e=>match e.get s with
  | .lock _=>none
  | p=>((k p).run as e).tok {rd:=[s]}
 | .set s p k,as,e=>(k.run as (e.set s p)).tok (zFh s (e.get s) p)
 | .cells r pre i c n k,as,e=>match zGe as with
  | (none,as)=>match zAs r (e.get r) pre i c n with
   | some (a,qs)=>((k a qs).run as e).tok {cel:=[(r,pre)]}
   | none=>none
  | (some (.cs a qs),as)=>(((k a qs).run as e).tok {cel:=[(r,pre)]}).ob (zAs r (e.get r) pre i c n=some (a,qs))
  | _=>none
 | .deep r pre k,as,e=>match zGe as with
  | (none,as)=>match zAy (e.get r).unlock pre with
   | some q=>((k q).run as e).tok {rd:=[r]}
   | none=>none
  | (some (.v q),as)=>(((k q).run as e).tok {rd:=[r]}).ob (zAy (e.get r).unlock pre=some q)
  | _=>none
 | .wcells r pre i c qs k,as,e=>match zGe as with
  | (none,as)=>match zBx (e.get r) pre i c qs with
   | some root=>(k.run as (e.set r root)).tok (zA9 r [] (zAF (e.get r) root pre) (e.get r) root)
   | none=>none
  | (some (.root root kp),as)=>((k.run as (e.set r root)).tok (zA9 r [] kp (e.get r) root)).ob (zBx (e.get r) pre i c qs=some root∧zAF (e.get r) root pre=kp)
  | _=>none
 | .wnode r pre q k,as,e=>match zGe as with
  | (none,as)=>bif (e.get r).isLock then none else match zAu (fun _=>some q) (e.get r) pre with
   | some root=>(k.run as (e.set r root)).tok (zA9 r pre.dropLast (zAF (e.get r) root pre&&(pre.isEmpty || !q.isAgg)) (e.get r) root)
   | none=>none
  | (some (.root root kp),as)=>bif (e.get r).isLock then none else ((k.run as (e.set r root)).tok (zA9 r pre.dropLast (kp&&(pre.isEmpty || !q.isAgg)) (e.get r) root)).ob (zAu (fun _=>some q) (e.get r) pre=some root∧zAF (e.get r) root pre=kp)
  | _=>none
 | .kill r pre k,as,e=>(k.run as (e.kill r pre)).tok (zAJ (zDi e fun z=>zAK r pre z.1 z.2) e.get (e.kill r pre).get [r] [])
 | .frz r pre k,as,e=>match zGe as with
  | (none,as)=>match e.frz r pre with
   | some e'=>(k.run as e').tok (zAJ (r::zDi e fun z=>zAK r pre z.1 z.2) e.get e'.get [r] [])
   | none=>none
  | (some (.env e'),as)=>((k.run as e').tok (zAJ (r::zDi e fun z=>zAK r pre z.1 z.2) e.get e'.get [r] [])).ob (e.frz r pre=some e')
  | _=>none
 | .frzp r pre p k,as,e=>match zGe as with
  | (none,as)=>match e.frz r pre with
   | some e'=>((k p).run as e').tok (zAJ (r::zDi e fun z=>zAK r pre z.1 z.2) e.get e'.get [r] [])
   | none=>none
  | (some (.env e'),as)=>(((k p).run as e').tok (zAJ (r::zDi e fun z=>zAK r pre z.1 z.2) e.get e'.get [r] [])).ob (e.frz r pre=some e')
  | (some (.envv e' q),as)=>(((k q).run as e').tok (zAJ (r::zDi e fun z=>zAK r pre z.1 z.2) e.get e'.get [r] [])).ob (e.frz r pre=some e'∧p=q)
  | _=>none
 | .killEx r keep k,as,e=>(k.run as (e.killEx r keep)).tok (zAJ (zDi e fun z=>Nat.beq z.1 r && !z.2.isEmpty) e.get (e.killEx r keep).get [] [r])
 | .call f args hid k,as,e=>match zGe as with
  | (some (.ret v hZ),as)=>((k v hZ).run as e).ob (zDp P H f args hid v hZ)
  | _=>none
 | .test b k,as,e=>match zGe as with
  | (none,as)=>bif b then k.run as e else none
  | (some .ob,as)=>(k.run as e).ob (b=true)
  | _=>none
 | .pick x k,as,e=>match zGe as with
  | (none,as)=>match x with
   | some v=>(k v).run as e
   | none=>none
  | (some (.v v),as)=>((k v).run as e).ob (x=some v)
  | _=>none
 | .num x k,as,e=>match zGe as with
  | (none,as)=>match x with
   | some v=>(k v).run as e
   | none=>none
  | (some (.n v),as)=>((k v).run as e).ob (x=some v)
  | _=>none
 | .idx x k,as,e=>match zGe as with
  | (none,as)=>match x with
   | some v=>(k v).run as e
   | none=>none
  | (some (.ix v),as)=>((k v).run as e).ob (x=some v)
  | _=>none
 | .choose b k1 k2,as,e=>match zGe as with
  | (none,as)=>bif b then k1.run as e else k2.run as e
  | (some .yes,as)=>(k1.run as e).ob (b=true)
  | (some .no,as)=>(k2.run as e).ob (b=false)
  | _=>none
 | .same p k,as,e=>match zGe as with
  | (none,as)=>(k p).run as e
  | (some (.v q),as)=>((k q).run as e).ob (p=q)
  | _=>none
 | .sames ps k,as,e=>match zGe as with
  | (none,as)=>(k ps).run as e
  | (some (.vs qs),as)=>((k qs).run as e).ob (ps=qs)
  | _=>none
 | .nats x k,as,e=>match zGe as with
  | (none,as)=>(k x).run as e
  | (some (.ns l),as)=>((k l).run as e).ob (x=l)
  | _=>none
 | .pure d f args k,as,e=>match zGe as with
  | (none,as)=>k.run as e
  | (some (.v v),_)=>XR.ob (zSZ P H f args v∧k.toPM=zNk H d f args) (((put d v).runT zHn e).map fun y=>(y.1,y.2,[]))
  | _=>none
def zS3:List Prop→Prop
 | []=>True
 | p::ps=>p∧zS3 ps
end
section
variable [Yo] {P:Program} {H:zBf}
theorem XR.tok_some {t u:Tok} {x:XR} {e':Env} {obs:List Prop} (h:x.tok t=some (e',u,obs)):∃ u',x=some (e',u',obs)∧u=Tok.join t u':=by
 obtain ⟨⟨a,b,c⟩,h1,h2⟩:=Option.map_eq_some_iff.1 h
 simp only [Prod.mk.injEq] at h2
 obtain ⟨rfl,rfl,rfl⟩:=h2
 exact ⟨_,h1,rfl⟩
theorem XR.ob_some {q:Prop} {u:Tok} {x:XR} {e':Env} {obs:List Prop} (h:x.ob q=some (e',u,obs)):∃ o',x=some (e',u,o')∧obs=q::o':=by
 obtain ⟨⟨a,b,c⟩,h1,h2⟩:=Option.map_eq_some_iff.1 h
 simp only [Prod.mk.injEq] at h2
 obtain ⟨rfl,rfl,rfl⟩:=h2
 exact ⟨_,h1,rfl⟩
theorem PX.run_ok:∀ {p:PX} {as:Ans} {e e':Env} {t:Tok} {obs:List Prop},p.run P H as e=some (e',t,obs)→zS3 obs→∃ n0,∀ n,n0≤n→p.toPM.runT (zCR P H n) e=some (e',t):=by
 intro p
 induction p with
 | ok=>intro as e e' t obs h _;simp only [PX.run,Option.some.injEq,Prod.mk.injEq] at h;obtain ⟨rfl,rfl,_⟩:=h;exact ⟨0,fun _ _=>rfl⟩
 | fail=>intro as e e' t obs h _;cases h
 | emb p =>
  intro as e e' t obs h _
  obtain ⟨⟨a,b⟩,h1,h2⟩:=Option.map_eq_some_iff.1 h
  simp only [Prod.mk.injEq] at h2
  obtain ⟨rfl,rfl,_⟩:=h2
  exact ⟨0,fun _ _=>zIn h1⟩
 | view s k ih =>
  intro as e e' t obs h ha
  obtain ⟨u,h1,rfl⟩:=XR.tok_some h
  obtain ⟨n0,h2⟩:=ih _ h1 ha
  exact ⟨n0,fun n hn=>by simp only [PX.toPM,PM.runT,h2 n hn];rfl⟩
 | get s k ih =>
  intro as e e' t obs h ha
  simp only [PX.run] at h
  cases hg:e.get s<;>rw [hg] at h<;>simp only at h<;>try (cases h;done)
  all_goals
   obtain ⟨u,h1,rfl⟩:=XR.tok_some h
   obtain ⟨n0,h2⟩:=ih _ h1 ha
   exact ⟨n0,fun n hn=>by simp only [PX.toPM,PM.runT,hg,h2 n hn];rfl⟩
 | set s q k ih =>
  intro as e e' t obs h ha
  obtain ⟨u,h1,rfl⟩:=XR.tok_some h
  obtain ⟨n0,h2⟩:=ih h1 ha
  exact ⟨n0,fun n hn=>by simp only [PX.toPM,PM.runT,h2 n hn];rfl⟩
 | cells r pre i c n k ih =>
  intro as e e' t obs h ha
  simp only [PX.run] at h
  split at h
  ·split at h
   ·rename_i hr
    obtain ⟨u,h1,rfl⟩:=XR.tok_some h
    obtain ⟨n0,h2⟩:=ih _ _ h1 ha
    exact ⟨n0,fun n hn=>by simp only [PX.toPM,PM.runT,hr,h2 n hn];rfl⟩
   ·cases h
  ·obtain ⟨o,h0,rfl⟩:=XR.ob_some h
   obtain ⟨u,h1,rfl⟩:=XR.tok_some h0
   obtain ⟨n0,h2⟩:=ih _ _ h1 ha.2
   exact ⟨n0,fun n hn=>by simp only [PX.toPM,PM.runT,ha.1,h2 n hn];rfl⟩
  ·cases h
 | deep r pre k ih =>
  intro as e e' t obs h ha
  simp only [PX.run] at h
  split at h
  ·split at h
   ·rename_i hr
    obtain ⟨u,h1,rfl⟩:=XR.tok_some h
    obtain ⟨n0,h2⟩:=ih _ h1 ha
    exact ⟨n0,fun n hn=>by simp only [PX.toPM,PM.runT,hr,h2 n hn];rfl⟩
   ·cases h
  ·obtain ⟨o,h0,rfl⟩:=XR.ob_some h
   obtain ⟨u,h1,rfl⟩:=XR.tok_some h0
   obtain ⟨n0,h2⟩:=ih _ h1 ha.2
   exact ⟨n0,fun n hn=>by simp only [PX.toPM,PM.runT,ha.1,h2 n hn];rfl⟩
  ·cases h
 | wcells r pre i c qs k ih =>
  intro as e e' t obs h ha
  simp only [PX.run] at h
  split at h
  ·split at h
   ·rename_i hr
    obtain ⟨u,h1,rfl⟩:=XR.tok_some h
    obtain ⟨n0,h2⟩:=ih h1 ha
    exact ⟨n0,fun n hn=>by simp only [PX.toPM,PM.runT,hr,h2 n hn];rfl⟩
   ·cases h
  ·obtain ⟨o,h0,rfl⟩:=XR.ob_some h
   obtain ⟨u,h1,rfl⟩:=XR.tok_some h0
   obtain ⟨n0,h2⟩:=ih h1 ha.2
   exact ⟨n0,fun n hn=>by simp only [PX.toPM,PM.runT,ha.1.1,ha.1.2,h2 n hn];rfl⟩
  ·cases h
 | wnode r pre q k ih =>
  intro as e e' t obs h ha
  simp only [PX.run] at h
  split at h
  ·rcases zBe h with ⟨_,h⟩ | ⟨hl,h⟩
   ·cases h
   ·split at h
    ·rename_i hr
     obtain ⟨u,h1,rfl⟩:=XR.tok_some h
     obtain ⟨n0,h2⟩:=ih h1 ha
     exact ⟨n0,fun n hn=>by simp only [PX.toPM,PM.runT,hl,cond_false,hr,h2 n hn];rfl⟩
    ·cases h
  ·rcases zBe h with ⟨_,h⟩ | ⟨hl,h⟩
   ·cases h
   ·obtain ⟨o,h0,rfl⟩:=XR.ob_some h
    obtain ⟨u,h1,rfl⟩:=XR.tok_some h0
    obtain ⟨n0,h2⟩:=ih h1 ha.2
    exact ⟨n0,fun n hn=>by simp only [PX.toPM,PM.runT,hl,cond_false,ha.1.1,ha.1.2,h2 n hn];rfl⟩
  ·cases h
 | kill r pre k ih =>
  intro as e e' t obs h ha
  obtain ⟨u,h1,rfl⟩:=XR.tok_some h
  obtain ⟨n0,h2⟩:=ih h1 ha
  exact ⟨n0,fun n hn=>by simp only [PX.toPM,PM.runT,h2 n hn];rfl⟩
 | frz r pre k ih =>
  intro as e e' t obs h ha
  simp only [PX.run] at h
  split at h
  ·split at h
   ·rename_i hr
    obtain ⟨u,h1,rfl⟩:=XR.tok_some h
    obtain ⟨n0,h2⟩:=ih h1 ha
    exact ⟨n0,fun n hn=>by simp only [PX.toPM,PM.runT,hr,h2 n hn];rfl⟩
   ·cases h
  ·obtain ⟨o,h0,rfl⟩:=XR.ob_some h
   obtain ⟨u,h1,rfl⟩:=XR.tok_some h0
   obtain ⟨n0,h2⟩:=ih h1 ha.2
   exact ⟨n0,fun n hn=>by simp only [PX.toPM,PM.runT,ha.1,h2 n hn];rfl⟩
  ·cases h
 | frzp r pre p k ih =>
  intro as e e' t obs h ha
  simp only [PX.run] at h
  split at h
  ·split at h
   ·rename_i hr
    obtain ⟨u,h1,rfl⟩:=XR.tok_some h
    obtain ⟨n0,h2⟩:=ih _ h1 ha
    exact ⟨n0,fun n hn=>by simp only [PX.toPM,PM.runT,hr,h2 n hn];rfl⟩
   ·cases h
  ·obtain ⟨o,h0,rfl⟩:=XR.ob_some h
   obtain ⟨u,h1,rfl⟩:=XR.tok_some h0
   obtain ⟨n0,h2⟩:=ih _ h1 ha.2
   exact ⟨n0,fun n hn=>by simp only [PX.toPM,PM.runT,ha.1,h2 n hn];rfl⟩
  ·obtain ⟨o,h0,rfl⟩:=XR.ob_some h
   obtain ⟨u,h1,rfl⟩:=XR.tok_some h0
   obtain ⟨⟨hf,rfl⟩,ha⟩:=ha
   obtain ⟨n0,h2⟩:=ih _ h1 ha
   exact ⟨n0,fun n hn=>by simp only [PX.toPM,PM.runT,hf,h2 n hn];rfl⟩
  ·cases h
 | killEx r keep k ih =>
  intro as e e' t obs h ha
  obtain ⟨u,h1,rfl⟩:=XR.tok_some h
  obtain ⟨n0,h2⟩:=ih h1 ha
  exact ⟨n0,fun n hn=>by simp only [PX.toPM,PM.runT,h2 n hn];rfl⟩
 | call f args hid k ih =>
  intro as e e' t obs h ha
  simp only [PX.run] at h
  split at h
  ·obtain ⟨o,h1,rfl⟩:=XR.ob_some h
   obtain ⟨n0,h2⟩:=ih _ _ h1 ha.2
   obtain ⟨n1,h3⟩:=ha.1
   exact ⟨max n0 n1,fun n hn=>by simp only [PX.toPM,PM.runT,h3 n (by omega),h2 n (by omega)]⟩
  ·cases h
 | test b k ih =>
  intro as e e' t obs h ha
  simp only [PX.run] at h
  split at h
  ·rcases zBe h with ⟨hb,h⟩ | ⟨_,h⟩
   ·obtain ⟨n0,h2⟩:=ih h ha
    exact ⟨n0,fun n hn=>by simp only [PX.toPM,hb,cond_true,h2 n hn]⟩
   ·cases h
  ·obtain ⟨o,h1,rfl⟩:=XR.ob_some h
   obtain ⟨n0,h2⟩:=ih h1 ha.2
   exact ⟨n0,fun n hn=>by simp only [PX.toPM,ha.1,cond_true,h2 n hn]⟩
  ·cases h
 | pick x k ih =>
  intro as e e' t obs h ha
  simp only [PX.run] at h
  split at h
  ·split at h
   ·obtain ⟨n0,h2⟩:=ih _ h ha
    exact ⟨n0,fun n hn=>by simp only [PX.toPM,h2 n hn]⟩
   ·cases h
  ·obtain ⟨o,h1,rfl⟩:=XR.ob_some h
   obtain ⟨n0,h2⟩:=ih _ h1 ha.2
   exact ⟨n0,fun n hn=>by simp only [PX.toPM,ha.1,h2 n hn]⟩
  ·cases h
 | num x k ih =>
  intro as e e' t obs h ha
  simp only [PX.run] at h
  split at h
  ·split at h
   ·obtain ⟨n0,h2⟩:=ih _ h ha
    exact ⟨n0,fun n hn=>by simp only [PX.toPM,h2 n hn]⟩
   ·cases h
  ·obtain ⟨o,h1,rfl⟩:=XR.ob_some h
   obtain ⟨n0,h2⟩:=ih _ h1 ha.2
   exact ⟨n0,fun n hn=>by simp only [PX.toPM,ha.1,h2 n hn]⟩
  ·cases h
 | idx x k ih =>
  intro as e e' t obs h ha
  simp only [PX.run] at h
  split at h
  ·split at h
   ·obtain ⟨n0,h2⟩:=ih _ h ha
    exact ⟨n0,fun n hn=>by simp only [PX.toPM,h2 n hn]⟩
   ·cases h
  ·obtain ⟨o,h1,rfl⟩:=XR.ob_some h
   obtain ⟨n0,h2⟩:=ih _ h1 ha.2
   exact ⟨n0,fun n hn=>by simp only [PX.toPM,ha.1,h2 n hn]⟩
  ·cases h
 | choose b k1 k2 ih1 ih2 =>
  intro as e e' t obs h ha
  simp only [PX.run] at h
  split at h
  ·rcases zBe h with ⟨hb,h⟩ | ⟨hb,h⟩
   ·obtain ⟨n0,h2⟩:=ih1 h ha
    exact ⟨n0,fun n hn=>by simp only [PX.toPM,hb,cond_true,h2 n hn]⟩
   ·obtain ⟨n0,h2⟩:=ih2 h ha
    exact ⟨n0,fun n hn=>by simp only [PX.toPM,hb,cond_false,h2 n hn]⟩
  ·obtain ⟨o,h1,rfl⟩:=XR.ob_some h
   obtain ⟨n0,h2⟩:=ih1 h1 ha.2
   exact ⟨n0,fun n hn=>by simp only [PX.toPM,ha.1,cond_true,h2 n hn]⟩
  ·obtain ⟨o,h1,rfl⟩:=XR.ob_some h
   obtain ⟨n0,h2⟩:=ih2 h1 ha.2
   exact ⟨n0,fun n hn=>by simp only [PX.toPM,ha.1,cond_false,h2 n hn]⟩
  ·cases h
 | same p k ih =>
  intro as e e' t obs h ha
  simp only [PX.run] at h
  split at h
  ·exact ih _ h ha
  ·obtain ⟨o,h1,rfl⟩:=XR.ob_some h
   obtain ⟨n0,h2⟩:=ih _ h1 ha.2
   exact ⟨n0,fun n hn=>by simp only [PX.toPM,ha.1,h2 n hn]⟩
  ·cases h
 | sames ps k ih =>
  intro as e e' t obs h ha
  simp only [PX.run] at h
  split at h
  ·exact ih _ h ha
  ·obtain ⟨o,h1,rfl⟩:=XR.ob_some h
   obtain ⟨n0,h2⟩:=ih _ h1 ha.2
   exact ⟨n0,fun n hn=>by simp only [PX.toPM,ha.1,h2 n hn]⟩
  ·cases h
 | nats x k ih =>
  intro as e e' t obs h ha
  simp only [PX.run] at h
  split at h
  ·exact ih _ h ha
  ·obtain ⟨o,h1,rfl⟩:=XR.ob_some h
   obtain ⟨n0,h2⟩:=ih _ h1 ha.2
   exact ⟨n0,fun n hn=>by simp only [PX.toPM,ha.1,h2 n hn]⟩
  ·cases h
 | pure d f args k ih =>
  intro as e e' t obs h ha
  simp only [PX.run] at h
  split at h
  ·exact ih h ha
  ·obtain ⟨o,h1,rfl⟩:=XR.ob_some h
   obtain ⟨⟨a,b⟩,h2,h3⟩:=Option.map_eq_some_iff.1 h1
   simp only [Prod.mk.injEq] at h3
   obtain ⟨rfl,rfl,_⟩:=h3
   obtain ⟨⟨hp,hk⟩,_⟩:=ha
   obtain ⟨n0,hp⟩:=hp d e
   exact ⟨n0,fun n hn=>by simp only [PX.toPM];rw [hk,hp n hn];exact zIn h2⟩
  ·cases h
end
end Go.Eng
namespace Go.Eng
open Go
def zGI (x:Operand) (k:PV→PX):PX :=
 match x with
 | .tmp t => .view t k
 | .const v=>k (zEz v)
 | .func f=>k (.func f [] [])
 | .global _ => .fail
def zLc (x:Operand) (k:PV→PX):PX :=
 match x with
 | .tmp t => .get t fun p => .choose p.heavy (.set t .bad (k p)) (k p)
 | .const v=>k (zEz v)
 | .func f=>k (.func f [] [])
 | .global _ => .fail
def zPm:List Operand→(List PV→PX)→PX
 | [],k=>k []
 | x::xs,k=>zGI x fun p=>zPm xs fun ps=>k (p::ps)
def zVV (d:Nat) (p:PV) (k:PX):PX := .choose p.heavy (.kill d [] (.set d (p.mapW (lose d [])) k)) (.set d p k)
def zGc (d:Option Nat) (p:PV):PX :=
 match d with
 | none => .ok
 | some d => .same p fun p=>bif p.isTup then .fail else zVV d p .ok
def zG6 (d:Nat):Nat→List PV→PX→PX
 | n,[],k => .set d (.tup (List.replicate n .bad)) k
 | i,p::ps,k => .same p fun p=>zVV (zBo d i) p (zG6 d (i+1) ps k)
def zFd (d:Option Nat) (v:PV):PX :=
 match d,v with
 | some d,.tup vs => .test (Nat.ble vs.length 16) (.test ((zBs vs).all (fun w => !zIW d w.1)) (.set d .bad (zG6 d 0 vs .ok)))
 | d,v=>zGc d v
def zFz:PV→(Nat→PX)→PX
 | .int _ n,k => .test (decide (0≤n)) (.num (some n.toNat) k)
 | _,_ => .fail
def zQk (r:Nat) (pre:zAS) (i c:Nat) (sh:Option Nat) (k:PV→PX):PX :=
 match sh with
 | some n => .cells r pre i c n fun a qs=>bif a then k (.agg qs) else .fail
 | none => .cells r pre i c 1 fun _ qs=>k (qs.headD .bad)
def zGU (r:Nat) (pre:zAS) (i:Nat):Nat→List PV→PX→PX
 | _,[],k=>k
 | c,q::qs,k=>bif q.heavy then .kill r (pre++[(i,c)]) (zGU r pre i (c+1) qs k) else zGU r pre i (c+1) qs k
def zR3 (r:Nat) (pre:zAS) (i c:Nat) (qs:List PV) (k:PX):PX := .choose (qs.all fun q => !q.heavy) k (zGU r pre i c qs k)
section
variable {k:PX} {kp:PV→PX}
theorem zB4 {x:Operand} {k:PV→PX}:(zGI x k).toPM=opd x fun p=>(k p).toPM:=by cases x<;>rfl
theorem zBq {α:Type} {b:Bool} {x y:α}:(bif b then x else y)=if b=true then x else y:=by cases b<;>rfl
theorem zFY {x:Operand} {k:PV→PX}:(zLc x k).toPM=zOc x fun p=>(k p).toPM:=by
 cases x<;>first | rfl | simp only [zLc,zOc,PX.toPM,zBq]
theorem zIA:∀ {xs:List Operand} {k:List PV→PX},(zPm xs k).toPM=zTK xs fun p=>(k p).toPM
 | [],_=>rfl
 | x::xs,k=>by simp only [zPm,zTK,zB4,zIA]
theorem zK5 {d:Nat} {p:PV} {k:PX}:(zVV d p k).toPM=lay d p k.toPM:=by simp only [zVV,lay,PX.toPM]
theorem zDe {b:Bool} {x y:PX}:(bif b then x else y).toPM=bif b then x.toPM else y.toPM:=by cases b<;>rfl
theorem zN2 {c:Prop} [Decidable c] {x y:PX}:(if c then x else y).toPM=if c then x.toPM else y.toPM:=by split<;>rfl
theorem zBp {d:Option Nat} {p:PV}:(zGc d p).toPM=put d p:=by
 cases d with
 | none=>rfl
 | some d=>simp only [zGc,put,PX.toPM,zDe,zK5]
theorem zH0 {d:Nat}:∀ {ps:List PV} {i:Nat} {k:PX},(zG6 d i ps k).toPM=zE3 d i ps k.toPM
 | [],_,_=>rfl
 | p::ps,i,k=>by simp only [zG6,zE3,PX.toPM,zK5,zH0]
theorem zDh {α:Type} {a b:Bool} {x y:α}:(bif a&&b then x else y)=bif a then (bif b then x else y) else y:=by cases a<;>rfl
theorem zEG {d:Option Nat} {v:PV}:(zFd d v).toPM=zDr d v:=by
 cases d with
 | none=>cases v<;>simp only [zFd,zDr,zBp]
 | some d=>cases v<;>simp only [zFd,zDr,PX.toPM,zH0,zDh,zBp]
theorem zEJ {p:PV} {k:Nat→PX}:(zFz p k).toPM=zGg p fun n=>(k n).toPM:=by
 cases p<;>first | rfl | skip
 simp only [zFz,zGg,PX.toPM,zBq,decide_eq_true_eq]
theorem zK0 {r:Nat} {pre:zAS} {i c:Nat} {sh:Option Nat} {k:PV→PX}:(zQk r pre i c sh k).toPM=zLU r pre i c sh fun p=>(k p).toPM:=by
 cases sh<;>simp only [zQk,zLU,PX.toPM,zDe]
theorem zJc {r:Nat} {pre:zAS} {i:Nat}:∀ {qs:List PV} {c:Nat} {k:PX},(zGU r pre i c qs k).toPM=zDU r pre i c qs k.toPM
 | [],_,_=>rfl
 | q::qs,c,k=>by simp only [zGU,zDU,zDe,PX.toPM,zJc]
theorem zE9 {r:Nat} {pre:zAS} {i:Nat}:∀ {qs:List PV} {c:Nat} {k:PM},(qs.all fun q => !q.heavy)=true→zDU r pre i c qs k=k
 | [],_,_,_=>rfl
 | q::qs,c,k,h=>by
  simp only [List.all_cons,Bool.and_eq_true,Bool.not_eq_true'] at h
  simp only [zDU,h.1,cond_false];exact zE9 h.2
theorem zRp {r:Nat} {pre:zAS} {i c:Nat} {qs:List PV} {k:PX}:(zR3 r pre i c qs k).toPM=zDU r pre i c qs k.toPM:=by
 simp only [zR3,PX.toPM,zJc]
 cases h:qs.all fun q => !q.heavy with
 | false=>rfl
 | true=>exact (zE9 h).symm
end
def zES (res:PV→(PV→List (Nat×zAS)→PX)→PX):List PV→(List PV→List (Nat×zAS)→PX)→PX
 | [],k=>k [] []
 | p::ps,k=>res p fun q l=>zES res ps fun qs m=>k (q::qs) (l++m)
def zDD (hb:Nat):Nat→PV→(PV→List (Nat×zAS)→PX)→PX
 | 0,_,_ => .fail
 | n + 1,p,k =>
  match p with
  | .addr r pre i c sh=>bif Nat.ble hb r then k p [] else .deep r pre fun q=>match zA7 q with
   | some xs => .pick xs[i]? fun x=>match sh with
     | some m => .test (Nat.ble (c+m) x.cells.length) (.test x.isAgg (zDD hb n (.agg ((x.cells.drop c).take m)) fun q l=>k (.ref q) ((r,pre)::l)))
     | none => .pick x.cells[c]? fun q => .test q.oneCell (zDD hb n q fun q l=>k (.ref q) ((r,pre)::l))
   | none => .fail
  | .bor r pre _ lo m=>bif Nat.ble hb r then k p [] else .deep r pre fun q=>match q with
   | .own _ xs => .test (Nat.ble (lo+m) xs.length) (.same (.sl (zAE ((xs.drop lo).take m))) fun p=>k p [(r,pre)])
   | _ => .fail
  | .bsl r pre i c sz ag m=>bif Nat.ble hb r then k p [] else .deep r pre fun q=>match zA7 q with
   | some xs => .pick xs[i]? fun x => .test (zCf ag sz m ((x.cells.drop c).take (m*sz))) (.test (zBs x.cells).isEmpty (.same (.sl (zCh ag sz m (zAE ((x.cells.drop c).take (m*sz))))) fun p=>k p [(r,pre)]))
   | none => .fail
  | .bmap r pre=>bif Nat.ble hb r then k p [] else .deep r pre fun q=>match q with
   | .omap es=>k (.map es) [(r,pre)]
   | _ => .fail
  | .agg cs => .choose (p.ways).isEmpty (.same (zAT p) fun q=>k q []) (zES (zDD hb n) cs fun qs l=>k (.agg qs) l)
  | .func f a b => .choose (p.ways).isEmpty (k p []) (zES (zDD hb n) a fun as l=>zES (zDD hb n) b fun bs m=>k (.func f as bs) (l++m))
  | .ref q => .choose (q.ways).isEmpty (k p []) (zDD hb n q fun q l=>k (.ref q) l)
  | .bad=>k .bad []
  | p => .test (p.ways.all (fun w=>Nat.ble hb w.1)) (.same (zAT p) fun q=>k q [])
def zT9 (p:PV) (k:PV→List (Nat×zAS)→PX):PX:=zDD zAb depth p k
theorem zHO {res:PV→(PV→List (Nat×zAS)→PX)→PX} {res':PV→(PV→List (Nat×zAS)→PM)→PM} (h:∀ p k,(res p k).toPM=res' p fun q l=>(k q l).toPM):∀ {ps:List PV} {k:List PV→List (Nat×zAS)→PX},(zES res ps k).toPM=zEn res' ps fun q l=>(k q l).toPM
 | [],_=>rfl
 | p::ps,k=>by simp only [zES,zEn,h,zHO h]
theorem zJm {hb:Nat}:∀ {n:Nat} {p:PV} {k:PV→List (Nat×zAS)→PX},(zDD hb n p k).toPM=resolve hb n p fun q l=>(k q l).toPM
 | 0,_,_=>rfl
 | n + 1,p,k=>by
  have ih:∀ (p:PV) (k:PV→List (Nat×zAS)→PX),(zDD hb n p k).toPM=resolve hb n p fun q l=>(k q l).toPM:=fun p k=>zJm
  cases p<;>simp only [zDD,resolve,zDe,PX.toPM,zDh,ih,zHO ih]
  ·congr 1;congr 1;funext q
   cases zA7 q with
   | none=>rfl
   | some xs =>
    simp only [PX.toPM]
    rename_i r pre i c sh
    cases xs[i]? with
    | none=>rfl
    | some x =>
     cases sh with
     | some m=>simp only [PX.toPM,zDh,ih]
     | none =>
      simp only [PX.toPM,ih]
      cases x.cells[c]? with
      | none=>rfl
      | some q=>simp only [PX.toPM,zBq,ih]
  ·congr 1;congr 1;funext q
   cases q<;>rfl
  ·congr 1;congr 1;funext q
   cases zA7 q with
   | none=>rfl
   | some xs =>
    simp only [PX.toPM]
    rename_i r pre i c sz ag m
    cases xs[i]? with
    | none=>rfl
    | some x=>simp only [PX.toPM,zDh]
  ·congr 1;congr 1;funext q
   cases q<;>rfl
theorem zQN {p:PV} {k:PV→List (Nat×zAS)→PX}:(zT9 p k).toPM=zPh p fun q l=>(k q l).toPM:=zJm
def zPT (hb:Nat):Nat→PV→(PV→PX)→PX
 | 0,_,_ => .fail
 | n+1,p,k=>match p.ways.find? (fun w=>Nat.blt w.1 hb) with
  | none => .same p k
  | some (r,pre) => .deep r pre fun q => .frzp r pre (p.mapW (inl r pre q)) fun p=>zPT hb n p k
theorem zFu {hb:Nat}:∀ {n:Nat} {p:PV} {k:PV→PX},(zPT hb n p k).toPM=zLB hb n p fun q=>(k q).toPM
 | 0,_,_=>rfl
 | n+1,p,k=>by
  simp only [zPT,zLB]
  cases p.ways.find? (fun w=>Nat.blt w.1 hb) with
  | none=>rfl
  | some w=>simp only [PX.toPM,zFu]
def zKP (p:PV) (k:List PV→PX):PX :=
 match p with
 | .nils _=>k []
 | .nn=>k []
 | .sl xs=>k xs
 | .bor r pre z lo n => .deep r pre fun q=>match q with
  | .own _ xs => .test (Nat.ble (lo+n) xs.length) (.sames ((xs.drop lo).take n) k)
  | _ => .fail
 | .bsl r pre i c sz ag n => .cells r pre i c (n*sz) fun _ cs => .test (zCf ag sz n cs) (.test (cs.all (fun q=>q.plain0)) (.sames (zCh ag sz n cs) k))
 | _ => .fail
theorem zKl {p:PV} {k:List PV→PX}:(zKP p k).toPM=zHc p fun l=>(k l).toPM:=by
 cases p<;>simp only [zKP,zHc,PX.toPM,zDh]
 congr 1;funext q
 cases q<;>rfl
section
variable (P:Program) (H:zBf)
def zFM:List Nat→List PV→(List (Bool×PV)→PX)→PX
 | _,[],k=>k []
 | ms,p::ps,k =>
  match ms.headD 0,p with
  | 2,.bor r pre _ 0 n => .deep r pre fun q=>match q with
   | .own sz xs => .test (Nat.ble n xs.length) (.wnode r pre .bad (.same (.own sz ((xs.drop 0).take n)) fun o=>zFM ms.tail ps fun as=>k ((true,o)::as)))
   | _ => .fail
  | _,p=>zFM ms.tail ps fun as=>k ((false,p)::as)
def zDx:List Nat→List (Bool×PV)→(List Arg→PX)→PX
 | _,[],k=>k []
 | ms,(true,p)::ps,k=>zDx ms.tail ps fun as=>k ({p:=p}::as)
 | ms,(false,p)::ps,k =>
  bif Nat.beq (ms.headD 0) 1 then zDx ms.tail ps fun as=>k ({p:=p,byref:=true}::as)
  else zT9 p fun q l=>zDx ms.tail ps fun as=>k ({p:=q,shared:=l}::as)
def zFb:List Nat→List (Bool×PV)→(List Arg→PX)→PX
 | _,[],k=>k []
 | ms,(true,p)::ps,k=>zFb ms.tail ps fun as=>k ({p:=p}::as)
 | ms,(false,p)::ps,k =>
  bif Nat.beq (ms.headD 0) 1 then zFb ms.tail ps fun as=>k ({p:=p,byref:=true}::as)
  else zPT zAb zDC p fun q=>zFb ms.tail ps fun as=>k ({p:=q}::as)
def zRv:List Nat→(List PV→PX)→PX
 | [],k=>k []
 | r::rs,k => .get r fun p=>zRv rs fun ps=>k (p::ps)
def zTc:List Nat→List PV→List PV→PX→PX
 | r::rs,o::os,p::ps,k => .test (zGh o p) (.same p fun p => .wnode r [] p (zTc rs os ps k))
 | [],[],[],k=>k
 | _,_,_,_ => .fail
def zOL:Nat→List Nat→(List Nat→PX)→PX
 | 0,R,k=>k R
 | n+1,R,k=>zRv R fun ts=>let R':=(R++ts.flatMap zNz).eraseDups;bif Nat.beq R'.length R.length then k R else zOL n R' k
def zGW:List Nat→PX→PX
 | [],k=>k
 | r::rs,k => .killEx r [] (zGW rs k)
def zLR:List Bool→PX→PX→PX
 | [a,b,c],x,y => .choose a x (.choose b (.choose c x y) y)
 | _,_,y=>y
theorem zMs {a b c:Bool} {x y:PX}:(zLR [a,b,c] x y).toPM=bif a||b&&c then x.toPM else y.toPM:=by
 cases a<;>cases b<;>cases c<;>rfl
def zOf (d:Option Nat) (f:FuncId) (as:List Arg) (again:PX):PX :=
 .nats (zOB as) fun R0=>zOL 3 R0 fun R =>
 bif zHk R&&R.all (fun r=>Nat.blt r zAb)&&Nat.ble R.length 1000&&Nat.ble as.length 1000&&(as.flatMap (·.shared)).all (fun x => !R.contains x.1) then
  zRv R fun hid => .sames (as.map fun a=>if a.byref then zGr (zDz R) a.p else a.p) fun args => .call f args (hid.map (zGr (zDz R))) fun v hZ =>
   zLR [(as.flatMap (·.shared)).isEmpty,v.free,zEL hZ]
    (zGW R<|zTc R hid (hZ.map (zGr (zB7 R))) (zFd d (zGr (zB7 R) v)))
    again
 else .fail
def zRx (d:Option Nat) (f:FuncId) (args:List PV):PX :=
 .nats (H f).mode fun ms=>zFM ms args fun bs=>zDx ms bs fun as=>zOf d f as (zFb ms bs fun as=>zOf d f as .fail)
theorem zFI:∀ {ps:List PV} {ms:List Nat} {k:List (Bool×PV)→PX},(zFM ms ps k).toPM=zD0 ms ps fun as=>(k as).toPM
 | [],_,_=>rfl
 | p :: ps,ms,k=>by
  unfold zFM zD0
  generalize ms.headD 0=m
  split
  ·simp only [PX.toPM]
   congr 1;funext q
   cases q<;>first | rfl | skip
   simp only [PX.toPM,zFI]
  ·simp only [zFI]
theorem zEZ:∀ {ps:List (Bool×PV)} {ms:List Nat} {k:List Arg→PX},(zDx ms ps k).toPM=zCq ms ps fun as=>(k as).toPM
 | [],_,_=>rfl
 | (true,p)::ps,ms,k=>by simp only [zDx,zCq,zEZ]
 | (false,p)::ps,ms,k=>by simp only [zDx,zCq,zDe,zQN,zEZ]
theorem zGq:∀ {ps:List (Bool×PV)} {ms:List Nat} {k:List Arg→PX},(zFb ms ps k).toPM=zEh ms ps fun as=>(k as).toPM
 | [],_,_=>rfl
 | (true,p)::ps,ms,k=>by simp only [zFb,zEh,zGq]
 | (false,p)::ps,ms,k=>by simp only [zFb,zEh,zDe,zFu,zGq]
theorem zK4:∀ {rs:List Nat} {k:List PV→PX},(zRv rs k).toPM=zNG rs fun ps=>(k ps).toPM
 | [],_=>rfl
 | r::rs,k=>by simp only [zRv,zNG,PX.toPM,zK4]
theorem zOX:∀ {rs:List Nat} {os ps:List PV} {k:PX},(zTc rs os ps k).toPM=zNY rs os ps k.toPM
 | [],[],[],_=>rfl
 | r::rs,o::os,p::ps,k=>by simp only [zTc,zNY,PX.toPM,zOX]
 | [],[],_::_,_=>rfl
 | [],_::_,_,_=>rfl
 | _::_,[],_,_=>rfl
 | _::_,_::_,[],_=>rfl
theorem zL1:∀ {n:Nat} {R:List Nat} {k:List Nat→PX},(zOL n R k).toPM=zKq n R fun R=>(k R).toPM
 | 0,_,_=>rfl
 | n+1,R,k=>by simp only [zOL,zKq,zK4,zDe,zL1]
theorem zH3:∀ {rs:List Nat} {k:PX},(zGW rs k).toPM=zKe rs k.toPM
 | [],_=>rfl
 | r::rs,k=>by simp only [zGW,zKe,PX.toPM,zH3]
theorem zRq {d:Option Nat} {f:FuncId} {as:List Arg} {again:PX}:(zOf d f as again).toPM=zRn d f as again.toPM:=by
 simp only [zOf,zRn,zL1,zDe,zK4,PX.toPM,zMs,zH3,zOX,zEG]
theorem zRh {d:Option Nat} {f:FuncId} {args:List PV}:(zRx H d f args).toPM=zNk H d f args:=by
 simp only [zRx,zNk,zFI,zEZ,zRq,zGq,PX.toPM]
def zR9 (d:Option Nat) (args:List Operand) (g:PV):PX :=
 match g with
 | .func g first caps=>zPm args fun as => .pure d g (first++as++caps) (zRx H d g (first++as++caps))
 | _ => .fail
theorem zRf {d:Option Nat} {args:List Operand} {g:PV}:(zR9 H d args g).toPM=zSW H d args g:=by
 cases g<;>first | rfl | skip
 simp only [zR9,zSW,zIA,PX.toPM,zRh]
def zM1 (d:Option Nat) (sz:Nat) (base:PV) (ys:List PV):PX :=
 .test (ys.all (fun y=>Nat.beq y.cells.length sz&&y.cells.all fun q=>q.oneCell)) (.test (zBs ys).isEmpty (
 match base with
 | .bor r pre z lo n => .deep r pre fun q=>match q with
  | .own s xs =>
   .test (Nat.beq s sz) (.test (Nat.ble (lo+n) xs.length) (.test (Nat.ble (xs.length+ys.length) zA5) (
    .choose (Nat.beq (lo+n) xs.length) (.test (Nat.beq lo 0) (.wnode r pre .bad (zGc d (.own sz (xs++ys))))) (.emb (zLk d r pre z lo n s xs ys)))))
  | _ => .fail
 | .nils _ => .test (Nat.ble ys.length zA5) (zGc d (.own sz ys))
 | _ => .fail))
theorem zPQ {d:Option Nat} {sz:Nat} {base:PV} {ys:List PV}:(zM1 d sz base ys).toPM=zKK d sz base ys:=by
 cases base<;>simp only [zM1,zKK,PX.toPM,zDh,zBp]
 congr 1;congr 1;congr 1;funext q
 cases q<;>first | rfl | skip
 simp only [PX.toPM,zBp]
def zVr (x:Operand) (k:List PV→PX):PX :=
 match x with
 | .tmp t => .get t fun p=>match p with
  | .own _ xs => .set t .bad (k xs)
  | _ => .view t fun p=>zKP p fun xs => .test (xs.all (fun x=>x.plain)) (k xs)
 | x=>zGI x fun p=>zKP p fun xs => .test (xs.all (fun x=>x.plain)) (k xs)
theorem zSN {x:Operand} {k:List PV→PX}:(zVr x k).toPM=zM8 x fun l=>(k l).toPM:=by
 cases x<;>simp only [zVr,zM8,PX.toPM,zB4,zKl,zBq]
 congr 1;funext p
 cases p<;>first | rfl | simp only [PX.toPM,zKl,zBq]
def zLv (d:Option Nat) (b:Builtin) (ts:List TypeId) (args:List Operand):PX :=
 match b,args,ts with
 | .len,[x],t::_=>zGI x fun p=>match P.underlying t with
  | some (.array n _)=>zGc d (.int .i64 n)
  | some (.slice _) => .num (lenOf p) fun n=>zGc d (.int .i64 n)
  | _ => .fail
 | .append,[x,y],[t,t2]=>bif (zBP P t2).isNone then .fail else match (zBP P t).bind (szT P),(zBP P t).bind (zHT P),(zBP P t).bind (zCB P) with
  | some sz,some by_,some z=>if by_≤16384∧z.cells.length=sz then zGI x fun base=>zVr y fun ys=>zM1 d sz base ys else .fail
  | _,_,_ => .fail
 | .max,xs,_=>zPm xs fun ps => .pick (zV7 ps) fun v=>zGc d v
 | .min,xs,_=>zPm xs fun ps => .pick (zWV ps) fun v=>zGc d v
 | b,args,ts => .emb (zBl P d b ts args)
theorem zNa {d:Option Nat} {b:Builtin} {ts:List TypeId} {args:List Operand}:(zLv P d b ts args).toPM=zBl P d b ts args:=by
 unfold zLv
 split
 ·simp only [zB4,zBl]
  congr 1;funext p
  generalize P.underlying _=u
  cases u with
  | none=>rfl
  | some u =>
   cases u<;>first | rfl | exact zBp | skip
   simp only [PX.toPM,zBp]
   cases lenOf p<;>simp only [PX.toPM,zBp]
 ·simp only [zBl,zDe]
  congr 1
  generalize (zBP P _).bind (szT P)=a1
  generalize (zBP P _).bind (zHT P)=a2
  generalize (zBP P _).bind (zCB P)=a3
  cases a1<;>cases a2<;>cases a3<;>first | rfl | simp only [zN2,zB4,zSN,zPQ,PX.toPM]
 ·simp only [zBl,zIA,PX.toPM,zBp]
  congr 1;funext ps
  cases zV7 ps<;>simp only [PX.toPM,zBp]
 ·simp only [zBl,zIA,PX.toPM,zBp]
  congr 1;funext ps
  cases zWV ps<;>simp only [PX.toPM,zBp]
 ·rfl
end
end Go.Eng
namespace Go.Eng
open Go
section
variable (P:Program) (H:zBf)
def zVZ {α:Type} (x:Option α) (k:α→PX):PX :=
 match x with
 | some a=>k a
 | none => .fail
theorem zIZ {α:Type} {x:Option α} {k:α→PX}:(zVZ x k).toPM=zIr x fun a=>(k a).toPM:=by cases x<;>rfl
theorem zJT {x:Option PV} {k:PV→PX}:(PX.pick x k).toPM=zIr x fun a=>(k a).toPM:=by cases x<;>rfl
def zO9 (p:PV) (k:PV→PX) (k2:PX):PX :=
 match p with
 | .bor r pre _ lo n => .deep r pre fun q=>match q with
  | .own sz xs => .choose (Nat.beq lo 0&&Nat.beq n xs.length) (.wnode r pre .bad (k (.own sz xs))) k2
  | _=>k2
 | .bmap r pre => .deep r pre fun q=>match q with
  | .omap es => .wnode r pre .bad (k (.omap es))
  | _=>k2
 | p=>k p
theorem zMd {p:PV} {k:PV→PX} {k2:PX}:(zO9 p k k2).toPM=zNL p (fun q=>(k q).toPM) k2.toPM:=by
 cases p<;>simp only [zO9,zNL,PX.toPM]
 all_goals
  congr 1;funext q
  cases q<;>rfl
def zTi (p:PV) (k:PV→PX):PX:=zO9 p k (zPT zAb zDC p k)
theorem zOg {p:PV} {k:PV→PX}:(zTi p k).toPM=zMJ p fun q=>(k q).toPM:=by simp only [zTi,zMJ,zMd,zFu]
def zOE:List PV→(List PV→PX)→PX
 | [],k=>k []
 | p::ps,k=>zO9 p (fun q=>zOE ps fun qs=>k (q::qs)) .fail
theorem zLS:∀ {ps:List PV} {k:List PV→PX},(zOE ps k).toPM=zJh ps fun qs=>(k qs).toPM
 | [],_=>rfl
 | p::ps,k=>by simp only [zOE,zJh,zMd,zLS,PX.toPM]
def zRc:PV→Bool
 | .bor .. | .bmap .. | .bsl .. => true
 | _=>false
def zJu (tk:Bool) (p:PV) (k:PV→PX):PX :=
 match p with
 | .agg cs=>bif tk then zOE cs fun cs=>k (.agg cs) else .choose (cs.any zRc) (zPT zAb zDC p k) (k p)
 | .bsl .. => zPT zAb zDC p k
 | .bor .. | .bmap .. => bif tk then zTi p k else zPT zAb zDC p k
 | p=>k p
theorem zHz {tk:Bool} {p:PV} {k:PV→PX}:(zJu tk p k).toPM=zFR tk p fun q=>(k q).toPM:=by
 cases p<;>simp only [zJu,zFR,zDe,zLS,zOg,zFu,PX.toPM]
 rfl
def zId (tk:Bool):List PV→(List PV→PX)→PX
 | [],k=>k []
 | p::ps,k=>zJu tk p fun q=>zId tk ps fun qs=>k (q::qs)
theorem zI0 {tk:Bool}:∀ {ps:List PV} {k:List PV→PX},(zId tk ps k).toPM=zFZ tk ps fun qs=>(k qs).toPM
 | [],_=>rfl
 | p::ps,k=>by simp only [zId,zFZ,zHz,zI0]
def zON (r:Nat) (pre:zAS) (i c:Nat) (v:PV):PX :=
 .test (!v.heavy||v.ways.all (fun w => !(zAK r pre w.1 w.2&&Nat.blt pre.length w.2.length))) (.test (v.cells.all (fun q=>q.oneCell)) (.test (!v.cells.isEmpty) (zR3 r pre i c v.cells (.wcells r pre i c v.cells .ok))))
theorem zMq {r:Nat} {pre:zAS} {i c:Nat} {v:PV}:(zON r pre i c v).toPM=zHV r pre i c v:=by
 simp only [zON,zHV,PX.toPM,zRp,zDh]
def zJy (tk:Bool) (r:Nat) (pre:zAS) (v:PV) (k:PV→PX):PX :=
 bif pre.isEmpty && !tk then .view r fun q=>(match q with | .addr .. => k v | _=>zJu tk v k) else zJu tk v k
theorem zMN {tk:Bool} {r:Nat} {pre:zAS} {v:PV} {k:PV→PX}:(zJy tk r pre v k).toPM=zIa tk r pre v fun q=>(k q).toPM:=by
 simp only [zJy,zIa,zDe,PX.toPM,zHz]
 congr 1;congr 1;funext q
 cases q<;>first | rfl | exact zHz
def zIO (tk:Bool) (r:Nat) (pre:zAS) (i c:Nat) (v:PV):PX :=
 match zR6 r pre i c v with
 | some m => .deep r (pre++[(i,c)]) fun q=>match q with
  | .own s xs => .test (Nat.ble m xs.length) (.wnode r (pre++[(i,c)]) .bad (.same (.own s ((xs.drop 0).take m)) fun v=>zON r pre i c v))
  | _ => .fail
 | none=>zJy tk r pre v fun v => .same v fun v=>zON r pre i c v
theorem zJ7 {tk:Bool} {r:Nat} {pre:zAS} {i c:Nat} {v:PV}:(zIO tk r pre i c v).toPM=zHM tk r pre i c v:=by
 simp only [zIO,zHM]
 cases zR6 r pre i c v with
 | none=>simp only [zMN,PX.toPM,zMq]
 | some m =>
  simp only [PX.toPM]
  congr 1;funext q
  cases q<;>first | rfl | simp only [PX.toPM,zMq]
def zQF (fz tk:Bool) (t:TypeId) (a x:Operand):PX :=
 zGI a fun pa=>match pa,x with
 | .addr r pre i c _,.const (.slice none 0 0)=>zVZ ((zBP P t).bind (szT P)) fun s=>if szT P t=some 1 then zIO tk r pre i c (.own s []) else .fail
 | pa,x=>match pa,shT P t,szT P t with
 | .addr r pre i c _,some sh,some n=>(bif fz&&tk then zGI x else zLc x) fun v =>
  .test (Nat.beq v.cells.length n) (.test (v.isAgg==sh.isSome) (zIO (tk && !fz) r pre i c (bif fz && !tk then zAT v else v)))
 | _,_,_ => .fail
theorem zRS {fz tk:Bool} {t:TypeId} {a x:Operand}:(zQF P fz tk t a x).toPM=zOH P fz tk t a x:=by
 simp only [zQF,zOH,zB4]
 congr 1;funext pa
 have key:∀ (sh:Option (Option Nat)) (n:Option Nat),(match pa,sh,n with
   | .addr r pre i c _,some sh,some n=>(bif fz&&tk then zGI x else zLc x) fun v=>PX.test (Nat.beq v.cells.length n) (.test (v.isAgg==sh.isSome) (zIO (tk && !fz) r pre i c (bif fz && !tk then zAT v else v)))
   | _,_,_=>PX.fail).toPM=(match pa,sh,n with
   | .addr r pre i c _,some sh,some n=>(bif fz&&tk then opd x else zOc x) fun v=>bif Nat.beq v.cells.length n&&v.isAgg==sh.isSome then zHM (tk && !fz) r pre i c (bif fz && !tk then zAT v else v) else .fail
   | _,_,_=>PM.fail):=by
  intro sh n
  cases pa<;>first | rfl | skip
  cases sh<;>cases n<;>first | rfl | skip
  cases hc:(fz&&tk)<;>simp only [cond_true,cond_false,zB4,zFY,PX.toPM,zJ7,zDh]
 split
 ·simp only [zIZ,zN2,zJ7,PX.toPM]
 ·rename_i h
  rw [key]
  cases pa<;>first | rfl | skip
  cases x<;>first | rfl | skip
  rename_i v
  cases v<;>first | rfl | skip
  rename_i a n m
  cases a<;>cases n<;>cases m<;>first | rfl | exact (h _ _ _ _ _ rfl rfl).elim
def zIq (d:Option Nat) (p:PV):PX :=
 match d,p with
 | some d',.bor r [] z lo n=>if r=d' then .get r fun root=>match root with
   | .own sz xs => .test (Nat.ble (lo+n) xs.length) (.kill r [] (.same (.own sz ((xs.drop lo).take n)) fun o => .set r o .ok))
   | _ => .fail
  else zGc d p
 | _,_=>zGc d p
theorem zNS {d:Option Nat} {p:PV}:(zIq d p).toPM=zFG d p:=by
 unfold zIq zFG
 split
 ·simp only [zN2,zBp,PX.toPM]
  congr 1;congr 1;funext q
  cases q<;>rfl
 ·rename_i h
  split
  ·exact (h _ _ _ _ _ rfl rfl).elim
  ·exact zBp
def zIQ (tk nl:Bool) (d:Option Nat) (t:TypeId) (x:Operand):PX :=
 match x with
 | .const (.slice none 0 0) => .emb (zF7 P tk nl d t x)
 | x=>zLc x fun p=>bif tk then zTi p (zIq d) else zIq d p
theorem zMM {tk nl:Bool} {d:Option Nat} {t:TypeId} {x:Operand}:(zIQ P tk nl d t x).toPM=zF7 P tk nl d t x:=by
 unfold zIQ
 split
 ·rfl
 ·rename_i h
  unfold zF7
  split
  ·exact (h rfl).elim
  ·simp only [zFY,zDe,zOg,zNS]
def zR0 (d:Option Nat) (t:TypeId) (x:Operand):PX:=zLc x fun p=>match shT P t,szT P t with
 | some sh,some n => .test (decide (p.cells.length=n)) (.test (decide (p.isAgg=sh.isSome)) (.test p.whole (zGc d (.box p))))
 | _,_ => .fail
theorem zRe {d:Option Nat} {t:TypeId} {x:Operand}:(zR0 P d t x).toPM=zSR P d t x:=by
 simp only [zR0,zSR,zFY]
 congr 1;funext p
 cases shT P t<;>cases szT P t<;>first | rfl | skip
 simp only [PX.toPM,zBp,zBq,Bool.and_eq_true,decide_eq_true_eq]
 split<;>split<;>(try split)<;>simp_all
def zVu (nz:Option Nat) (x:Operand) (k:PV→PX):PX :=
 match nz,x with
 | some s,.const (.slice none 0 0)=>k (.own s [])
 | _,x=>zLc x k
def zOa (nz:Option Nat):List Operand→(List PV→PX)→PX
 | [],k=>k []
 | x::xs,k=>zVu nz x fun p=>zOa nz xs fun ps=>k (p::ps)
theorem zTm {nz:Option Nat} {x:Operand} {k:PV→PX}:(zVu nz x k).toPM=zV8 nz x fun p=>(k p).toPM:=by
 unfold zVu zV8
 split
 ·rfl
 ·rename_i h
  rw [zFY]
  split
  ·exact (h _ rfl rfl).elim
  ·rfl
theorem zLQ {nz:Option Nat}:∀ {xs:List Operand} {k:List PV→PX},(zOa nz xs k).toPM=zPd nz xs fun p=>(k p).toPM
 | [],_=>rfl
 | x::xs,k=>by simp only [zOa,zPd,zTm,zLQ]
def zFc (tk:Bool) (d:Option Nat) (t:TypeId) (n:Nat) (ps:List (Nat×Operand)):PX :=
 match zBP P t with
 | some e=>match szT P e,zCB P e with
  | some s,some z=>if n*s≤65536&&Nat.beq z.cells.length s&&ps.all (fun x=>x.1<n) then zOa (zWw (zCB P e)) (ps.map (·.2)) fun vs=>zId tk vs fun vs =>
    .sames vs fun vs => .test (zBs vs).isEmpty (.test (vs.all (fun v=>v.cells.length=s&&v.isAgg=z.isAgg&&v.whole)) (zGc d (.own s (zLI n z ((ps.map (·.1)).zip vs)))))
   else .fail
  | _,_ => .fail
 | none => .fail
theorem zH8 {tk:Bool} {d:Option Nat} {t:TypeId} {n:Nat} {ps:List (Nat×Operand)}:(zFc P tk d t n ps).toPM=zDL P tk d t n ps:=by
 simp only [zFc,zDL]
 cases zBP P t with
 | none=>rfl
 | some e =>
  simp only
  generalize szT P e=a1
  generalize zCB P e=a2
  cases a1<;>cases a2<;>first | rfl | skip
  simp only [zN2,zLQ,zI0,PX.toPM,zBp]
  congr 1;congr 1;funext vs;congr 1;funext vs
  cases (zBs vs).isEmpty with
  | false=>rfl
  | true=>simp only [cond_true,Bool.true_and,zBq,if_true]
def zO7 (d:Option Nat) (sh:Option Nat) (p:PV):PX :=
 match p with
 | .ref q => .test (decide (q.isAgg=sh.isSome)) (.test (decide (q.cells.length=sh.getD 1)) (zGc d q))
 | .addr r pre i c _=>zQk r pre i c sh (zGc d)
 | _ => .fail
theorem zLM {d:Option Nat} {sh:Option Nat} {p:PV}:(zO7 d sh p).toPM=zPF d sh p:=by
 cases p<;>simp only [zO7,zPF,PX.toPM,zK0,zBp]
 simp only [zBq,Bool.and_eq_true,decide_eq_true_eq]
 split<;>split<;>simp_all
def zNE (tk:Bool) (d:Option Nat) (t:TypeId) (a:Operand):PX:=zVZ (shT P t) fun sh=>zGI a fun p =>
 bif tk then (match p with
  | .addr r pre i c _=>zQk r pre i c sh fun v=>zPT zAb zDC v (zGc d)
  | p=>zO7 d sh p) else zO7 d sh p
theorem zPI {tk:Bool} {d:Option Nat} {t:TypeId} {a:Operand}:(zNE P tk d t a).toPM=zOh P tk d t a:=by
 simp only [zNE,zOh,zIZ,zB4,zDe,zLM]
 congr 1;funext sh;congr 1;funext p;congr 1
 cases p<;>simp only [zLM,zK0,zFu,zBp]
def zP9 (d:Option Nat) (op:BinOp) (t:TypeId) (x y:Operand):PX:=zGI x fun p=>zGI y fun q => .pick (zJV P op t p q) (zGc d)
theorem zRw {d:Option Nat} {op:BinOp} {t:TypeId} {x y:Operand}:(zP9 P d op t x y).toPM=zTy P d op t x y:=by
 simp only [zP9,zTy,zB4,zJT,zBp]
def zYZ (d:Option Nat) (op:UnOp) (p:PV):PX :=
 match op,p with
 | .not,.bool b=>zGc d (.bool !b)
 | .neg,.int k n=>zGc d (.int k (k.wrap (0-n)))
 | _,_ => .fail
theorem zUZ {d:Option Nat} {op:UnOp} {p:PV}:(zYZ d op p).toPM=unV d op p:=by
 cases op<;>cases p<;>first | rfl | exact zBp
def zRN (d:Option Nat) (t:TypeId) (p:PV):PX :=
 match P.underlying t,p with
 | some (.int k),.int _ n=>zGc d (.int k (k.wrap n))
 | _,_ => .fail
theorem zRK {d:Option Nat} {t:TypeId} {p:PV}:(zRN P d t p).toPM=zSa P d t p:=by
 simp only [zRN,zSa]
 cases P.underlying t with
 | none=>rfl
 | some u=>cases u<;>cases p<;>first | rfl | exact zBp
def zFJ (d:Option Nat) (t:TypeId) (l c:Operand):PX :=
 zGI l fun l=>zFz l fun l=>zGI c fun c=>zFz c fun c=>match zBP P t with
 | some e=>match zCB P e,szT P e,zHT P e with
  | some z,some s,some b => .test (decide (l≤c)) (.test (decide (c≤zA5)) (.test (decide (b≤16384∧z.cells.length=s)) (zGc d (.own s (List.replicate l z)))))
  | _,_,_ => .fail
 | none => .fail
theorem zJC {d:Option Nat} {t:TypeId} {l c:Operand}:(zFJ P d t l c).toPM=zE0 P d t l c:=by
 simp only [zFJ,zE0,zB4,zEJ]
 congr 1;funext p;congr 1;funext l;congr 1;funext q;congr 1;funext c
 cases zBP P t with
 | none=>rfl
 | some e =>
  simp only
  generalize zCB P e=a1
  generalize szT P e=a2
  generalize zHT P e=a3
  cases a1<;>cases a2<;>cases a3<;>first | rfl | skip
  simp only [PX.toPM,zBp,zBq,decide_eq_true_eq]
  by_cases h1:l≤c<;>by_cases h2:c≤zA5<;>simp [h1,h2]
def zNZ (d:Option Nat) (n:Nat) (e:TypeId) (p:PV) (i:Nat):PX :=
 match szT P e,shT P e with
 | some s,some sh => .test (decide (i<n)) (.pick (zBK p (i*s) sh) (zGc d))
 | _,_ => .fail
def zRV (d:Option Nat) (e:TypeId) (p:PV) (i:Nat):PX :=
 match p with
 | .sl xs => .pick (xs[i]?) fun x => .test (decide (szT P e=some x.cells.length)) (zGc d (.ref x))
 | .bor r pre z lo n=>match shT P e with
  | some sh => .test (decide (i<n)) (.test (decide (szT P e=some z)) (.num (some (lo+i)) fun j=>zGc d (.addr r pre j 0 sh)))
  | none => .fail
 | .bsl r pre j c s ag n => .test (decide (i<n)) (.test (decide (szT P e=some s)) (.num (some (c+i*s)) fun c=>zGc d (.addr r pre j c (if ag then some s else none))))
 | _ => .fail
theorem zPO {d:Option Nat} {n:Nat} {e:TypeId} {p:PV} {i:Nat}:(zNZ P d n e p i).toPM=zN5 P d n e p i:=by
 simp only [zNZ,zN5]
 generalize szT P e=a1
 generalize shT P e=a2
 cases a1<;>cases a2<;>first | rfl | skip
 simp only [PX.toPM,zJT,zBp,zBq,decide_eq_true_eq]
theorem zRi {d:Option Nat} {e:TypeId} {p:PV} {i:Nat}:(zRV P d e p i).toPM=zRQ P d e p i:=by
 cases p<;>simp only [zRV,zRQ,PX.toPM,zJT,zBp]
 ·congr 1;funext x;simp only [zBq,decide_eq_true_eq]
 ·cases shT P e with
  | none=>rfl
  | some sh =>
   simp only [PX.toPM,zBp,zBq,decide_eq_true_eq]
   split<;>split<;>simp_all
 ·simp only [zBq,decide_eq_true_eq]
  split<;>split<;>simp_all
def zFw (d:Option Nat) (t:TypeId) (x i:Operand):PX :=
 zGI x fun p=>zGI i fun i=>zFz i fun i=>match P.underlying t with
 | some (.array n e)=>zNZ P d n e p i
 | some (.slice e)=>zRV P d e p i
 | _ => .fail
theorem zI7 {d:Option Nat} {t:TypeId} {x i:Operand}:(zFw P d t x i).toPM=zFa P d t x i:=by
 simp only [zFw,zFa,zB4,zEJ]
 congr 1;funext p;congr 1;funext q;congr 1;funext i
 cases P.underlying t with
 | none=>rfl
 | some u=>cases u<;>first | rfl | exact zPO P | exact zRi P
def zLs (d:Option Nat) (t:TypeId) (x i:Operand):PX :=
 zGI x fun p=>zGI i fun i=>zFz i fun i=>match P.underlying t with
 | some (.array n e)=>match szT P e,shT P e with
  | some s,some sh => .test (decide (i<n)) (.pick (sub p (i*s) sh) (zGc d))
  | _,_ => .fail
 | _ => .fail
theorem zNj {d:Option Nat} {t:TypeId} {x i:Operand}:(zLs P d t x i).toPM=zKM P d t x i:=by
 simp only [zLs,zKM,zB4,zEJ]
 congr 1;funext p;congr 1;funext q;congr 1;funext i
 cases P.underlying t with
 | none=>rfl
 | some u =>
  cases u<;>first | rfl | skip
  rename_i n e
  simp only
  generalize szT P e=a1
  generalize shT P e=a2
  cases a1<;>cases a2<;>first | rfl | skip
  simp only [PX.toPM,zJT,zBp,zBq,decide_eq_true_eq]
def zV0 (x:Option Operand) (n:Nat) (k:Nat→PX):PX :=
 match x with
 | some x=>zGI x fun p=>zFz p k
 | none=>k n
theorem zQm {x:Option Operand} {n:Nat} {k:Nat→PX}:(zV0 x n k).toPM=zSl x n fun m=>(k m).toPM:=by
 cases x with
 | none=>rfl
 | some x=>simp only [zV0,zSl,zB4,zEJ]
def zNe (d:Option Nat) (s:Nat) (p:PV) (l h:Nat):PX :=
 match p with
 | .sl xs => .test (Nat.ble l h) (.test (Nat.ble h xs.length) (.test (xs.all (fun x=>Nat.beq x.cells.length s)) (zGc d (.sl ((xs.drop l).take (h-l))))))
 | .bor r pre z a n =>
  .test (Nat.beq z s) (.test (Nat.ble l h) (
   .choose (Nat.ble h n) (.choose (Nat.beq l 0||Nat.blt l h) (zGc d (.bor r pre z (a+l) (h-l))) (zGc d (.sl [])))
   (.deep r pre fun q=>match q with
    | .own _ xs => .test (Nat.ble (a+h) xs.length) (.choose (Nat.beq l 0||Nat.blt l h) (zGc d (.bor r pre z (a+l) (h-l))) (zGc d (.sl [])))
    | _ => .fail)))
 | _ => .fail
theorem zST {d:Option Nat} {b:Bool} {p q:PV}:put d (bif b then p else q)=bif b then put d p else put d q:=by cases b<;>rfl
theorem zPl {d:Option Nat} {s:Nat} {p:PV} {l h:Nat}:(zNe d s p l h).toPM=zOO d s p l h:=by
 cases p<;>simp only [zNe,zOO,PX.toPM,zBp,zDh,zST]
 congr 1;congr 1;congr 1;congr 1;funext q
 cases q<;>first | rfl | simp only [PX.toPM,zBp]
def zNB (d:Option Nat) (n s:Nat) (sh:Option Nat) (p:PV) (l h:Nat):PX :=
 .test (Nat.ble l h) (.test (Nat.ble h n) (.test (Nat.beq l 0||Nat.blt l n) (
  match p with
  | .addr r pre i c _ => .num (some (h-l)) fun m=>zGc d (.bsl r pre i (c+l*s) s sh.isSome m)
  | .ref (.agg cs) => .test (Nat.ble (n*s) cs.length) (.test (zCf sh.isSome s (h-l) ((cs.drop (l*s)).take ((h-l)*s))) (.test (zBs cs).isEmpty (zGc d (.sl (zCh sh.isSome s (h-l) ((cs.drop (l*s)).take ((h-l)*s)))))))
  | _ => .fail)))
theorem zPj {d:Option Nat} {n s:Nat} {sh:Option Nat} {p:PV} {l h:Nat}:(zNB d n s sh p l h).toPM=zQq d n s sh p l h:=by
 cases p<;>simp only [zNB,zQq,PX.toPM,zBp,zDh]
 rename_i q
 cases q<;>simp only [PX.toPM,zBp,zDh]
def zQh (d:Option Nat) (t:TypeId) (x:Operand) (lo hi mx:Option Operand):PX :=
 match mx with
 | some m => .emb (zJQ P d t x lo hi (some m))
 | none=>zGI x fun p=>match P.underlying t with
  | some (.array n e)=>match szT P e,shT P e with
   | some s,some sh=>zV0 hi n fun h=>zV0 lo 0 fun l=>zNB d n s sh p l h
   | _,_ => .fail
  | some (.slice e)=>match szT P e,lenOf p with
   | some s,some n=>zV0 hi n fun h=>zV0 lo 0 fun l=>zNe d s p l h
   | _,_ => .fail
  | _ => .fail
theorem zQa {d:Option Nat} {t:TypeId} {x:Operand} {lo hi mx:Option Operand}:(zQh P d t x lo hi mx).toPM=zJQ P d t x lo hi mx:=by
 cases mx with
 | some _=>rfl
 | none =>
  simp only [zQh,zJQ,zB4]
  congr 1;funext p
  cases P.underlying t with
  | none=>rfl
  | some u =>
   cases u<;>first | rfl | skip
   ·rename_i e
    simp only
    generalize szT P e=a1
    generalize lenOf p=a2
    cases a1<;>cases a2<;>first | rfl | simp only [zQm,zPl]
   ·rename_i n e
    simp only
    generalize szT P e=a1
    generalize shT P e=a2
    cases a1<;>cases a2<;>first | rfl | simp only [zQm,zPj]
def zHg (es:List (PV×PV)) (i:Nat):Option PV:=(es[i]?).map (·.2)
def zI9 (d:Option Nat) (kt:TypeId) (z key:PV) (ok:Bool) (es:List (PV×PV)):PX :=
 .idx (zDa P kt key es 0) fun x=>match x with
 | some i => .pick (zHg es i) fun v => .test v.lone (zFd d (if ok then .tup [v,.bool true] else v))
 | none=>zFd d (if ok then .tup [z,.bool false] else z)
theorem zJ5 {d:Option Nat} {kt:TypeId} {z key:PV} {ok:Bool} {es:List (PV×PV)}:(zI9 P d kt z key ok es).toPM=zIT P d kt z key ok es:=by
 simp only [zI9,zIT,PX.toPM]
 cases zDa P kt key es 0 with
 | none=>rfl
 | some x =>
  cases x with
  | none=>exact zEG
  | some i =>
   show (PX.pick (zHg es i) fun v => .test v.lone (zFd d (if ok then .tup [v,.bool true] else v))).toPM=_
   rw [zJT]
   simp only [zHg,PX.toPM,zEG]
   cases es[i]?<;>rfl
def zQs (d:Option Nat) (kt:TypeId) (z key:PV) (ok:Bool) (m:PV):PX :=
 match m with
 | .nilm=>zI9 P d kt z key ok []
 | .map es=>zI9 P d kt z key ok es
 | .bmap r pre => .deep r pre fun q=>match q with
  | .omap es=>zI9 P d kt z key ok es
  | _ => .fail
 | _ => .fail
theorem zRs {d:Option Nat} {kt:TypeId} {z key:PV} {ok:Bool} {m:PV}:(zQs P d kt z key ok m).toPM=zSD P d kt z key ok m:=by
 cases m<;>first | rfl | exact zJ5 P | skip
 simp only [zQs,zSD,PX.toPM]
 congr 1;funext q
 cases q<;>first | rfl | exact zJ5 P
def zJl (d:Option Nat) (t:TypeId) (m x:Operand) (ok:Bool):PX :=
 zGI m fun m=>zGI x fun key=>match P.underlying t with
 | some (.map kt e) => .test (zOk P 20 kt key) (zVZ (zCB P e) fun z => .test (zJk z).lone (zQs P d kt (zJk z) key ok m))
 | _ => .fail
theorem zLN {d:Option Nat} {t:TypeId} {m x:Operand} {ok:Bool}:(zJl P d t m x ok).toPM=zIu P d t m x ok:=by
 simp only [zJl,zIu,zB4]
 congr 1;funext p;congr 1;funext q
 cases P.underlying t with
 | none=>rfl
 | some u=>cases u<;>first | rfl | simp only [PX.toPM,zIZ,zRs]
def zTV (es:List (PV×PV)) (k:List (PV×PV)→PX):PX := .same (.omap es) fun q=>match q with
 | .omap es=>k es
 | _ => .fail
def zNJ (kt:TypeId) (key v m:PV):PX :=
 match m with
 | .bmap r pre => .test v.lone (.deep r pre fun q=>match q with
  | .omap es => .idx (zDa P kt key es 0) fun x=>match x with
   | some i=>zTV (es.modify i fun _=>(key,v)) fun es => .wnode r pre (.omap es) .ok
   | none=>zTV (es++[(key,v)]) fun es => .wnode r pre (.omap es) .ok
  | _ => .fail)
 | _ => .fail
theorem zPt {kt:TypeId} {key v m:PV}:(zNJ P kt key v m).toPM=zLP P kt key v m:=by
 cases m<;>first | rfl | skip
 simp only [zNJ,zLP,PX.toPM]
 congr 1;congr 1;funext q
 cases q<;>first | rfl | skip
 rename_i es
 simp only [PX.toPM]
 cases zDa P kt key es 0 with
 | none=>rfl
 | some x=>cases x<;>rfl
def zFO (t:TypeId) (m x y:Operand):PX:=zGI m fun m=>zGI x fun key=>match P.underlying t with
 | some (.map kt _) => .test (zOk P 20 kt key&&key.flat) (zLc y fun v=>zPT zAb zDC v fun v=>zNJ P kt key (zAT v) m)
 | _ => .fail
theorem zI4 {t:TypeId} {m x y:Operand}:(zFO P t m x y).toPM=zFe P t m x y:=by
 simp only [zFO,zFe,zB4]
 congr 1;funext p;congr 1;funext q
 cases P.underlying t with
 | none=>rfl
 | some u=>cases u<;>first | rfl | simp only [PX.toPM,zFY,zFu,zPt]
def zT1 (es:List (PV×PV)) (i:Nat):Option PV:=(es[i]?).map (·.1)
def zNX (d:Option Nat) (kt:TypeId) (z key m:PV):PX :=
 match m with
 | .bmap r pre => .deep r pre fun q=>match q with
  | .omap es => .idx (zDa P kt key es 0) fun x=>match x with
   | some i => .pick (zHg es i) fun v => .test v.lone (.wnode r pre (.omap (es.modify i fun _=>(key,v))) (zFd d (.tup [v,.int .i64 i])))
   | none => .wnode r pre (.omap (es++[(key,z)])) (zFd d (.tup [z,.int .i64 es.length]))
  | _ => .fail
 | _ => .fail
theorem zPY {d:Option Nat} {kt:TypeId} {z key m:PV}:(zNX P d kt z key m).toPM=zO0 P d kt z key m:=by
 cases m<;>first | rfl | skip
 simp only [zNX,zO0,PX.toPM]
 congr 1;funext q
 cases q<;>first | rfl | skip
 rename_i es
 simp only [PX.toPM]
 cases zDa P kt key es 0 with
 | none=>rfl
 | some x =>
  cases x with
  | none=>simp only [PX.toPM,zEG]
  | some i =>
   simp only [PX.toPM,zHg]
   cases es[i]? with
   | none=>rfl
   | some kv=>obtain ⟨k,v⟩:=kv;simp only [Option.map_some,PX.toPM,zEG]
def zGC (d:Option Nat) (t:TypeId) (m x:Operand):PX:=zGI m fun m=>zGI x fun key=>match P.underlying t with
 | some (.map kt el) => .test (zOk P 20 kt key&&key.flat) (zVZ (zCB P el) fun z => .test (zJk z).lone (zNX P d kt (zJk z) key m))
 | _ => .fail
theorem zJ1 {d:Option Nat} {t:TypeId} {m x:Operand}:(zGC P d t m x).toPM=zFU P d t m x:=by
 simp only [zGC,zFU,zB4]
 congr 1;funext p;congr 1;funext q
 cases P.underlying t with
 | none=>rfl
 | some u=>cases u<;>first | rfl | simp only [PX.toPM,zIZ,zPY]
def zJv (i:Nat) (v m:PV):PX :=
 match m with
 | .bmap r pre => .test v.lone (.deep r pre fun q=>match q with
  | .omap es => .pick (zT1 es i) fun k => .wnode r pre (.omap (es.modify i fun _=>(k,v))) .ok
  | _ => .fail)
 | _ => .fail
theorem zL0 {i:Nat} {v m:PV}:(zJv i v m).toPM=zIz i v m:=by
 cases m<;>first | rfl | skip
 simp only [zJv,zIz,PX.toPM]
 congr 1;congr 1;funext q
 cases q<;>first | rfl | skip
 rename_i es
 simp only [PX.toPM,zT1]
 cases es[i]? with
 | none=>rfl
 | some kv=>obtain ⟨k,x⟩:=kv;rfl
def zEW (m s y:Operand):PX:=zGI m fun m=>zGI s fun s=>zFz s fun i=>zLc y fun v=>zPT zAb zDC v fun v=>zJv i (zAT v) m
theorem zH7 {m s y:Operand}:(zEW m s y).toPM=zEs m s y:=by
 simp only [zEW,zEs,zB4,zEJ,zFY,zFu,zL0]
def zNI (d:Option Nat) (c:Call):PX :=
 match c.callee with
 | .builtin b=>zLv P d b c.argTypes.toList c.args.toList
 | .value f=>zGI f (zR9 H d c.args.toList)
 | _ => .fail
theorem zPZ {d:Option Nat} {c:Call}:(zNI P H d c).toPM=zJH P H d c:=by
 simp only [zNI,zJH]
 cases c.callee<;>simp only [PX.toPM,zNa,zB4,zRf]
def opX (fz tk nl:Bool) (o:Oper):PX :=
 match o.op with
 | .assign x=>zIQ P tk nl o.dst o.type x
 | .box t x=>zR0 P o.dst t x
 | .buildSlice t n ps=>zFc P tk o.dst t n ps.toList
 | .load t a=>zNE P tk o.dst t a
 | .store t a x=>zQF P fz tk t a x
 | .binOp op t x y _=>zP9 P o.dst op t x y
 | .unOp op _ x=>zGI x (zYZ o.dst op)
 | .convert _ t x=>zGI x (zRN P o.dst t)
 | .makeSlice t l c=>zFJ P o.dst t l c
 | .slice t x lo hi mx=>zQh P o.dst t x lo hi mx
 | .indexAddr t x i=>zFw P o.dst t x i
 | .index t x i=>zLs P o.dst t x i
 | .lookup t m x ok=>zJl P o.dst t m x ok
 | .mapUpdate t m x y=>zFO P t m x y
 | .mapEntry t m x=>zGC P o.dst t m x
 | .entryStore _ m s x=>zEW m s x
 | .call c=>zNI P H o.dst c
 | _ => .emb (opM P H fz tk nl o)
theorem zWb {fz tk nl:Bool} {o:Oper}:(opX P H fz tk nl o).toPM=opM P H fz tk nl o:=by
 obtain ⟨dst,op,type,pos,after,guard⟩:=o
 cases op<;>simp only [opX,opM,PX.toPM,zMM,zRe,zH8,zPI,zRS,zRw,zB4,zUZ,zRK,zJC,zQa,zI7,zNj,zLN,zI4,zJ1,zH7,zPZ]
end
end Go.Eng
namespace Go.Eng
open Go
section
variable [Yo] {P:Program} {H:zBf} {f:FuncId} {nt:Nat} {e e':Env} {lg:Option Log} {K:X→Env→Option Log→Prop} {i:Nat} {c:Code} {s:RS} {R:Env→Option Log→Prop}
abbrev zYT (P:Program) (H:zBf) (f:FuncId) (c:Code) (i:Nat):PX:=opX P H (((H f).frzs (rid c)).contains i) (((H f).take (rid c)).contains i) (H f).nils (zDY c i)
def zVW [Yo] (P:Program) (H:zBf) (f:FuncId) (c:Code) (i:Nat) (as:Ans) (s:RS):Option (RS×List Prop) :=
 match (zYT P H f c i).run P H as s.e with
 | some (e',t,obs)=>(zSg c i s e' t).map fun s'=>(s',obs)
 | none=>none
def rsX (o:Option (RS×List Prop)):RS:=zVY (o.map (·.1))
theorem S_x (as:Ans) (obs:List Prop) (ho:zS3 obs) (h:WS P H f c (i+1) (rsX (zVW P H f c i as s)) R) (hq:(zVW P H f c i as s).map (·.2)=some obs:=by kernel_rfl) (hi:Nat.blt i (zFj c).size=true:=by kernel_rfl):WS P H f c i s R:=by
 obtain ⟨⟨s',obs'⟩,hs,hq⟩:=Option.map_eq_some_iff.1 hq
 simp only at hq;subst hq
 simp only [zVW] at hs
 split at hs
 ·rename_i e1 t obs hr
  obtain ⟨s1,h1,h2⟩:=Option.map_eq_some_iff.1 hs
  simp only [Prod.mk.injEq] at h2
  obtain ⟨rfl,rfl⟩:=h2
  obtain ⟨n0,hn⟩:=PX.run_ok hr ho
  refine zXT (m:=some (e1,t)) ⟨n0,fun n vp=>?_⟩ ?_ ?_ hi
  ·have:=hn n vp
   rw [zWb] at this
   exact this
  ·simpa [rsX,zVW,hr,h1] using h
  ·simp [h1]
 ·cases hs
def zU6 (p:PV) (k:PV→PX) (k2:PX):PX :=
 match p with
 | .bor r pre _ lo n => .deep r pre fun q=>match q with
  | .own sz xs => .choose (Nat.ble (lo+n) xs.length) (.wnode r pre .bad (.same (.own sz ((xs.drop lo).take n)) k)) k2
  | _=>k2
 | .addr r pre 0 0 _ => .deep r pre fun q=>match q with
  | .box q => .wnode r pre .bad (k (.box q))
  | _=>k2
 | .bmap r pre => .deep r pre fun q=>match q with
  | .omap es => .wnode r pre .bad (k (.omap es))
  | _=>k2
 | _=>k2
omit [Yo] in
theorem zTM {p:PV} {k:PV→PX} {k2:PX}:(zU6 p k k2).toPM=zQB p (fun q=>(k q).toPM) k2.toPM:=by
 unfold zU6 zQB
 split
 ·simp only [PX.toPM]
  congr 1;funext q
  cases q<;>rfl
 ·simp only [PX.toPM]
  congr 1;funext q
  cases q<;>rfl
 ·simp only [PX.toPM]
  congr 1;funext q
  cases q<;>rfl
 ·rename_i h1 h2 h3
  split
  ·exact (h1 _ _ _ _ _ rfl).elim
  ·exact (h2 _ _ _ rfl).elim
  ·exact (h3 _ _ rfl).elim
  ·rfl
def zLj (frz:Bool) (p:PV) (k:PV→PX):PX :=
 bif frz||p.ways.any (fun w=>Nat.ble zAn w.1) then zPT zAn zDC p k else zU6 p k (zPT zAn zDC p k)
def zEp (frz:Bool):List PV→(List PV→PX)→PX
 | [],k=>k []
 | p::ps,k=>zLj frz p fun q=>zEp frz ps fun qs=>k (q::qs)
def zIs (frz:Bool) (p:PV) (k:PV→PX):PX :=
 match p with
 | .agg cs => .choose (cs.all fun q=>q.num) (k (.agg cs)) (zEp frz cs fun qs=>k (.agg qs))
 | p=>zLj frz p k
omit [Yo] in
theorem zJ6 {frz:Bool} {p:PV} {k:PV→PX}:(zLj frz p k).toPM=zFP frz p fun q=>(k q).toPM:=by
 simp only [zLj,zFP,zDe,zFu,zTM]
omit [Yo] in
theorem zFB {frz:Bool}:∀ {ps:List PV} {k:List PV→PX},(zEp frz ps k).toPM=zCr frz ps fun qs=>(k qs).toPM
 | [],_=>rfl
 | p::ps,k=>by simp only [zEp,zCr,zJ6,zFB]
omit [Yo] in
theorem zNT {frz:Bool} {p:PV} {k:PV→PM} (h:p.num=true):zFP frz p k=k p:=by
 cases p<;>first | (cases h;done) | skip
 all_goals cases frz<;>rfl
omit [Yo] in
theorem zFF {frz:Bool}:∀ {ps:List PV} {k:List PV→PM},ps.all (fun q=>q.num)=true→zCr frz ps k=k ps
 | [],_,_=>rfl
 | p::ps,k,h=>by
  simp only [List.all_cons,Bool.and_eq_true] at h
  simp only [zCr,zNT h.1,zFF h.2]
omit [Yo] in
theorem zIR {frz:Bool} {p:PV} {k:PV→PX}:(zIs frz p k).toPM=zGs frz p fun q=>(k q).toPM:=by
 cases p<;>first | exact zJ6 | skip
 rename_i cs
 simp only [zIs,zGs,PX.toPM,zFB]
 cases h:cs.all fun q=>q.num with
 | false=>rfl
 | true=>simp only [cond_true];exact (zFF (k:=fun qs=>(k (.agg qs)).toPM) h).symm
def zHD (P:Program) (frz:Bool):Nat→List ResultVar→PX
 | _,[] => .ok
 | j,.tmp t::rs => .view t fun p=>zIs frz p fun q => .same q fun q=>zVV (zAx+j) q (zHD P frz (j+1) rs)
 | j,.cell a t::rs=>zVZ (shT P t) fun sh => .view a fun p=>match p with
  | .addr r pre i c _=>zQk r pre i c sh fun v=>zIs frz v fun q => .same q fun q=>zVV (zAx+j) q (zHD P frz (j+1) rs)
  | _ => .fail
omit [Yo] in
theorem zHw {frz:Bool}:∀ {rs:List ResultVar} {j:Nat},(zHD P frz j rs).toPM=zCE P frz j rs
 | [],_=>rfl
 | .tmp t::rs,j=>by simp only [zHD,zCE,PX.toPM,zIR,zK5,zHw]
 | .cell a t::rs,j=>by
  simp only [zHD,zCE,zIZ,PX.toPM]
  congr 1;funext sh;congr 1;funext p
  cases p<;>first | rfl | simp only [zK0,zIR,PX.toPM,zK5,zHw]
def zNm [Yo] (P:Program) (H:zBf) (f:FuncId) (fn:Func) (as:Ans) (e:Env) (nh:Nat):Option ((PV×List PV)×List Prop) :=
 match (zHD P (H f).frz 0 fn.results.toList).run P H as e with
 | some (e',_,obs)=>bif Nat.beq fn.results.size 1&&(e'.get zAx).isTup then none else some ((zVP e' fn.results.size,(List.range nh).map fun j=>e'.get (zAn+j)),obs)
 | none=>none
def zVA [Yo] (P:Program) (H:zBf) (f:FuncId) (fn:Func) (nh:Nat) (v:PV) (hZ:List PV) (x:X) (e:Env) (lg:Option Log):Prop :=
 (x = .norm∨x = .ret)∧lg=none∧∃ n0,∀ n,n0≤n→∃ e',(zCE P (H f).frz 0 fn.results.toList).run (zCR P H n) e=some e'∧(bif Nat.beq fn.results.size 1&&(e'.get zAx).isTup then none else some (zVP e' fn.results.size,(List.range nh).map fun j=>e'.get (zAn+j)))=some (v,hZ)
theorem E_x {fn:Func} {nh:Nat} {v:PV} {h:List PV} {x:X} (as:Ans) (obs:List Prop) (v':PV) (h':List PV) (ho:zS3 obs) (hv:v'=v) (hh:h'=h) (hf:zNm P H f fn as e nh=some ((v',h'),obs):=by kernel_rfl) (hl:lg=none:=by kernel_rfl) (hx:x = .norm∨x = .ret:=by first | exact .inr rfl | exact .inl rfl):zVA P H f fn nh v h x e lg:=by
 subst hv;subst hh
 simp only [zNm] at hf
 split at hf
 ·rename_i e1 t obs' hr
  rcases zBe hf with ⟨_,hf⟩ | ⟨hb,hf⟩
  ·cases hf
  ·simp only [Option.some.injEq,Prod.mk.injEq] at hf
   obtain ⟨⟨h1,h2⟩,rfl⟩:=hf
   obtain ⟨n0,hn⟩:=PX.run_ok hr ho
   refine ⟨hx,hl,n0,fun n vp=>⟨e1,?_,?_⟩⟩
   ·have:=hn n vp
    rw [zHw] at this
    exact zEb this
   ·rw [hb];simp only [cond_false,h1,h2]
 ·cases hf
theorem zAg (fn:Func) {args hid:List PV} {v:PV} {hZ:List PV} (h:W P H f fn.ntmps (fn.body.getD .ret) (zA4 args hid) none (zVA P H f fn hid.length v hZ)) (hf:P.funcs[f]? = some fn:=by kernel_rfl) (hi:(H f).intr=0:=by kernel_rfl) (hb:fn.body.isSome=true:=by kernel_rfl)
  (hc:(Nat.ble args.length fn.ntmps&&Nat.ble hid.length 1000&&args.all (fun p => !p.isTup))=true:=by kernel_rfl):zDp P H f args hid v hZ:=by
 obtain ⟨body,hb⟩:∃ body,fn.body=some body:=by cases hx:fn.body<;>first | exact ⟨_,rfl⟩ | (rw [hx] at hb;cases hb)
 simp only [hb,Option.getD_some] at h
 obtain ⟨n0,x,e1,lg1,h1,hx,rfl,n1,hr⟩:=h
 refine ⟨max n0 n1+1,fun n hn=>?_⟩
 obtain ⟨n,rfl⟩:∃ k,n=k+1:=⟨n-1,by omega⟩
 have j7:=h1 n (n+1) (by omega) (by omega)
 obtain ⟨e2,h2,hr⟩:=hr n (by omega)
 show zJK P H (zCR P H n) Yo.yo zB8 (n+1) f args hid=_
 simp only [zJK,hf,hi,hb,zJA,hc,cond_true,j7,ne_eq,not_true,if_false]
 rcases hx with rfl | rfl<;>simp only [h2,hr]
theorem zU5 (k:Int) (xss:List (List PV)) (args:List PV) (a:Nat) (h1:k=1→WS P H f c (i+1) ⟨(zFi s.dr i (zDY c i) {all:=true}).getD none,zLG ((put (zDY c i).dst (.bool false)).run zHn (s.e.forget zAb)),some ⟨xss++[args],k-1,a⟩⟩ R)
  (h2:k≠1→WS P H f c (i+1) ⟨(zFi s.dr i (zDY c i) {all:=true}).getD none,zLG ((put (zDY c i).dst (.bool true)).run zHn s.e),some ⟨xss++[args],k-1,a⟩⟩ R) (hk:k≠0)
  (hy:zCa s.e (zDY c i)=some (a,args):=by kernel_rfl) (hl:s.lg=some ⟨xss,k,a⟩:=by kernel_rfl) (hw:zLg (zFj c) s.e (zDY c i)=some true:=by kernel_rfl) (hf:args.all PV.flat=true:=by kernel_rfl)
  (hd:(zFi s.dr i (zDY c i) {all:=true}).isSome=true:=by kernel_rfl) (uL:((put (zDY c i).dst (.bool false)).run zHn (s.e.forget zAb)).isSome=true:=by kernel_rfl) (vK:((put (zDY c i).dst (.bool true)).run zHn s.e).isSome=true:=by kernel_rfl)
  (hi:Nat.blt i (zFj c).size=true:=by kernel_rfl):WS P H f c i s R:=by
 have wQ:zFi s.dr i (zDY c i) {all:=true}=some ((zFi s.dr i (zDY c i) {all:=true}).getD none):=by
  cases hx:zFi s.dr i (zDY c i) {all:=true} with
  | none=>rw [hx] at hd;cases hd
  | some d=>rfl
 have vW:(k != 0)=true:=by simpa using hk
 by_cases jM:k=1
 ·refine zKY hi ⟨0,fun n _=>?_⟩ wQ (h1 jM)
  have hr:(put (zDY c i).dst (.bool false)).run (zCR P H n) (s.e.forget zAb)=some (zLG ((put (zDY c i).dst (.bool false)).run zHn (s.e.forget zAb))):=zFy (zHK uL)
  have wN:(k==1)=true:=by simpa using jM
  have hyr:zBJ (zCR P H n) (zFj c) (zDY c i) a args ⟨xss,k,a⟩ s.e=some (zLG ((put (zDY c i).dst (.bool false)).run zHn (s.e.forget zAb)),some ⟨xss++[args],k-1,a⟩):=by
   unfold zBJ
   rw [hw]
   simp only
   rw [hf,vW,Nat.beq_refl,wN]
   simp only [Bool.and_self,cond_true]
   rw [hr];rfl
  rw [hl]
  unfold zEj
  simp only
  rw [hy]
  simp only
  rw [hyr];rfl
 ·refine zKY hi ⟨0,fun n _=>?_⟩ wQ (h2 jM)
  have hr:(put (zDY c i).dst (.bool true)).run (zCR P H n) s.e=some (zLG ((put (zDY c i).dst (.bool true)).run zHn s.e)):=zFy (zHK vK)
  have wN:(k==1)=false:=by simpa using jM
  have hyr:zBJ (zCR P H n) (zFj c) (zDY c i) a args ⟨xss,k,a⟩ s.e=some (zLG ((put (zDY c i).dst (.bool true)).run zHn s.e),some ⟨xss++[args],k-1,a⟩):=by
   unfold zBJ
   rw [hw]
   simp only
   rw [hf,vW,Nat.beq_refl,wN]
   simp only [Bool.and_self,cond_true,cond_false]
   rw [hr];rfl
  rw [hl]
  unfold zEj
  simp only
  rw [hy]
  simp only
  rw [hyr];rfl
theorem zVf {σ:Type} {c:Code} (Inv:σ→Prop) (upd:σ→List (Nat×PV)) (L:σ→Option Log) (μ:σ→Nat) (s:σ) (hi:Inv s) (h:∀ s,Inv s→W P H f nt (cl c) (zM0 (upd s) (e.drop ((H f).loopDrop (zAP (cl c))))) (L s) fun x e' lg'=>match x with
   | .norm=>∃ s',Inv s'∧μ s'<μ s∧e'.drop ((H f).loopDrop (zAP (cl c)))=zM0 (upd s') (e.drop ((H f).loopDrop (zAP (cl c))))∧lg'=L s'
   | x=>K x e' lg') (hs:e.drop ((H f).loopDrop (zAP (cl c)))=zM0 (upd s) (e.drop ((H f).loopDrop (zAP (cl c)))):=by kernel_rfl) (hl:lg=L s:=by kernel_rfl) (hc:zN8 c=true:=by kernel_rfl):W P H f nt c e lg K:=by
 rw [zMt hc]
 generalize hE:e.drop ((H f).loopDrop (zAP (cl c)))=e0 at h hs
 have key:∀ (n:Nat) (s:σ) (e:Env) (lg:Option Log),μ s≤n→Inv s→e.drop ((H f).loopDrop (zAP (cl c)))=zM0 (upd s) e0→lg=L s→W P H f nt (.loop (cl c)) e lg K:=by
  intro n
  induction n with
  | zero =>
   intro s e lg hs hi he vZ
   subst vZ
   obtain ⟨n0,x,e1,lg1,h1,h2⟩:=h s hi
   cases x with
   | norm=>obtain ⟨s',_,h3,_⟩:=h2;omega
   | ex id =>
    refine ⟨n0+1,_,e1,lg1,fun n m hn hm=>?_,h2⟩
    obtain ⟨m,rfl⟩:∃ k,m=k+1:=⟨m-1,by omega⟩
    simp only [exec,he,h1 n m (by omega) (by omega)]
   | ret =>
    refine ⟨n0+1,_,e1,lg1,fun n m hn hm=>?_,h2⟩
    obtain ⟨m,rfl⟩:∃ k,m=k+1:=⟨m-1,by omega⟩
    simp only [exec,he,h1 n m (by omega) (by omega)]
  | succ n ih =>
   intro s e lg hs hi he vZ
   subst vZ
   obtain ⟨n0,x,e1,lg1,h1,h2⟩:=h s hi
   cases x with
   | norm =>
    obtain ⟨s',h3,h4,h7,h8⟩:=h2
    obtain ⟨n2,x,e2,lg2,h5,h6⟩:=ih s' e1 lg1 (by omega) h3 h7 h8
    refine ⟨max n0 n2+1,x,e2,lg2,fun n m hn hm=>?_,h6⟩
    obtain ⟨m,rfl⟩:∃ k,m=k+1:=⟨m-1,by omega⟩
    simp only [exec,he,h1 n m (by omega) (by omega),h5 n m (by omega) (by omega)]
   | ex id =>
    refine ⟨n0+1,_,e1,lg1,fun n m hn hm=>?_,h2⟩
    obtain ⟨m,rfl⟩:∃ k,m=k+1:=⟨m-1,by omega⟩
    simp only [exec,he,h1 n m (by omega) (by omega)]
   | ret =>
    refine ⟨n0+1,_,e1,lg1,fun n m hn hm=>?_,h2⟩
    obtain ⟨m,rfl⟩:∃ k,m=k+1:=⟨m-1,by omega⟩
    simp only [exec,he,h1 n m (by omega) (by omega)]
 exact key (μ s) s e lg (Nat.le_refl _) hi (hE.trans hs) hl
end
end Go.Eng
namespace Go.Eng
open Go
abbrev I (n:Int):PV := .int .i64 n
abbrev zAB (l:List Int):PV := .sl (l.map I)
section
theorem zWn {a b:Bool} (ha:a=true) (hb:b=true):(a&&b)=true:=by rw [ha,hb];rfl
theorem zBz {a b:Nat} (h:a≤b):Nat.ble a b=true:=by rw [Nat.ble_eq];exact h
theorem zBO {a b:Nat} (h:a=b):Nat.beq a b=true:=by rw [h];exact Nat.beq_refl _
theorem zAp {p:Prop} [Decidable p] (h:p):decide p=true:=decide_eq_true h
variable {α:Type} {g:α→PV} {l:List α} {i:Nat} {d:α} {x q root root':PV} {xs:List PV} {r z c n:Nat} {pre rest:zAS}
theorem zBv (d:α) (h:i<l.length):(l.map g)[i]? = some (g (l.getD i d)):=by simp [List.getD,List.getElem?_eq_getElem h]
theorem zFV {u:α}:(l.map g).set i (g u)=(l.set i u).map g:=(List.map_set).symm
theorem zMX (hx:xs[i]? = some x) {y:PV} (hn:zAy y rest=some q) (hh:zAV root=some xs:=by kernel_rfl) (hc:x.cells[c]? = some y:=by kernel_rfl):zAy root ((i,c)::rest)=some q:=by
 simp only [zAy,hh,hx,hc,hn]
def zMz (r:Nat) (pre:zAS) (i c n:Nat) (x:PV):Option (Bool×List PV):=bif Nat.ble (c+n) x.cells.length then some (x.isAgg,zBw r pre i c ((x.cells.drop c).take n)) else none
theorem zC9 {a:Bool} {qs:List PV} (hn:zAy root.unlock pre=some q) (hx:xs[i]? = some x) (hr:zMz r pre i c n x=some (a,qs):=by kernel_rfl) (hh:zA7 q=some xs:=by kernel_rfl):zAs r root pre i c n=some (a,qs):=by
 simp only [zAs,hn,hh,hx];exact hr
theorem zPn {qs:List PV} {xs':List PV} (hx:xs[i]? = some x) (hs:xs.set i (zAz x c qs)=xs') (hb:Nat.ble (c+qs.length) x.cells.length=true:=by kernel_rfl) (hw:(zBs qs).isEmpty=true:=by kernel_rfl):zBx (.own z xs) [] i c qs=some (.own z xs')∧zAF (.own z xs) (.own z xs') []=true:=by
 subst hs
 constructor
 ·simp only [zBx,hw,Bool.not_true,Bool.and_false,cond_false,zAu,zA7,hx,hb,cond_true,zAC]
 ·simp [zAF,zCw]
theorem zBM {x m:Nat} (h:Nat.beq m 1=true):0+x*m=x:=by rw [Nat.eq_of_beq_eq_true h,Nat.mul_one,Nat.zero_add]
theorem zBN {a x m:Nat} (h:Nat.beq m 1=true):a+x*m=a+x:=by rw [Nat.eq_of_beq_eq_true h,Nat.mul_one]
def wf (i c:Nat) (qs:List PV) (q:PV):Option PV:=match zA7 q with
 | some xs=>match xs[i]? with
  | some x=>bif Nat.ble (c+qs.length) x.cells.length then zAC q (xs.set i (zAz x c qs)) else none
  | none=>none
 | none=>none
theorem zKF {qs:List PV} {q' y:PV} (hx:xs[i]? = some x) (hs:zAz x c qs=y) (hq:zAC q (xs.set i y)=some q') (hh:zA7 q=some xs:=by kernel_rfl) (hb:Nat.ble (c+qs.length) x.cells.length=true:=by kernel_rfl):zAu (wf i c qs) q []=some q':=by
 subst hs
 simp only [zAu,wf,hh,hx,hb,cond_true,hq]
theorem zPA {qs:List PV} {b:Bool} (h:zAu (wf i c qs) root pre=some root') (hk:zAF root root' pre=b) (hw:(zBs qs).isEmpty=true:=by kernel_rfl):zBx root pre i c qs=some root'∧zAF root root' pre=b:=by
 refine ⟨?_,hk⟩
 simp only [zBx,hw,Bool.not_true,Bool.and_false,cond_false]
 exact h
theorem zBQ (l:List α) (h:∀ x,zAT (g x)=g x:=by intro;rfl):zAE (l.map g)=l.map g:=by
 induction l with
 | nil=>rfl
 | cons x l ih=>simp only [List.map_cons,zAE,h,ih]
theorem zKx {ys:List PV} (hy:xs=ys) (h2:zAE ys=ys):zAE xs=ys:=by rw [hy];exact h2
theorem zLW (l:List α) (h:∀ x,(g x).free=true:=by intro;rfl):zEL (l.map g)=true:=by
 induction l with
 | nil=>rfl
 | cons x l ih=>simp only [List.map_cons,zEL,h,ih,Bool.and_self]
theorem zMh (l:List α) (h:∀ x,(g x).ways=[]:=by intro;rfl):zBs (l.map g)=[]:=by
 induction l with
 | nil=>rfl
 | cons x l ih=>simp only [List.map_cons,zBs,h,ih,List.append_nil]
theorem all_map {p:PV→Bool} (l:List α) (h:∀ x,p (g x)=true:=by intro;rfl):(l.map g).all p=true:=by
 rw [List.all_map];exact List.all_eq_true.2 fun x _=>h x
theorem zEM (l:List α):List.take l.length (l.map g)=l.map g:=List.take_of_length_le (by simp)
theorem zA3 {xs ys:List PV} (h:xs=ys):PV.own z xs=PV.own z ys:=by rw [h]
theorem zRZ {xs ys:List PV} (h:xs=ys):PV.sl xs=PV.sl ys:=by rw [h]
theorem zFv {a x m:Nat} {sh:Option Nat} (h:Nat.beq m 1=true):PV.addr r pre i (a+x*m) sh=PV.addr r pre i (a+x) sh:=by rw [Nat.eq_of_beq_eq_true h,Nat.mul_one]
end
end Go.Eng
namespace Go.Eng
open Go
section
def zUv:Code→Bool
 | .label _=>true
 | _=>false
theorem ap {p:Prop} {ps:List Prop} (h:p) (hs:zS3 ps):zS3 (p::ps):=⟨h,hs⟩
theorem an:zS3 []:=trivial
theorem zCj {a b:Int} (h:a=b) (hr : -9223372036854775808≤b∧b<9223372036854775808):PV.int .i64 (IntKind.i64.wrap a)=PV.int .i64 b:=by rw [h,zWZ hr]
variable [Yo] {P:Program} {H:zBf} {f:FuncId} {nt:Nat} {e e':Env} {lg:Option Log} {K:X→Env→Option Log→Prop} {i:Nat} {c:Code} {s:RS} {R:Env→Option Log→Prop}
theorem S_a (as:Ans) {obs:List Prop} (ho:zS3 obs) (h:WS P H f c (i+1) (rsX (zVW P H f c i as s)) R) (hq:(zVW P H f c i as s).map (·.2)=some obs:=by kernel_rfl) (hi:Nat.blt i (zFj c).size=true:=by kernel_rfl):WS P H f c i s R:=S_x as obs ho h hq hi
theorem E_a {fn:Func} {nh:Nat} {v:PV} {h:List PV} {x:X} (as:Ans) {obs:List Prop} (ho:zS3 obs) (v':PV) (h':List PV) (hv:v'=v) (hh:h'=h) (hf:zNm P H f fn as e nh=some ((v',h'),obs):=by kernel_rfl) (hl:lg=none:=by kernel_rfl) (hx:x = .norm∨x = .ret:=by first | exact .inr rfl | exact .inl rfl):zVA P H f fn nh v h x e lg:=E_x as obs v' h' ho hv hh hf hl hx
theorem zVO {c:Code} (h:K .norm e lg) (hc:zUv c=true:=by kernel_rfl):W P H f nt c e lg K:=by
 cases c<;>first | (cases hc;done) | exact zTL 1 rfl h
end
end Go.Eng
namespace Go.Eng
open Go
section
variable [Yo] {P:Program} {H:zBf} {f:FuncId}
end
end Go.Eng
namespace Go.Eng
open Go
def zNr (pre:zAS) (put:PV→PV):Prop:=∀ f z xs,zAu f (put (.own z xs)) pre=(f (.own z xs)).map put
theorem zNr.nil:zNr [] (fun q=>q):=fun f z xs=>by simp [zAu]
theorem zNr.box:zNr [(0,0)] (fun q => .box q):=fun f z xs=>by
 simp only [zAu,zAV,List.getElem?_cons_zero,PV.cells]
 cases f (.own z xs)<;>rfl
theorem zGD [Yo] {r z:Nat} {pre:zAS} {put:PV→PV} (L:zNr pre put):∀ {ys:List PV} {j:Nat} {xs:List PV} {e:Env},e.get r=put (.own z xs)→j+ys.length≤xs.length→(∀ (a:Nat) (x y:PV),xs[j+a]? = some x→ys[a]? = some y→y.heavy=false∧y.cells.all (fun q=>q.ways.isEmpty)=true∧y.cells.length≤x.cells.length∧zAz x 0 y.cells=y) →
  ∃ e',e'.get r=put (.own z (xs.take j++ys++xs.drop (j+ys.length)))∧(∀ t,t≠r→e'.get t=e.get t)∧∀ (o:zAD) (k:PM),(zGl r pre j ys k).run o e=k.run o e'
 | [],j,xs,e,he,hj,hy=>⟨e,by simp [he],fun _ _=>rfl,fun _ _=>rfl⟩
 | y :: ys,j,xs,e,he,hj,hy=>by
  simp only [List.length_cons] at hj
  have hjx:j<xs.length:=by omega
  obtain ⟨h1,h2,h3,h4⟩:=hy 0 xs[j] y (by simp [hjx]) rfl
  have hws:zBs y.cells=[]:=zMG h2
  have hb:Nat.ble (0+y.cells.length) xs[j].cells.length=true:=by rw [Nat.ble_eq];omega
  have yU:(e.set r (put (.own z (xs.set j y)))).get r=put (.own z (xs.set j y)):=by rw [Env.get_set,if_pos rfl]
  obtain ⟨e',g1,g2,g3⟩:=zGD L (ys:=ys) (j:=j+1) yU (by simp;omega) fun a x' y' ju uM=>by
   rw [List.getElem?_set] at ju
   rw [if_neg (by omega)] at ju
   exact hy (a+1) x' y' (by rw [← ju];congr 1;omega) (by simpa using uM)
  refine ⟨e',?_,fun t ht=>?_,?_⟩
  ·rw [g1,zSt hj]
   simp only [List.length_cons]
  ·rw [g2 t ht,Env.get_set,if_neg ht]
  ·intro o k
   simp only [zGl]
   rw [zE9 (by simpa using zNc h1)]
   simp only [PM.run,he,zBx,hws,List.isEmpty_nil,Bool.not_true,Bool.and_false,cond_false,L _ z xs,zA7,List.getElem?_eq_getElem hjx,hb,cond_true,zAC,h4,Option.map_some]
   exact g3 o k
section
variable [Yo] {P:Program} {H:zBf} {f:FuncId} {i:Nat} {c:Code} {R:Env→Option Log→Prop}
theorem zKI {pre:zAS} (put':PV→PV) (r s:Nat) (xs ys zs:List PV) {st:RS} (hy:∀ (a:Nat) (x y:PV),xs[a]? = some x→ys[a]? = some y→zWe s x y) (hX:ys.length≤xs.length) (hz:ys++xs.drop ys.length=zs) (L:zNr pre put')
  (h:WS P H f c (i+1) ⟨none,zLG ((put (zDY c i).dst (.int .i64 ys.length)).run zHn (st.e.set r (put' (.own s zs)))),none⟩ R) (he:st.e.get r=put' (.own s xs):=by kernel_rfl) (ho:zT6 P st.e (zDY c i)=some (s,.bor r pre s 0 xs.length,.sl ys):=by kernel_rfl) (hs:Nat.blt 0 s=true:=by kernel_rfl)
  (hq:((put (zDY c i).dst (.int .i64 ys.length)).run zHn (st.e.set r (put' (.own s zs)))).isSome=true:=by kernel_rfl) (jj:st.dr=none:=by kernel_rfl) (vZ:st.lg=none:=by kernel_rfl) (hg:zLd c i st.e=true:=by kernel_rfl) (hi:Nat.blt i (zFj c).size=true:=by kernel_rfl):WS P H f c i st R:=by
 subst hz
 obtain ⟨dr,e,lg⟩:=st
 simp only at jj h he ho hq hg vZ
 subst jj;subst vZ
 have km:∀ y∈ys,y.plain=true∧y.cells.length=s:=fun y uM=>by
  obtain ⟨a,ha⟩:=List.getElem?_of_mem uM
  have yI:=(List.getElem?_eq_some_iff.1 ha).1
  have:=hy a _ y (List.getElem?_eq_getElem (by omega)) ha
  exact ⟨this.1,this.2.1⟩
 obtain ⟨e',g1,g2,g3⟩:=zGD L he (j:=0) (ys:=ys) (by omega) fun a x y hx uM=>by
  rw [Nat.zero_add] at hx
  obtain ⟨_,_,h3,h4,h5,h6⟩:=hy a x y hx uM
  exact ⟨h3,h4,h5,h6⟩
 simp only [List.take_zero,List.nil_append,Nat.zero_add] at g1
 have yU:∀ t,e'.get t=(e.set r (put' (.own s (ys++xs.drop ys.length)))).get t:=fun t=>by
  rw [Env.get_set]
  split
  ·rename_i h;subst h;exact g1
  ·rename_i h;exact g2 t h
 have kA:=zHK hq
 obtain ⟨e1,h1,h2⟩:=zFt (funext yU) kA
 refine zWd (s:=⟨none,e,none⟩) (e':=e1) ⟨0,fun n _=>?_⟩ (zT8 h fun t=>congrFun h2 t) rfl rfl hg hi
 have yA:=zFy (o:=zCR P H n) h1
 show (opM P H _ _ _ (zDY c i)).run _ e=_
 generalize zDY c i=o at ho yA
 cases hop:o.op<;>simp only [zT6,hop] at ho<;>try (cases ho;done)
 rename_i cc
 split at ho
 ·rename_i x y t ts hc ha hT
  split at ho
  ·rename_i s' yz
   simp only [Option.some.injEq,Prod.mk.injEq] at ho
   obtain ⟨rfl,hx,hyv⟩:=ho
   have hb:Nat.ble ys.length xs.length=true:=by rw [Nat.ble_eq];exact hX
   have jr:(ys.all fun y=>y.plain&&Nat.beq y.cells.length s')=true:=List.all_eq_true.2 fun y uM=>by
    obtain ⟨q1,q2⟩:=km y uM
    rw [q1,q2,Nat.beq_refl];rfl
   simp only [opM,hop,zJH,hc,ha,hT,zBl,yz,zIr]
   rw [zNC hx (by simp),zNC hyv (by simp)]
   simp only [zHc,Nat.beq_refl,hs,hb,jr,Bool.and_self,cond_true]
   rw [g3];exact yA
  ·cases ho
 ·cases ho
theorem zIv {α β:Type} {g:α→PV} {g':β→PV} {s:Nat} {l:List α} {m:List β} (h:∀ (x:α) (y:β),zWe s (g x) (g' y)):∀ (a:Nat) (x y:PV),(l.map g)[a]? = some x→(m.map g')[a]? = some y→zWe s x y:=by
 intro a x y hx hy
 rw [List.getElem?_map] at hx hy
 obtain ⟨x',_,rfl⟩:=Option.map_eq_some_iff.1 hx
 obtain ⟨y',_,rfl⟩:=Option.map_eq_some_iff.1 hy
 exact h x' y'
theorem zF3 {k:IntKind} {a b:Int}:zWe 1 (.int k a) (.int k b):=⟨rfl,rfl,rfl,rfl,Nat.le_refl _,rfl⟩
theorem zLb {α β:Type} {g:α→PV} {g':β→PV} {l:List α} {m:List β} (h:l.length=m.length):l.map g++(m.map g').drop (l.map g).length=l.map g:=by simp [h]
end
end Go.Eng
namespace Go.Eng
open Go
abbrev zPo (sh:Option Nat) (a:List Int):PV:=match sh with | none=>I (a.getD 0 0) | some _ => .agg (a.map I)
theorem zN7 {l:List Int} {i k:Nat} {sh:Option Nat} (j6:sh=some k∨(sh=none∧k=1)) (h:i+k≤l.length):sub (.agg (l.map I)) i sh=some (zPo sh ((l.drop i).take k)):=by
 rcases j6 with rfl | ⟨rfl,rfl⟩
 ·simp only [sub,List.length_map,h,if_true,zPo,List.map_take,List.map_drop]
 ·have h2:i<l.length:=by omega
  simp only [sub,zPo]
  rw [List.drop_eq_getElem_cons h2]
  simp [h2]
theorem zL4 {eq:PV→PV→Option Bool} {sh:Option Nat} {k:Nat} {l m:List Int} (ub:∀ a b:List Int,a.length=k→b.length=k→eq (zPo sh a) (zPo sh b)=some (decide (a=b))) (j6:sh=some k∨(sh=none∧k=1)):∀ n i,(i+n)*k=l.length→(i+n)*k=m.length→zTX eq sh k (.agg (l.map I)) (.agg (m.map I)) i n=some (decide (l.drop (i*k)=m.drop (i*k)))
 | 0,i,h1,h2=>by
  simp only [zTX]
  rw [List.drop_eq_nil_of_le (by simpa using Nat.le_of_eq h1.symm),List.drop_eq_nil_of_le (by simpa using Nat.le_of_eq h2.symm)];simp
 | n + 1,i,h1,h2=>by
  have e:(i+(n+1))*k=i*k+k+n*k:=by rw [Nat.add_mul,Nat.succ_mul];omega
  have e1:(i+1)*k=i*k+k:=by rw [Nat.succ_mul]
  have hl:i*k+k≤l.length:=by omega
  have hm:i*k+k≤m.length:=by omega
  have ih:=zL4 ub j6 n (i+1) (by rw [← h1];congr 1;omega) (by rw [← h2];congr 1;omega)
  simp only [zTX,zN7 j6 hl,zN7 j6 hm]
  rw [ub _ _ (by rw [List.length_take,List.length_drop];omega) (by rw [List.length_take,List.length_drop];omega)]
  have d1:l.drop (i*k)=(l.drop (i*k)).take k++l.drop ((i+1)*k):=by rw [e1,← List.drop_drop,List.take_append_drop]
  have d2:m.drop (i*k)=(m.drop (i*k)).take k++m.drop ((i+1)*k):=by rw [e1,← List.drop_drop,List.take_append_drop]
  by_cases hc:(l.drop (i*k)).take k=(m.drop (i*k)).take k
  ·simp only [hc,decide_true,ih]
   congr 1
   rw [d1,d2,hc]
   simp
  ·simp only [hc,decide_false]
   rw [Eq.comm,decide_eq_false]
   intro hx
   exact hc (by rw [hx])
def zOs:Option TypeDesc→Bool
 | some (.array ..)=>true
 | _=>false
def zVD:Option TypeDesc→Bool
 | some (.int .i64)=>true
 | _=>false
theorem zTh {x:Option TypeDesc} (h:zVD x=true):x=some (.int .i64):=by
 unfold zVD at h;split at h
 ·rfl
 ·cases h
theorem zLK {x:Option TypeDesc} (h:zOs x=true):∃ c e,x=some (.array c e):=by
 unfold zOs at h;split at h
 ·exact ⟨_,_,rfl⟩
 ·cases h
def zTH (P:Program):Nat→TypeId→Option Nat
 | 0,_=>none
 | n + 1,t=>match P.underlying t with
  | some (.int k)=>if k = .i64 then some 1 else none
  | some (.array m e)=>match szT P e,shT P e,zTH P n e with
   | some sz,some sh,some k=>if sz=k∧(sh=some k∧zOs (P.underlying e)=true∨sh=none∧k=1∧zVD (P.underlying e)=true) then some (m*k) else none
   | _,_,_=>none
  | _=>none
theorem zUG {P:Program} {n:Nat} {t:TypeId} {a b:Int} (h:P.underlying t=some (.int .i64)):eqT P (n+1) t (I a) (I b)=some (decide (a=b)):=by
 simp only [eqT,h,if_true];rfl
theorem zOd {P:Program}:∀ (n:Nat) (t:TypeId) (k:Nat) (l m:List Int),zTH P n t=some k→(∃ c e,P.underlying t=some (.array c e))→l.length=k→m.length=k→eqT P n t (.agg (l.map I)) (.agg (m.map I))=some (decide (l=m))
 | 0,_,_,_,_,h,_,_,_=>by cases h
 | n + 1, t, k,l,m,h,⟨c,e,hu⟩,hl,hm=>by
  simp only [zTH,hu] at h
  split at h
  ·rename_i sz sh k1 h1 h2 h3
   split at h
   ·rename_i hx
    obtain ⟨rfl,hx⟩:=hx
    cases h
    simp only [eqT,hu,h1,h2]
    have:=zL4 (eq:=eqT P n e) (sh:=sh) (k:=sz) (l:=l) (m:=m) (fun a b ha hb=>by
     rcases hx with ⟨rfl,hx⟩ | ⟨rfl,rfl,hx⟩
     ·exact zOd n e sz a b h3 (zLK hx) ha hb
     ·cases n with
      | zero=>cases h3
      | succ n =>
       simp only [zPo,zUG (zTh hx)]
       match a,b,ha,hb with
       | [x],[y],_,_=>simp) (by
     rcases hx with ⟨rfl,_⟩ | ⟨rfl,rfl,_⟩
     ·exact .inl rfl
     ·exact .inr ⟨rfl,rfl⟩) c 0 (by rw [hl];simp) (by rw [hm];simp)
    simpa using this
   ·cases h
  ·cases h
def zL9 (P:Program) (t:TypeId) (k:Nat):Bool := !P.eqGuardType P.depth t&&decide (zTH P 20 t=some k)&&zOs (P.underlying t)
theorem zSe {P:Program} {t:TypeId} {k:Nat} {l m:List Int} (h:zL9 P t k=true) (hl:l.length=k) (hm:m.length=k):eqT P 20 t (.agg (l.map I)) (.agg (m.map I))=some (decide (l=m)):=by
 unfold zL9 at h
 simp only [Bool.and_eq_true,decide_eq_true_eq,Bool.not_eq_true'] at h
 obtain ⟨⟨h1,h2⟩,h3⟩:=h
 exact zOd 20 t k l m h2 (zLK h3) hl hm
theorem zWW {P:Program} {t:TypeId} {k:Nat} {l m:List Int} (h:zL9 P t k=true) (hl:l.length=k) (hm:m.length=k):eqV P t (.agg (l.map I)) (.agg (m.map I))=some (decide (l=m)):=by
 have hg:P.eqGuardType P.depth t=false:=by
  unfold zL9 at h
  simp only [Bool.and_eq_true,Bool.not_eq_true'] at h
  exact h.1.1
 simp only [eqV,hg,cond_false,zSe h hl hm]
theorem zRC {P:Program} {t:TypeId} {l m:List Int} (k:Nat) (hl:l.length=k) (hm:m.length=k) (h:zL9 P t k=true:=by kernel_rfl):zJV P .neq t (.agg (l.map I)) (.agg (m.map I))=some (.bool (!decide (l=m))):=by
 simp only [zJV,zWW h hl hm,Option.map_some]
theorem zQx {a b c d:Int}:decide ([a,b]=[c,d])=(decide (a=c)&&decide (b=d)):=by simp
theorem zU1 {P:Program} {t:TypeId} {a b c d:Int} (h:zL9 P t 2=true:=by kernel_rfl):zJV P .neq t (.agg [I a,I b]) (.agg [I c,I d])=some (.bool (!(decide (a=c)&&decide (b=d)))):=by
 rw [← zQx];exact zRC (l:=[a,b]) (m:=[c,d]) 2 rfl rfl h
def zIY (P:Program) (t:TypeId):Bool := !P.eqGuardType P.depth t && !P.stoodInHeld t&&match P.underlying t with
  | some (.struct fs)=>match fs.toList with
    | [f1, f2] => !decide (f1.name = "_") && !decide (f2.name = "_") && decide (shT P f1.type = some none) && decide (shT P f2.type = some none) && decide (f1.offset = 0) && decide (f2.offset = 1) &&
      (match P.underlying f1.type with | some (.int k)=>decide (k = .i64) | _=>false)&&(match P.underlying f2.type with | some .bool=>true | _=>false)
    | _=>false
  | _=>false
theorem zPu {P:Program} {t:TypeId} {a c:Int} {b d:Bool} (h:zIY P t=true):eqV P t (.agg [I a,.bool b]) (.agg [I c,.bool d])=some (decide (a=c)&&decide (b=d)):=by
 unfold zIY at h
 rw [Bool.and_eq_true,Bool.and_eq_true] at h
 obtain ⟨⟨h1,h2⟩,h3⟩:=h
 split at h3
 ·rename_i fs hu
  split at h3
  ·rename_i f1 f2 hl
   simp only [Bool.and_eq_true,decide_eq_true_eq,Bool.not_eq_true',decide_eq_false_iff_not] at h1 h2 h3
   obtain ⟨⟨⟨⟨⟨⟨⟨n1,n2⟩,s1⟩,s2⟩,o1⟩,o2⟩,u1⟩,u2⟩:=h3
   split at u1
   ·rename_i k1' jM
    split at u2
    ·rename_i uj
     simp only [decide_eq_true_eq] at u1
     subst u1
     simp only [eqV,h1,cond_false,eqT,hu,h2,hl,zUh,n1,n2,s1,s2,o1,o2,sub,jM,uj,if_true,if_false,List.getElem?_cons_zero,List.getElem?_cons_succ]
     by_cases e1:a=c
     ·subst e1
      cases b<;>cases d<;>simp
     ·simp [e1]
    ·cases u2
   ·cases u1
  ·cases h3
 ·cases h3
theorem zTb {P:Program} {t:TypeId} {a c:Int} {b d:Bool} (h:zIY P t=true:=by kernel_rfl):zJV P .neq t (.agg [I a,.bool b]) (.agg [I c,.bool d])=some (.bool (!(decide (a=c)&&decide (b=d)))):=by
 simp only [zJV,zPu h,Option.map_some]
theorem zMm {P:Program} {kt:TypeId} {α:Type} {g:α→PV×PV} {kx ky:α→Int} (hk:∀ x,(g x).1 = .agg [I (kx x),I (ky x)]) (ub:∀ a b c d:Int,eqT P 20 kt (.agg [I a,I b]) (.agg [I c,I d])=some (decide (a=c)&&decide (b=d))) (a b:Int):∀ (M:List α) (i:Nat),zDa P kt (.agg [I a,I b]) (M.map g) i=some ((M.findIdx? fun x=>decide (a=kx x)&&decide (b=ky x)).map (· + i))
 | [],i=>rfl
 | x :: M,i=>by
  have h1:=ub a b (kx x) (ky x)
  rw [← hk x] at h1
  have h2:zFx (PV.agg [I a,I b]).cells (g x).1.cells=some (a==kx x&&(b==ky x&&true)):=by rw [hk x];rfl
  rw [List.map_cons,List.findIdx?_cons]
  have e:g x=((g x).1,(g x).2):=rfl
  rw [e]
  simp only [zDa,h1,h2]
  cases hc:(decide (a=kx x)&&decide (b=ky x)) with
  | true =>
   simp only [Bool.and_eq_true,decide_eq_true_eq] at hc
   simp [hc.1,hc.2]
  | false =>
   simp only
   rw [zMm hk ub a b M (i+1)]
   simp only [Bool.false_eq_true,if_false,Option.map_map]
   congr 2
   funext y
   simp only [Function.comp];omega
theorem zRY {P:Program} {t:TypeId} (h:zL9 P t 2=true:=by kernel_rfl) (a b c d:Int):eqT P 20 t (.agg [I a,I b]) (.agg [I c,I d])=some (decide (a=c)&&decide (b=d)):=by
 rw [← zQx];exact zSe (l:=[a,b]) (m:=[c,d]) h rfl rfl
def zXd (F:List Int) (n:Nat):Nat→List PV
 | 0=>[]
 | m+1=>I (F.getD (n-(m+1)) 0)::zXd F n m
abbrev zAO (F:List Int) (m:Nat):List PV:=zXd F m m
theorem zRj {F:List Int} {n:Nat}:∀ (m:Nat),m≤n→zXd F n m=(List.range' (n-m) m).map fun k=>I (F.getD k 0)
 | 0,_=>rfl
 | m+1,h=>by
  rw [zXd,zRj m (by omega),List.range'_succ,List.map_cons,show n-(m+1)+1=n-m by omega]
theorem zNo {F:List Int} {m:Nat}:zAO F m=(List.range m).map fun k=>I (F.getD k 0):=by
 rw [List.range_eq_range',zAO,zRj m (Nat.le_refl m),Nat.sub_self]
theorem zFW {F:List Int} {m:Nat} (h:F.length=m):zAO F m=F.map I:=by
 rw [zNo]
 apply List.ext_getElem?
 intro k
 by_cases hk:k<m
 ·simp [hk,show k<F.length by omega]
 ·rw [List.getElem?_eq_none (by simp;omega),List.getElem?_eq_none (by simp;omega)]
section
variable {A B:List PV} {F:List Int} {m j:Nat} {r i c':Nat} {pre:zAS}
theorem zJJ:(zAO F m).length=m:=by rw [zNo];simp
theorem zRX (hj:j<m):(zAO F m)[j]? = some (I (F.getD j 0)):=by rw [zNo];simp [hj]
theorem zUL (hj:j<m):(A++zAO F m++B)[A.length+j]? = some (I (F.getD j 0)):=by
 rw [List.append_assoc,List.getElem?_append_right (by omega),Nat.add_sub_cancel_left,List.getElem?_append_left (by rw [zJJ];exact hj)]
 exact zRX hj
theorem zW5 (hj:j<m):zBK (.ref (.agg (zAO F m))) j none=some (.ref (I (F.getD j 0))):=by
 have h1:(I (F.getD j 0)).oneCell=true:=rfl
 simp only [zBK,zOS,sub,zRX hj,Option.isSome,Bool.false_or,h1,cond_true]
theorem zEc {n:Nat} (hj:j<m) (hn:Nat.beq n 1=true:=by kernel_rfl):zBK (.ref (.agg (zAO F m))) (j*n) none=some (.ref (I (F.getD j 0))):=by
 rw [Nat.eq_of_beq_eq_true hn,Nat.mul_one];exact zW5 hj
theorem zKD (hc:c'=A.length+j) (hj:j<m):zMz r pre i c' 1 (.agg (A++zAO F m++B))=some (true,[I (F.getD j 0)]):=by
 subst hc
 have hX:A.length+j<(A++zAO F m++B).length:=by rw [List.length_append,List.length_append,zJJ];omega
 have hb:Nat.ble (A.length+j+1) (PV.agg (A++zAO F m++B)).cells.length=true:=by rw [Nat.ble_eq];exact hX
 have h2:((A++zAO F m++B).drop (A.length+j)).take 1=[I (F.getD j 0)]:=by
  rw [List.drop_eq_getElem_cons hX]
  have:=zUL (A:=A) (B:=B) (F:=F) hj
  rw [List.getElem?_eq_getElem hX] at this
  simp only [Option.some.injEq] at this
  rw [this];simp
 simp only [zMz,hb,cond_true,PV.isAgg]
 show some (true,zBw r pre i (A.length+j) (((A++zAO F m++B).drop (A.length+j)).take 1))=_
 rw [h2];rfl
theorem zVF {u:Int} (hj:j<m) (hF:F.length=m):(zAO F m).set j (I u)=zAO (F.set j u) m:=by
 rw [zFW hF,zFW (F:=F.set j u) (by simpa using hF),List.map_set]
theorem zN3 {u:Int} (hc:c'=A.length+j) (hj:j<m) (hF:F.length=m):zAz (.agg (A++zAO F m++B)) c' [I u] = .agg (A++zAO (F.set j u) m++B):=by
 subst hc
 have hX:A.length+j<(A++zAO F m++B).length:=by rw [List.length_append,List.length_append,zJJ];omega
 have e:(A++zAO F m++B).take (A.length+j)++[I u]++(A++zAO F m++B).drop (A.length+j+1)=(A++zAO F m++B).set (A.length+j) (I u):=by
  rw [List.set_eq_take_append_cons_drop,if_pos hX];simp
 simp only [zAz,List.length_singleton,e]
 rw [List.append_assoc,List.set_append_right _ _ (by omega),Nat.add_sub_cancel_left,List.set_append_left _ _ (by rw [zJJ];exact hj),zVF hj hF,List.append_assoc]
theorem zOM (hc:c'=A.length+j) (hj:j<m) {q:PV}:Nat.ble (c' + [q].length) (PV.agg (A++zAO F m++B)).cells.length=true:=by
 subst hc;rw [Nat.ble_eq];show _≤(A++zAO F m++B).length;rw [List.length_append,List.length_append,zJJ];simp;omega
theorem zUD (hj:j<m):sub (.agg (zAO F m)) j none=some (I (F.getD j 0)):=by
 simp only [sub,zRX hj]
theorem zDW (hc:c'=j) (hj:j<m):zMz r pre i c' 1 (.agg (zAO F m))=some (true,[I (F.getD j 0)]):=by
 have:=zKD (A:=[]) (B:=[]) (F:=F) (r:=r) (pre:=pre) (i:=i) (c':=c') (by simpa using hc) hj
 simpa using this
theorem zNn {u:Int} (hc:c'=j) (hj:j<m) (hF:F.length=m):zAz (.agg (zAO F m)) c' [I u] = .agg (zAO (F.set j u) m):=by
 have:=zN3 (A:=[]) (B:=[]) (F:=F) (u:=u) (c':=c') (by simpa using hc) hj hF
 simpa using this
theorem zNf (hc:c'=j) (hj:j<m) {q:PV}:Nat.ble (c' + [q].length) (PV.agg (zAO F m)).cells.length=true:=by
 have:=zOM (A:=[]) (B:=[]) (F:=F) (q:=q) (c':=c') (by simpa using hc) hj
 simpa using this
theorem zS5 {n:Nat} (hj:j<m) (hn:Nat.beq n 1=true:=by kernel_rfl):sub (.agg (zAO F m)) (j*n) none=some (I (F.getD j 0)):=by
 rw [Nat.eq_of_beq_eq_true hn,Nat.mul_one];exact zUD hj
end
section
variable {l:List Int} {r i c c' k:Nat} {pre:zAS}
theorem zIP:∀ (l:List Int) (c:Nat),zBw r pre i c (l.map I)=l.map I
 | [],_=>rfl
 | x::l,c=>by simp only [List.map_cons,zBw,zIP l (c+1)];rfl
theorem zWt (hc:c'=c) (h:c+k≤l.length):zMz r pre i c' k (.agg (l.map I))=some (true,((l.drop c).take k).map I):=by
 subst hc
 have hb:Nat.ble (c'+k) (PV.agg (l.map I)).cells.length=true:=by rw [Nat.ble_eq];simpa [PV.cells] using h
 simp only [zMz,hb,cond_true,PV.isAgg]
 show some (true,zBw r pre i c' (((l.map I).drop c').take k))=_
 rw [← List.map_drop,← List.map_take,zIP]
theorem zUV {K:Nat} (hc:c'=c) (h:c+K≤l.length) (hk:Nat.beq k K=true):zMz r pre i c' k (.agg (l.map I))=some (true,((l.drop c).take K).map I):=by rw [Nat.eq_of_beq_eq_true hk];exact zWt hc h
theorem zU9 {K m:Nat} (hl:l.length=m) (hc:c'=c) (h:c+K≤m) (hk:Nat.beq k K=true):zMz r pre i c' k (.agg (zAO l m))=some (true,zAO ((l.drop c).take K) K):=by
 rw [zFW hl,zUV (K:=K) hc (by omega) hk,zFW (F:=(l.drop c).take K) (by rw [List.length_take,List.length_drop];omega)]
theorem zRG {P:Program} {t:TypeId} {l m:List Int} (k:Nat) (hl:l.length=k) (hm:m.length=k) (h:zL9 P t k=true:=by kernel_rfl):zJV P .neq t (.agg (zAO l k)) (.agg (zAO m k))=some (.bool (!decide (l=m))):=by
 rw [zFW hl,zFW hm];exact zRC k hl hm h
end
end Go.Eng
namespace Go.Eng
open Go
theorem zC5 {a b m k M:Nat} (h:Nat.beq m M=true) (h2:Nat.beq k 1=true):a*m+b*k=a*M+b:=by rw [Nat.eq_of_beq_eq_true h,Nat.eq_of_beq_eq_true h2,Nat.mul_one]
theorem zC7 {a m M:Nat} (h:Nat.beq m M=true):a*m=a*M:=by rw [Nat.eq_of_beq_eq_true h]
theorem zDo {a b m k M:Nat} (h:Nat.beq m M=true) (h2:Nat.beq k 1=true):0+a*m+b*k=a*M+b:=by rw [Nat.zero_add];exact zC5 h h2
theorem zC1 {a m M:Nat} (h:Nat.beq m M=true):0+a*m=a*M:=by rw [Nat.zero_add];exact zC7 h
theorem zDG {α:Type} {g:α→PV} {l:List α} {u:α} {y:PV} (h:g u=y):l.map g++[y]=(l++[u]).map g:=by rw [← h,List.map_append];rfl
def zUb (P:Program) (e:Env) (o:Oper):Option (Nat×PV×PV) :=
 match o.op,o.dst with
 | .call c,none=>match c.callee,c.args.toList,c.argTypes.toList with
  | .builtin .clear,[x],t::_=>match (zBP P t).bind (zCB P),(zBP P t).bind (szT P) with
   | some q,some s=>some (s,q,zXf e x)
   | _,_=>none
  | _,_,_=>none
 | _,_=>none
section
variable [Yo] {P:Program} {H:zBf} {f:FuncId} {i:Nat} {c:Code} {R:Env→Option Log→Prop}
theorem zQe {α:Type} {g:α→PV} {pre:zAS} (put':PV→PV) (r s lo n:Nat) (l:List α) (u:α) {st:RS} (ko:lo+n≤l.length) (hu:(g u).plain=true∧(g u).cells.length=s) (hy:∀ x,zWe s (g x) (g u)) (L:zNr pre put')
  (h:WS P H f c (i+1) ⟨none,st.e.set r (put' (.own s ((l.take lo++List.replicate n u++l.drop (lo+n)).map g))),none⟩ R) (he:st.e.get r=put' (.own s (l.map g)):=by kernel_rfl) (ho:zUb P st.e (zDY c i)=some (s,g u,.bor r pre s lo n):=by kernel_rfl) (hs:Nat.blt 0 s=true:=by kernel_rfl)
  (jj:st.dr=none:=by kernel_rfl) (vZ:st.lg=none:=by kernel_rfl) (hg:zLd c i st.e=true:=by kernel_rfl) (hi:Nat.blt i (zFj c).size=true:=by kernel_rfl):WS P H f c i st R:=by
 obtain ⟨dr,e,lg⟩:=st
 simp only at jj h he ho hg vZ
 subst jj;subst vZ
 obtain ⟨e',g1,g2,g3⟩:=zGD L he (j:=lo) (ys:=List.replicate n (g u)) (by simpa using ko) fun a x y hx uM=>by
  rw [List.getElem?_map] at hx
  obtain ⟨x',_,rfl⟩:=Option.map_eq_some_iff.1 hx
  obtain ⟨hn,hy2⟩:=List.getElem?_eq_some_iff.1 uM
  rw [List.getElem_replicate] at hy2
  subst hy2
  obtain ⟨_,_,h3,h4,h5,h6⟩:=hy x'
  exact ⟨h3,h4,h5,h6⟩
 have yU:∀ t,e'.get t=(e.set r (put' (.own s ((l.take lo++List.replicate n u++l.drop (lo+n)).map g)))).get t:=fun t=>by
  rw [Env.get_set]
  split
  ·rename_i h;subst h;rw [g1];simp
  ·rename_i h;exact g2 t h
 refine zWd (s:=⟨none,e,none⟩) (e':=e') ⟨0,fun m _=>?_⟩ (zT8 h fun t=>yU t) rfl rfl hg hi
 show (opM P H _ _ _ (zDY c i)).run _ e=_
 generalize zDY c i=o at ho
 cases hop:o.op<;>simp only [zUb,hop] at ho<;>try (cases ho;done)
 rename_i cc
 cases kD:o.dst<;>rw [kD] at ho<;>simp only at ho<;>try (cases ho;done)
 split at ho
 ·rename_i x t ts hc ha hT
  split at ho
  ·rename_i q s' hq yz
   simp only [Option.some.injEq,Prod.mk.injEq] at ho
   obtain ⟨rfl,rfl,hx⟩:=ho
   simp only [opM,hop,zJH,hc,ha,hT,zBl,kD]
   rw [zNC hx (by simp)]
   simp only [zRF,hs,Nat.beq_refl,hu.1,hu.2,Bool.and_self,cond_true,hq,yz]
   rw [g3];rfl
  ·cases ho
 ·cases ho
end
end Go.Eng
namespace Go.Eng
open Go
section
variable [Yo] {P:Program} {H:zBf} {f:FuncId} {nt:Nat} {c:Code} {e:Env} {lg:Option Log} {K:X→Env→Option Log→Prop}
end
end Go.Eng
namespace Go.Eng
open Go
theorem zOG [Yo] {P:Program} {H:zBf} {f:FuncId} {nt:Nat} {e:Env} {lg:Option Log} {K:X→Env→Option Log→Prop} {σ:Type} {c:Code} {t g:Nat} {first caps:List PV} {xs:List (List PV)} (hY:zFX g first caps xs) (Inv:Nat→σ→Prop) (upd:σ→List (Nat×PV)) (s:σ) (hi:Inv 0 s)
  (h:∀ j x s,xs[j]? = some x→Inv j s→zKN P H f nt (zWf c) (rgA c) (rgB c) x (zM0 (upd s) e) fun y e3=>match y with
   | .norm=>∃ s',Inv (j+1) s'∧after nt [] (zVQ c) (zM0 (upd s) e) e3=zM0 (upd s') e
   | y=>K y (after nt [] (zVQ c) (zM0 (upd s) e) e3) none) (hK:∀ s,Inv xs.length s→K .norm (zM0 (upd s) e) none) (hs:e=zM0 (upd s) e:=by kernel_rfl) (yO:zDO e t=some (g,first,caps,[]):=by kernel_rfl) (hc:rgT c=some t:=by kernel_rfl) (hl:lg=none:=by kernel_rfl):W P H f nt c e lg K :=
 zU8 (t:=t) hY Inv (fun s=>zM0 (upd s) e) s hi h hK hs yO hc hl
end Go.Eng
namespace Go.Eng
open Go
theorem zNr.field (A B:List PV):zNr [(0,A.length)] (fun q => .box (.agg (A++q::B))):=fun f z xs=>by
 have h1:(A++PV.own z xs::B)[A.length]? = some (.own z xs):=by simp
 simp only [zAu,zAV,List.getElem?_cons_zero,PV.cells,h1]
 cases f (.own z xs) with
 | none=>rfl
 | some q=>simp [zAC,zAz]
end Go.Eng
namespace Go.Eng
open Go
theorem zFs (l:List Int):zAE (l.map I)=l.map I:=zBQ l
theorem zH1 (k:IntKind) (l:List Int):zAE (l.map (PV.int k))=l.map (PV.int k):=zBQ l
theorem zE7 (l:List Bool):zAE (l.map PV.bool)=l.map PV.bool:=zBQ l
theorem zCp {α:Type} {g g':α→PV} (l:List α) (h:∀ x,zAT (g x)=g' x:=by intro x;simp only [zAT,zAE,zFs,zE7,zH1]):zAE (l.map g)=l.map g':=by
 induction l with
 | nil=>rfl
 | cons x l ih=>simp only [List.map_cons,zAE,h,ih]
theorem zCY {xs ys:List PV} (h:zAE xs=ys):zAE ((xs.drop 0).take xs.length)=ys:=by rw [List.drop_zero,List.take_length];exact h
theorem zU4 {r z:Nat} {xs ys:List PV} (h:zAE xs=ys):PV.mapW (inl r [] (.own z xs)) (.bor r [] z 0 xs.length) = .sl ys:=by
 have e:zAK r [] r []=true:=by simp [zAK]
 have e2:Nat.ble (0+xs.length) xs.length=true:=by simp
 simp only [PV.mapW,inl,e,cond_true]
 show zGk (zAy (.own z xs) []) (zCx 0 xs.length)=_
 simp only [zAy,zGk,zCx,e2,cond_true]
 rw [zCY h]
def zSh (P:Program) (t:TypeId) (k1 k2:IntKind):Bool := !P.eqGuardType P.depth t && !P.stoodInHeld t&&match P.underlying t with
  | some (.struct fs)=>match fs.toList with
    | [f1, f2] => !decide (f1.name = "_") && !decide (f2.name = "_") && decide (shT P f1.type = some none) && decide (shT P f2.type = some none) && decide (f1.offset = 0) && decide (f2.offset = 1) &&
      (match P.underlying f1.type with | some (.int k)=>decide (k=k1) | _=>false)&&(match P.underlying f2.type with | some (.int k)=>decide (k=k2) | _=>false)
    | _=>false
  | _=>false
theorem zUO {P:Program} {t:TypeId} {k1 k2:IntKind} {a b c d:Int} (h:zSh P t k1 k2=true):eqV P t (.agg [.int k1 a,.int k2 b]) (.agg [.int k1 c,.int k2 d])=some (decide (a=c)&&decide (b=d)):=by
 unfold zSh at h
 rw [Bool.and_eq_true,Bool.and_eq_true] at h
 obtain ⟨⟨h1,h2⟩,h3⟩:=h
 split at h3
 ·rename_i fs hu
  split at h3
  ·rename_i f1 f2 hl
   simp only [Bool.and_eq_true,decide_eq_true_eq,Bool.not_eq_true',decide_eq_false_iff_not] at h1 h2 h3
   obtain ⟨⟨⟨⟨⟨⟨⟨n1,n2⟩,s1⟩,s2⟩,o1⟩,o2⟩,u1⟩,u2⟩:=h3
   split at u1
   ·rename_i k1' jM
    split at u2
    ·rename_i k2' uj
     simp only [decide_eq_true_eq] at u1 u2
     subst u1;subst u2
     simp only [eqV,h1,cond_false,eqT,hu,h2,hl,zUh,n1,n2,s1,s2,o1,o2,sub,jM,uj,if_true,if_false,List.getElem?_cons_zero,List.getElem?_cons_succ]
     by_cases e1:a=c
     ·subst e1
      by_cases e2:b=d
      ·subst e2;simp
      ·simp [e2]
     ·simp [e1]
    ·cases u2
   ·cases u1
  ·cases h3
 ·cases h3
theorem zRz {P:Program} {t:TypeId} {k1 k2:IntKind} {a b c d:Int} (h:zSh P t k1 k2=true:=by kernel_rfl):zJV P .neq t (.agg [.int k1 a,.int k2 b]) (.agg [.int k1 c,.int k2 d])=some (.bool (!(decide (a=c)&&decide (b=d)))):=by
 simp only [zJV,zUO h,Option.map_some]
section
variable {α:Type} {g:α→PV} {l:List α} {i z:Nat} {b:PV}
end
def zIm (P:Program) (t:TypeId):Bool:=match P.underlying t with | some (.slice _)=>true | _=>false
theorem zVN {P:Program} {t:TypeId} {p:PV} {z:Nat} (he:zE6 p=true) (hp:(match p with | .nils _=>false | .agg _=>false | _=>true)=true:=by rfl) (h:zIm P t=true:=by kernel_rfl):eqV P t p (.nils z)=some false:=by
 unfold zIm at h
 split at h
 ·rename_i e hu
  unfold eqV
  rw [hu]
  cases p<;>first | (cases hp;done) | simp only [he,cond_true]
 ·cases h
theorem zSx {P:Program} {t:TypeId} {p:PV} {z:Nat} (he:zE6 p=true) (hp:(match p with | .nils _=>false | .agg _=>false | _=>true)=true:=by rfl) (h:zIm P t=true:=by kernel_rfl):(eqV P t p (.nils z)).map PV.bool=some (.bool false):=by rw [zVN he hp h];rfl
theorem zAW {xs:List PV}:List.take xs.length (List.drop 0 xs)=xs:=by rw [List.drop_zero,List.take_length]
section
variable [Yo] {P:Program} {H:zBf} {f:FuncId} {e:Env} {lg:Option Log}
end
theorem zSy {α:Type} {g:α→PV} {l:List α} (h:0<l.length):zE6 (.sl (l.map g))=true:=by
 cases l with
 | nil=>exact absurd h (Nat.lt_irrefl _)
 | cons x l=>rfl
theorem zNH {P:Program} {t:TypeId} {z:Nat} {α:Type} {g:α→PV} {l:List α} (hp:0<l.length) (h:zIm P t=true:=by kernel_rfl):zJV P .eql t (.sl (l.map g)) (.nils z)=some (.bool false):=by
 have:=zSx (P:=P) (t:=t) (z:=z) (zSy (g:=g) hp) rfl h
 simpa [zJV] using this
class FrzOf {α:Type} (g:α→PV) (g':outParam (α→PV)):Prop where
 frz:∀ x,zAT (g x)=g' x
theorem zC6 {α:Type} {g g':α→PV} [h:FrzOf g g'] (l:List α):zAE (l.map g)=l.map g':=zCp l h.frz
section
variable {α:Type} {g:α→PV} {l:List α} {i z:Nat} {b:PV} {u0:α}
end
end Go.Eng
namespace Go.Eng
open Go
theorem blz (l:List PV):(0+l.length).ble l.length=true:=by rw [Nat.zero_add];exact Nat.ble_self_eq_true _
theorem frT {α:Type} (g:α→PV) (l:List α) (h:∀ x,zAT (g x)=g x:=by intro x;simp only [zAT,zAE,zFs,zE7,zH1]):PV.sl (zAE (List.take (List.map g l).length (List.drop 0 (List.map g l))))=PV.sl (List.map g l):=zRZ (zCY (zCp l h))
theorem frC {α:Type} (g g':α→PV) [FrzOf g g'] (l:List α):PV.sl (zAE (List.take (List.map g l).length (List.drop 0 (List.map g l))))=PV.sl (List.map g' l):=zRZ (zCY (zC6 l))
theorem lnS {α:Type} (g:α→PV) (l:List α):some (List.map g l).length=some l.length:=by rw [List.length_map]
theorem wrN (i:Nat) (h:(i:Int)+1<9223372036854775808:=by omega):PV.int IntKind.i64 (IntKind.i64.wrap ((i:Int)+1))=PV.int IntKind.i64 ((i+1:Nat):Int):=zCj (by omega) (by omega)
theorem zAd [Yo] {P:Program} {H:zBf} {f:FuncId} {nt:Nat} {e:Env} {lg:Option Log} {K:X→Env→Option Log→Prop} {c:Code} (m:Nat) (h:WS P H f (cl c) (0+m) (zVY (zHW P H f (cl c) m 0 {dr:=bif zRI (cl c) then some ([],[]) else none,e:=e,lg:=lg})) (zYF P H f nt (cr c) K .norm)) (h1:zVh c=true:=by kernel_rfl) (h2:zVI (cl c)=true:=by kernel_rfl) (h3:(zHW P H f (cl c) m 0 {dr:=bif zRI (cl c) then some ([],[]) else none,e:=e,lg:=lg}).isSome=true:=by kernel_rfl) (h4:(0+m).ble (zFj (cl c)).size=true:=by kernel_rfl):W P H f nt c e lg K:=zAf (zAe (zAc m h h3 h4) h2) h1
abbrev zs (F:List Int) (i k:Nat):PV:=PV.int IntKind.i64 ((F.set i (i:Int)).getD k 0)
abbrev z8 (i:Nat):PV:=PV.int IntKind.i64 ((List.replicate 8 (0:Int)).getD i 0)
end Go.Eng
