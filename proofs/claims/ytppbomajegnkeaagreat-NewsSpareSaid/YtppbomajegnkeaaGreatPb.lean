/- For any news, cries and evenings the law NewsSpare ends in true: the cries that can be left out, or the error, are as specified; without conditions. -/
import Derived.Test.YtppbomajegnkeaaGreatPa
import Derived.Laws.AppendOwn
set_option linter.unusedVariables false
set_option linter.unusedSimpArgs false
set_option linter.unusedSectionVars false
namespace Go.Eng
open Go
section
variable {P:Program} {w0 w w':World} {U Φ0 Φ:Nat→Prop} {nt:Nat} {hv:Hid} {a:Act} {e e':Env} {rv rv':Nat→Value} {E E':Nat→PV} {L L':Nat→List Nat} {o:zAC} {A:Al}
def Cov (w:World) (Φ:Nat→Prop) (rv:Nat→Value) (E:Nat→PV) (Φ1:Nat→Prop) (x:Nat×zAO):Prop :=
 ∀ nv q Li A,zAN w (rv x.1) (E x.1).unlock x.2=some (nv,q)→Rep w Φ A q nv Li→∀ b∈Li,Φ1 b
def zLW (hb:Nat) (A:Al):Al:=fun a v=>A a v∧∀ x∈a.ways,hb≤x.1
structure Shown (w:World) (Φ:Nat→Prop) (rv:Nat→Value) (E:Nat→PV) (hb:Nat) (p:PV) (v:Value) (Lp:List Nat) (q:PV) (l:List (Nat×zAO)):Prop where
 low:∀ x∈l,x.1<zAb∧x.1<hb
 agg:q.isAgg=p.isAgg
 len:q.cells.length=p.cells.length
 rep:∀ Φ1:Nat→Prop,(∀ b,Φ b→Φ1 b)→(∀ x∈l,Cov w Φ rv E Φ1 x)→(∀ b∈Lp,Φ1 b)→Rep w Φ1 (zLW hb (zA1 w rv E)) q v []
structure Showns (w:World) (Φ:Nat→Prop) (rv:Nat→Value) (E:Nat→PV) (hb:Nat) (ps:List PV) (vs:List Value) (Lp:List Nat) (qs:List PV) (l:List (Nat×zAO)):Prop where
 low:∀ x∈l,x.1<zAb∧x.1<hb
 len:qs.length=ps.length
 rep:∀ Φ1:Nat→Prop,(∀ b,Φ b→Φ1 b)→(∀ x∈l,Cov w Φ rv E Φ1 x)→(∀ b∈Lp,Φ1 b)→zAX w Φ1 (zLW hb (zA1 w rv E)) qs vs []
theorem zBB {r:Nat} {pre:zAO} {k:PV→PM} (h:(PM.deep r pre k).run o e=some e'):∃ q,zAz (e.get r).unlock pre=some q∧(k q).run o e=some e':=by
 simp only [PM.run] at h
 cases hq:zAz (e.get r).unlock pre with
 | none=>rw [hq] at h;cases h
 | some q=>rw [hq] at h;exact ⟨q,rfl,h⟩
theorem zES {hb:Nat} {res:PV→(PV→List (Nat×zAO)→PM)→PM}
  (y8:∀ p v Lp k,Rep w Φ (zA1 w rv E) p v Lp→(res p k).run o e=some e'→∃ q l,(k q l).run o e=some e'∧Shown w Φ rv E hb p v Lp q l) :
  ∀ (ps:List PV) (vs:List Value) (Lp:List Nat) (k:List PV→List (Nat×zAO)→PM),zAX w Φ (zA1 w rv E) ps vs Lp→(zEl res ps k).run o e=some e'→∃ qs l,(k qs l).run o e=some e'∧Showns w Φ rv E hb ps vs Lp qs l
 | [],vs,Lp,k,h,hr=>⟨[],[],hr,⟨by simp,rfl,fun _ _ _ _=>⟨h.1,rfl⟩⟩⟩
 | p::ps,vs,Lp,k,h,hr=>by
  obtain ⟨v,vs',L1,L2,rfl,rfl,h1,h2⟩:=h
  simp only [zEl] at hr
  obtain ⟨q,l,h3,h4⟩:=y8 p v L1 _ h1 hr
  obtain ⟨qs,m,h5,h6⟩:=zES y8 ps vs' L2 _ h2 h3
  refine ⟨q::qs,l++m,h5,⟨fun x hx=>?_,by simp [h6.len],fun Φ1 g1 g2 g3=>⟨v,vs',[],[],rfl,rfl,h4.rep Φ1 g1 (fun x hx=>g2 x (by simp [hx])) (fun b hb=>g3 b (by simp [hb])),h6.rep Φ1 g1 (fun x hx=>g2 x (by simp [hx])) (fun b hb=>g3 b (by simp [hb]))⟩⟩⟩
  rcases List.mem_append.1 hx with hx | hx
  ·exact h4.low x hx
  ·exact h6.low x hx
theorem zM8 {hb:Nat} {p:PV} {v:Value} {Lp:List Nat} (hp:Rep w Φ (zA1 w rv E) p v Lp) (hw:∀ x∈p.ways,hb≤x.1):Shown w Φ rv E hb p v Lp (zAP p) [] :=
 ⟨by simp,zCY p,zCZ p,fun Φ1 g1 _ g3=>(zDY g1 p v Lp g3 hp).ways _ _ _ fun a v _ hx ha=>⟨ha,fun x qt=>hw x (zGs p x (hx x qt))⟩⟩
theorem zHA {hb:Nat} {p:PV} {v:Value} (hp:Rep w Φ (zA1 w rv E) p v []) (hw:∀ x∈p.ways,hb≤x.1):Shown w Φ rv E hb p v [] p [] :=
 ⟨by simp,rfl,rfl,fun Φ1 g1 _ g3=>(hp.mono (fun b hb=>⟨g1 b hb,rfl⟩) (fun _ _ _ h=>h) (by simp)).ways _ _ _ fun a v _ hx ha=>⟨ha,fun x qt=>hw x (hx x qt)⟩⟩
theorem zHp {hb:Nat} {l:List (Nat×zAO)} (h:l.isEmpty=true):∀ x∈l,hb≤x.1:=by
 cases l with
 | nil=>simp
 | cons _ _=>cases h
theorem zKe (S:St w0 U Φ0 nt hv a w e Φ rv E L) {hb:Nat}:∀ (n:Nat) (p:PV) (v:Value) (Lp:List Nat) (k:PV→List (Nat×zAO)→PM),Rep w Φ (zA1 w rv E) p v Lp→(resolve hb n p k).run o e=some e' →
  ∃ q l,(k q l).run o e=some e'∧Shown w Φ rv E hb p v Lp q l
 | 0,p,v,Lp,k,hp,h=>by cases h
 | n + 1, p, v,Lp,k,hp,h=>by
  have ih:=zKe S (hb:=hb) n
  have node:∀ r pre x,r<zAb→zAz (e.get r).unlock pre=some x→∃ nv Li,zAN w (rv r) (E r).unlock pre=some (nv,x)∧Rep w Φ (zA1 w rv E) x nv Li∧∀ Φ1,Cov w Φ rv E Φ1 (r,pre)→∀ b∈Li,Φ1 b:=by
   intro r pre x hr hx
   rw [← S.env r hr] at hx
   obtain ⟨nv,Li,h1,_,h3⟩:=zBG (zBT (S.conf.rep r)) hx
   exact ⟨nv,Li,h1,h3.mono zDf.refl (fun _ _ _ h=>zEr h) (fun _ _=>rfl),fun Φ1 hc b hb=>hc nv x Li _ h1 h3 b hb⟩
  have dflt:(∀ x∈p.ways,hb≤x.1)→(k (zAP p) []).run o e=some e'→∃ q l,(k q l).run o e=some e'∧Shown w Φ rv E hb p v Lp q l :=
   fun hw h=>⟨_,_,h,zM8 hp hw⟩
  have dflt2:(bif p.ways.all (fun w=>Nat.ble hb w.1) then k (zAP p) [] else .fail).run o e=some e'→∃ q l,(k q l).run o e=some e'∧Shown w Φ rv E hb p v Lp q l:=by
   intro h
   obtain ⟨h1,h2⟩:=zAF h
   exact dflt (fun x hx=>Nat.le_of_ble_eq_true (List.all_eq_true.1 h1 x hx)) h2
  have keep:∀ r,(∀ x∈p.ways,x.1=r)→Lp=[]→(k p []).run o e=some e'→Nat.ble hb r=true→∃ q l,(k q l).run o e=some e'∧Shown w Φ rv E hb p v Lp q l:=by
   intro r hw hL hk hr
   subst hL
   exact ⟨_,_,hk,zHA hp fun x hx=>by rw [hw x hx];exact Nat.le_of_ble_eq_true hr⟩
  have yr:∀ r,Nat.ble hb r=false→r<hb:=by
   intro r hr
   exact Nat.lt_of_not_le fun yP=>by rw [Nat.ble_eq_true_of_le yP] at hr;cases hr
  cases p<;>simp only [resolve] at h<;>try (exact dflt2 h)
  case agg cs =>
   cases hw:(PV.agg cs).ways.isEmpty with
   | true=>rw [hw] at h;exact dflt (zHp hw) h
   | false =>
    rw [hw] at h;simp only [cond_false] at h
    obtain ⟨vs,rfl,hr⟩:=hp
    obtain ⟨qs,l,h1,h2⟩:=zES ih cs _ Lp _ hr h
    exact ⟨_,_,h1,⟨h2.low,rfl,by simpa [PV.cells] using h2.len,fun Φ1 g1 g2 g3=>⟨vs,rfl,h2.rep Φ1 g1 g2 g3⟩⟩⟩
  case ref q =>
   have hL:=hp.1
   subst hL
   cases hw:q.ways.isEmpty with
   | true=>rw [hw] at h;exact ⟨_,_,h,zHA hp (zHp hw)⟩
   | false =>
    rw [hw] at h;simp only [cond_false] at h
    obtain ⟨_,b,c,u,h1,h2,h3,h4,h5,h6,h7⟩:=hp
    obtain ⟨q',l,h8,h9⟩:=ih q u [] _ h7 h
    refine ⟨_,_,h8,⟨h9.low,rfl,rfl,fun Φ1 g1 g2 g3=>⟨rfl,b,c,u,h1,h2,g1 _ h3,h4,by rw [h9.len];exact h5,by rw [h9.len,h9.agg];exact h6,h9.rep Φ1 g1 g2 (by simp)⟩⟩⟩
  case func f x y =>
   have hL:=hp.1
   subst hL
   cases hw:(PV.func f x y).ways.isEmpty with
   | true=>rw [hw] at h;exact ⟨_,_,h,zHA hp (zHp hw)⟩
   | false =>
    rw [hw] at h;simp only [cond_false] at h
    obtain ⟨_,fs,cs,h1,h2,h3⟩:=hp
    obtain ⟨qs,l,h4,h5⟩:=zES ih x _ [] _ h2 h
    obtain ⟨qs',m,h6,h7⟩:=zES ih y _ [] _ h3 h4
    refine ⟨_,_,h6,⟨fun z hz=>?_,rfl,rfl,fun Φ1 g1 g2 g3=>⟨rfl,fs,cs,h1,h5.rep Φ1 g1 (fun z hz=>g2 z (by simp [hz])) (by simp),h7.rep Φ1 g1 (fun z hz=>g2 z (by simp [hz])) (by simp)⟩⟩⟩
    rcases List.mem_append.1 hz with hz | hz
    ·exact h5.low z hz
    ·exact h7.low z hz
  case addr r pre i c sh =>
   have hL:=hp.1
   have ha:=hp.2
   cases jo:Nat.ble hb r with
   | true=>rw [jo] at h;exact keep r (by simp [PV.ways]) hL h jo
   | false =>
    rw [jo] at h;simp only [cond_false] at h
    obtain ⟨x,hx,h1⟩:=zBB h
    obtain ⟨hg,ad,rfl,y1,hn⟩:=ha
    obtain ⟨nv,Li,hf,vf,jx⟩:=node r pre x hg hx
    cases hh:zA6 x with
    | none=>rw [hh] at h1;cases h1
    | some xs =>
     rw [hh] at h1;simp only at h1
     cases hi:xs[i]? with
     | none=>rw [hi] at h1;cases h1
     | some y =>
      rw [hi] at h1;simp only at h1
      obtain ⟨ux,row,ad0,Lx,k1,k2,k3,k4,k5,k6,k7,k8,k9⟩:=zKZ vf hh hi
      have jG:=hn nv x hf _ (k5 c)
      subst jG
      have k9':=k9.mono (A':=zA1 w rv E) zDf.refl (fun _ _ _ h=>zFW h) (fun _ _=>rfl)
      cases sh with
      | some m =>
       simp only at h1
       obtain ⟨hc,h2⟩:=zAF h1
       simp only [Bool.and_eq_true] at hc
       have yP:=Nat.le_of_ble_eq_true hc.1
       cases hya:y<;>rw [hya] at hc<;>try (simp [PV.isAgg] at hc;done)
       rename_i cs
       subst hya
       obtain ⟨vs,rfl,hr⟩:=k9'
       obtain ⟨Ly,hly,wa⟩:=zGy hr c m
       have hZ:=hr.length
       obtain ⟨q',l,h3,h4⟩:=ih (.agg ((cs.drop c).take m)) (.agg ((vs.toList.drop c).take m).toArray) Ly _ ⟨_,rfl,by simpa using wa⟩ h2
       have jc:q'.cells.length=m:=by rw [h4.len];simp [PV.cells] at yP ⊢;omega
       refine ⟨_,_,h3,⟨fun z hz=>?_,rfl,rfl,fun Φ1 g1 g2 g3=>?_⟩⟩
       ·rcases List.mem_cons.1 hz with rfl | hz
        ·exact ⟨hg,yr r jo⟩
        ·exact h4.low z hz
       ·have jS:=jx Φ1 (g2 _ (by simp))
        refine ⟨rfl,zAr ad0 c,row,_,rfl,rfl,jS _ k1,k3.any,?_,⟨?_,?_⟩,h4.rep Φ1 g1 (fun z hz=>g2 z (by simp [hz])) fun b hb=>jS b (k4 b (hly b hb))⟩
        ·rw [jc];simp only [zAr,Value.cells];rw [k6 c m yP];rfl
        ·rw [jc];simp [Value.cells,PV.cells] at yP hZ ⊢;omega
        ·rw [h4.agg];rfl
      | none =>
       simp only at h1
       cases hc:y.cells[c]? with
       | none=>rw [hc] at h1;cases h1
       | some z =>
        rw [hc] at h1;simp only at h1
        obtain ⟨vH,h2⟩:=zAF h1
        obtain ⟨u,La,Lu,Lb,hu,vd,kf,_,_⟩:=k9'.cell hc k7
        obtain ⟨q',l,h3,h4⟩:=ih z u Lu _ kf h2
        have ka:=zBA (zB1 (fun a v hw h=>zCV hw h) kf vH)
        have ve:=zBf vH
        have yN:c<y.cells.length:=(List.getElem?_eq_some_iff.1 hc).1
        refine ⟨_,_,h3,⟨fun z hz=>?_,rfl,rfl,fun Φ1 g1 g2 g3=>?_⟩⟩
        ·rcases List.mem_cons.1 hz with rfl | hz
         ·exact ⟨hg,yr r jo⟩
         ·exact h4.low z hz
        ·have jS:=jx Φ1 (g2 _ (by simp))
         refine ⟨rfl,zAr ad0 c,row,u,rfl,rfl,jS _ k1,k3.any,?_,⟨?_,?_⟩,h4.rep Φ1 g1 (fun z hz=>g2 z (by simp [hz])) fun b hb=>jS b (k4 b (by rw [vd];simp [hb]))⟩
         ·rw [h4.len,ve.1,ka.1]
          have:=k6 c 1 (by omega)
          simp only [zAr,List.length_singleton]
          rw [this]
          have yF:c<ux.cells.toList.length:=by simpa [k8] using yN
          rw [List.drop_eq_getElem_cons yF]
          have:ux.cells.toList[c]=u:=by rw [List.getElem?_eq_getElem yF] at hu;simpa using hu
          simp [this]
         ·rw [h4.len,ve.1,ka.1];rfl
         ·rw [h4.agg,ve.2,ka.2]
  case bor r pre z lo m =>
   have hL:=hp.1
   have ha:=hp.2
   cases jo:Nat.ble hb r with
   | true=>rw [jo] at h;exact keep r (by simp [PV.ways]) hL h jo
   | false =>
    rw [jo] at h;simp only [cond_false] at h
    obtain ⟨x,hx,h1⟩:=zBB h
    obtain ⟨hg,_,hn⟩:=ha
    obtain ⟨nv,Li,hf,vf,jx⟩:=node r pre x hg hx
    split at h1
    ·rename_i sz xs
     obtain ⟨hc,h2⟩:=zAF h1
     refine ⟨_,_,h2,⟨fun z hz=>?_,rfl,rfl,fun Φ1 g1 g2 g3=>?_⟩⟩
     ·simp only [List.mem_singleton] at hz;subst hz;exact ⟨hg,yr r jo⟩
     ·have:=zH6 (A':=zLW hb (zA1 w rv E)) g1 vf (jx Φ1 (g2 _ (by simp))) (z:=z) (lo:=lo) (n:=m) (v:=v) fun sz' xs' js=>by
       obtain ⟨sz2,xs2,h7,h8,h9⟩:=hn nv _ hf rfl
       cases h7;cases js;exact ⟨h8,h9⟩
      simp only [zCp,hc,cond_true] at this
      exact this
    ·cases h1
  case bmap r pre =>
   have hL:=hp.1
   have ha:=hp.2
   cases jo:Nat.ble hb r with
   | true=>rw [jo] at h;exact keep r (by simp [PV.ways]) hL h jo
   | false =>
    rw [jo] at h;simp only [cond_false] at h
    obtain ⟨x,hx,h1⟩:=zBB h
    obtain ⟨hg,_,hn⟩:=ha
    obtain ⟨nv,Li,hf,vf,jx⟩:=node r pre x hg hx
    split at h1
    ·rename_i es
     refine ⟨_,_,h1,⟨fun z hz=>?_,rfl,rfl,fun Φ1 g1 g2 g3=>?_⟩⟩
     ·simp only [List.mem_singleton] at hz;subst hz;exact ⟨hg,yr r jo⟩
     ·exact zG1 (A':=zLW hb (zA1 w rv E)) g1 vf (jx Φ1 (g2 _ (by simp))) (v:=v) fun es' js=>hn nv _ hf _ js
    ·cases h1
  case bsl r pre i c sz ag m =>
   have hL:=hp.1
   have ha:=hp.2
   cases jo:Nat.ble hb r with
   | true=>rw [jo] at h;exact keep r (by simp [PV.ways]) hL h jo
   | false =>
    rw [jo] at h;simp only [cond_false] at h
    obtain ⟨x,hx,h1⟩:=zBB h
    obtain ⟨hg,ad,cap,rfl,yR,y1,hn⟩:=ha
    obtain ⟨nv,Li,hf,vf,jx⟩:=node r pre x hg hx
    cases hh:zA6 x with
    | none=>rw [hh] at h1;cases h1
    | some xs =>
     rw [hh] at h1;simp only at h1
     cases hi:xs[i]? with
     | none=>rw [hi] at h1;cases h1
     | some y =>
      rw [hi] at h1;simp only at h1
      obtain ⟨hc,h2⟩:=zAF h1
      refine ⟨_,_,h2,⟨fun z hz=>?_,rfl,rfl,fun Φ1 g1 g2 g3=>?_⟩⟩
      ·simp only [List.mem_singleton] at hz;subst hz;exact ⟨hg,yr r jo⟩
      ·have:=zGQ (A':=zLW hb (zA1 w rv E)) (fun a v hw h=>zI9 hw h) g1 vf (jx Φ1 (g2 _ (by simp))) (i:=i) (c:=c) (sz:=sz) (ag:=ag) (m:=m) (v := .slice (some ad) m cap) rfl yR fun a' kO=>hn nv x hf a' kO
       simp only [zCj,hh,hi,hc,cond_true] at this
       exact this
theorem zOW (S:St w0 U Φ0 nt hv a w e Φ rv E L) {p:PV} {v:Value} {Lp:List Nat} {k:PV→List (Nat×zAO)→PM} (hp:Rep w Φ (zA1 w rv E) p v Lp) (h:(zPp p k).run o e=some e') :
  ∃ q l,(k q l).run o e=some e'∧(∀ x∈l,x.1<zAb)∧∀ Φ1:Nat→Prop,(∀ b,Φ b→Φ1 b)→(∀ x∈l,Cov w Φ rv E Φ1 x)→(∀ b∈Lp,Φ1 b)→Rep w Φ1 zB6 q v []:=by
 obtain ⟨q,l,h1,h2⟩:=zKe S (hb:=zAb) depth p v Lp k hp h
 refine ⟨q,l,h1,fun x hx=>(h2.low x hx).1,fun Φ1 g1 g2 g3=>(h2.rep Φ1 g1 g2 g3).mono zDf.refl (fun a v hw ha=>?_) (fun _ _=>rfl)⟩
 have hr:=zCM ha.1
 have:=ha.2 (zA3 a)
 cases a<;>first | (cases hw;done) | (exact ha.1.elim) | skip
 all_goals
  have:=this (by simp [PV.ways,zA3])
  omega
theorem zMf {p q' p':PV} {i c:Nat} (hp:zBQ p i c q'=some p'):p'.unlock=p'∧p'.isTup=false:=by
 simp only [zBQ] at hp
 cases p<;>simp only [zAZ,Option.bind_none,Option.bind_some] at hp<;>try cases hp
 case own sz xs =>
  cases hx:xs[i]?<;>rw [hx] at hp<;>simp [zAB] at hp
  subst hp;exact ⟨rfl,rfl⟩
 case box q =>
  cases i with
  | zero=>simp [zAB] at hp;subst hp;exact ⟨rfl,rfl⟩
  | succ i=>simp at hp
 case agg cs =>
  cases i with
  | zero=>simp [zAB,zAy] at hp;subst hp;exact ⟨rfl,rfl⟩
  | succ i=>simp at hp
theorem zBD {q' p p':PV} (h1:q'.unlock=q') (h2:q'.isTup=false):∀ {pre:zAO},zAv (fun _=>some q') p pre=some p'→p'.unlock=p'∧p'.isTup=false
 | [],h=>by simp only [zAv,Option.some.injEq] at h;subst h;exact ⟨h1,h2⟩
 | (i,c)::rest,h=>by
  rw [zBl] at h
  cases hc:Eng.child p i c with
  | none=>rw [hc] at h;cases h
  | some q =>
   rw [hc] at h;simp only [Option.bind_some] at h
   cases hm:zAv (fun _=>some q') q rest with
   | none=>rw [hm] at h;cases h
   | some q1=>rw [hm] at h;exact zMf (by simpa using h)
theorem zER (q:PV):(zAP q).unlock=zAP q∧(zAP q).isTup=false:=by cases q<;>exact ⟨rfl,rfl⟩
theorem zBv {p:PV} (h:p.isLock=false):p.unlock=p:=by cases p<;>first | rfl | cases h
theorem zRj (r:Nat) (pre:zAO) (q p:PV) (hp:p.isWay=true):(inl r pre q p).isTup=false:=by
 have h:=(zIw r pre q).dull p hp
 have h1 : ∀ i c sh x,(zDu i c sh x).isTup=false:=by
  intro i c sh x
  simp only [zDu]
  split
  ·split
   ·split
    ·cases (Nat.ble _ _&&PV.isAgg _)<;>rfl
    ·split
     ·rename_i q _;cases q.oneCell<;>rfl
     ·rfl
   ·rfl
  ·rfl
 have h2:∀ lo n x,(zCp lo n x).isTup=false:=by
  intro lo n x
  cases x<;>try rfl
  simp only [zCp];cases Nat.ble _ _<;>rfl
 have h5:∀ i c sz ag m x,(zCj i c sz ag m x).isTup=false:=by
  intro i c sz ag m x
  simp only [zCj]
  split
  ·split
   ·cases (zCg ag sz m _&&_)<;>rfl
   ·rfl
  ·rfl
 have h3:∀ x,(zEv x).isTup=false:=by intro x;cases x<;>rfl
 have h4:∀ (o:Option PV) (f:PV→PV),(∀ x,(f x).isTup=false)→(zGj o f).isTup=false:=by
  intro o f hf;cases o with
  | none=>rfl
  | some x=>exact hf x
 cases p<;>first | (cases hp;done) | skip
 all_goals
  simp only [inl]
  first | rfl | skip
 all_goals
  cases zAH r pre _ _<;>first | rfl | exact h4 _ _ (h1 _ _ _) | exact h4 _ _ (h2 _ _) | exact h4 _ _ h3 | exact h4 _ _ (h5 _ _ _ _ _)
theorem zWo (S:St w0 U Φ0 nt hv a w e Φ rv E L) (M:Nat→Bool) {r:Nat} {pre:zAO} {q:PV} (hr:r<zAb) (hq:zAz (e.get r).unlock pre=some q) {k:PM} (h:(PM.frz r pre k).run o e=some e') :
  ∃ e1 Φ1 E1 L1,k.run o e1=some e'∧St w0 U Φ0 nt hv a w e1 Φ1 rv E1 L1∧(∀ b,Φ b→Φ1 b)∧(∀ s,zAb≤s→E1 s=(if M s then (E s).mapW (inl r pre q) else E s)∧L1 s=L s):=by
 simp only [PM.run] at h
 cases hf:e.frz r pre with
 | none=>rw [hf] at h;cases h
 | some e1 =>
  rw [hf] at h;simp only at h
  obtain ⟨q0,root,hl,hn,hm,yT⟩:=Env.frz_eq hf
  have yG:=zBv hl
  rw [yG,hn] at hq;simp only [Option.some.injEq] at hq;subst hq
  have hE:=S.env r hr
  obtain ⟨k1,k2⟩:=zBD (zER q0).1 (zER q0).2 hm
  obtain ⟨nv,Li,L',h1,h2,h3,h4⟩:=S.conf.ice M hr (pre:=pre) (q:=q0) (root':=root) (by rw [hE];exact yG) (by rw [hE];exact hn) (by rw [hE];exact hm) k1
  refine ⟨e1,_,_,L',h,S.turn h4 (fun s hs=>?_) (fun _ _=>rfl) (fun d ps hd hp=>?_),fun b hb => .inl hb,fun s hs=>⟨?_,h3 s (by omega)⟩⟩
  ·simp only [hs,true_or,if_true]
   rw [yT s]
   by_cases yY:s=r
   ·subst yY;simp
   ·rw [if_neg yY,if_neg yY,S.env s hs]
  ·have uf:d<zAb:=by simp only [zAb];omega
   simp only [uf,true_or,if_true] at hp
   obtain ⟨ps',h5,h6⟩:=zDV (zRj r pre q0) hp
   by_cases jg:d=r
   ·rw [if_pos jg] at h5;rw [h5] at k2;cases k2
   ·rw [if_neg jg] at h5;exact ⟨ps',h5,h6⟩
  ·have:¬ s<zAb:=by omega
   simp only [this,false_or]
   have yY:s≠r:=by omega
   rw [if_neg yY]
theorem zQi {l:List (Nat×zAO)} {hb:Nat} (h:l.find? (fun w=>Nat.blt w.1 hb)=none):∀ x∈l,hb≤x.1:=by
 intro x hx
 have:=List.find?_eq_none.1 h x hx
 exact Nat.le_of_not_lt fun yF=>this (Nat.ble_eq_true_of_le yF)
theorem zIX {hb g:Nat} (hg:zAb≤g) (jo:hb≤zAb) {k:PV→PM}:∀ (n:Nat) {e:Env} {Φ:Nat→Prop} {E:Nat→PV} {L:Nat→List Nat},St w0 U Φ0 nt hv a w e Φ rv E L→(zLG hb n (E g) k).run o e=some e' →
  ∃ e1 Φ1 E1 L1,(k (E1 g)).run o e1=some e'∧St w0 U Φ0 nt hv a w e1 Φ1 rv E1 L1∧(∀ b,Φ b→Φ1 b)∧(∀ s,zAb≤s→s≠g→E1 s=E s)∧(∀ s,zAb≤s→L1 s=L s) ∧
   (∀ x∈(E1 g).ways,hb≤x.1)∧(E1 g).isAgg=(E g).isAgg∧(E1 g).cells.length=(E g).cells.length
 | 0,e,Φ,E,L,S,h=>by cases h
 | n + 1,e,Φ,E,L,S,h=>by
  simp only [zLG] at h
  split at h
  ·rename_i hf
   exact ⟨e,Φ,E,L,h,S,fun _ h=>h,fun _ _ _=>rfl,fun _ _=>rfl,zQi hf,rfl,rfl⟩
  ·rename_i r pre hf
   have hr:r<zAb:=by
    have:=List.find?_some hf
    have:r<hb:=Nat.le_of_ble_eq_true this
    omega
   obtain ⟨q,hq,h1⟩:=zBB h
   obtain ⟨e1,Φ1,E1,L1,h2,S1,h3,h4⟩:=zWo S (fun s=>s==g) hr hq h1
   have uT:E1 g=(E g).mapW (inl r pre q):=by simpa using (h4 g hg).1
   rw [← uT] at h2
   obtain ⟨e2,Φ2,E2,L2,h5,S2,h6,h7,h8,h9,jQ,vG⟩:=zIX hg jo n S1 h2
   refine ⟨e2,Φ2,E2,L2,h5,S2,fun b hb=>h6 b (h3 b hb),fun s hs hI=>?_,fun s hs=>(h8 s hs).trans (h4 s hs).2,h9,?_,?_⟩
   ·rw [h7 s hs hI,(h4 s hs).1];simp [hI]
   ·rw [jQ,uT,zFO (zIw r pre q).agg]
   ·rw [vG,uT,zHE (zIw r pre q).agg]
end
end Go.Eng
namespace Go.Eng
open Go
section
variable {w w':World} {Φ Φ':Nat→Prop} {A A':Al}
theorem zAX.append:∀ {ps qs:List PV} {us vs:List Value} {L M:List Nat},zAX w Φ A ps us L→zAX w Φ A qs vs M→zAX w Φ A (ps++qs) (us++vs) (L++M)
 | [],qs,us,vs,L,M,h,h'=>by obtain ⟨rfl,rfl⟩:=h;simpa using h'
 | p::ps,qs,us,vs,L,M,h,h'=>by
  obtain ⟨v,us',L1,L2,rfl,rfl,h1,h2⟩:=h
  exact ⟨v,us'++vs,L1,L2++M,rfl,by simp,h1,h2.append h'⟩
theorem zAX.cut:∀ {ps:List PV} {us:List Value} {L:List Nat} (n:Nat),zAX w Φ A ps us L→∃ L1 L2,L=L1++L2∧zAX w Φ A (ps.take n) (us.take n) L1∧zAX w Φ A (ps.drop n) (us.drop n) L2
 | ps,us,L,0,h=>⟨[],L,rfl,by simp [zAX],by simpa using h⟩
 | [],us,L,n+1,h=>by obtain ⟨rfl,rfl⟩:=h;exact ⟨[],[],rfl,by simp [zAX],by simp [zAX]⟩
 | p::ps,us,L,n+1,h=>by
  obtain ⟨v,us',L1,L2,rfl,rfl,h1,h2⟩:=h
  obtain ⟨M1,M2,rfl,h3,h4⟩:=h2.cut n
  exact ⟨L1++M1,M2,by simp,⟨v,_,L1,M1,rfl,rfl,h1,h3⟩,by simpa using h4⟩
theorem zAX.replace {ps:List PV} {us:List Value} {L:List Nat} (h:zAX w Φ A ps us L) (c n:Nat):∃ L1 L2 L3,L=L1++L2++L3 ∧
  ∀ {w':World} {Φ':Nat→Prop} {A':Al} {qs:List PV} {vs:List Value} {Lq:List Nat},(∀ a v,a.isWay=true→A a v→A' a v)→zDf w w' Φ Φ'→(∀ b∈L1++L3,w'.heap[b]? = w.heap[b]?)→zAX w' Φ' A' qs vs Lq →
   zAX w' Φ' A' (ps.take c++qs++ps.drop (c+n)) (us.take c++vs++us.drop (c+n)) (L1++Lq++L3):=by
 obtain ⟨L1,L23,rfl,h1,h2⟩:=h.cut c
 obtain ⟨L2,L3,rfl,_,h3⟩:=h2.cut n
 rw [List.drop_drop,List.drop_drop] at h3
 refine ⟨L1,L2,L3,by simp,fun hA hs hb hq=>?_⟩
 exact ((h1.mono hs hA fun b h=>hb b (by simp [h])).append hq).append (h3.mono hs hA fun b h=>hb b (by simp [h]))
end
def zBa (c:Array Value) (o:Nat) (vs:List Value):Array Value:=(c.toList.take o++vs++c.toList.drop (o+vs.length)).toArray
theorem zGz {c:Array Value} {o:Nat} {vs:List Value} (h:o+vs.length≤c.size):(zBa c o vs).size=c.size:=by
 simp [zBa];omega
theorem zCL {α:Type} {l:List α} {o:Nat} {vs:List α} (h:o+vs.length≤l.length) (k:Nat) :
  (l.take o++vs++l.drop (o+vs.length))[k]? = if k<o then l[k]? else if k<o+vs.length then vs[k-o]? else l[k]?:=by
 have ho:(l.take o).length=o:=by simp;omega
 have hov:(l.take o++vs).length=o+vs.length:=by simp;omega
 by_cases h1:k<o
 ·rw [if_pos h1,List.getElem?_append_left (by omega),List.getElem?_append_left (by omega),List.getElem?_take,if_pos h1]
 ·rw [if_neg h1]
  by_cases h2:k<o+vs.length
  ·rw [if_pos h2,List.getElem?_append_left (by omega),List.getElem?_append_right (by omega),ho]
  ·rw [if_neg h2,List.getElem?_append_right (by omega),hov,List.getElem?_drop,show o+vs.length+(k-(o+vs.length))=k by omega]
theorem zHD {c:Array Value} {o off m:Nat} {vs:List Value} (h1:off≤o) (h2:o+vs.length≤off+m) (h3:off+m≤c.size) :
  seg (zBa c o vs) off m=(seg c off m).take (o-off)++vs++(seg c off m).drop (o-off+vs.length):=by
 have jZ:(seg c off m).length=m:=by simp [seg];omega
 apply List.ext_getElem?
 intro k
 rw [zCL (by rw [jZ];omega)]
 simp only [seg,zBa,List.getElem?_take,List.getElem?_drop]
 rw [zCL (by simp;omega)]
 by_cases hk:k<m
 ·simp only [hk,if_true]
  by_cases h4:off+k<o
  ·have h6:k<o-off:=by omega
   simp only [h4,h6,if_true]
  ·have h6:¬ k<o-off:=by omega
   simp only [h4,h6,if_false]
   by_cases h5:off+k<o+vs.length
   ·have h7:k<o-off+vs.length:=by omega
    simp only [h5,h7,if_true]
    rw [show off+k-o=k-(o-off) by omega]
   ·have h7:¬ k<o-off+vs.length:=by omega
    simp only [h5,h7,if_false]
 ·have h6:¬ k<o-off:=by omega
  have h7:¬ k<o-off+vs.length:=by omega
  simp only [hk,h6,h7,if_false]
theorem zU1 {c:Array Value} {off m:Nat} {l:List Value} (h:seg c off m=l) (hl:l.length=m) (hm:m≠0):off+m≤c.size:=by
 rw [← h] at hl
 simp [seg] at hl;omega
theorem zCQ (us vs:List Value):flat (us++vs)=flat us++flat vs:=by simp [flat]
section
variable {w w':World} {Φ Φ':Nat→Prop} {A A':Al}
theorem zOq {x:PV} {u:Value} {L:List Nat} (h:Rep w Φ A x u L) (hn:zCa u=x.isAgg) {c:Nat} {qs:List PV} {vs:List Value} (hq:∀ q∈qs,q.oneCell=true) (yf:∀ v∈vs,v.oneCell'=true) (hZ:vs.length=qs.length) (hc:c+qs.length≤x.cells.length) :
  ∃ u' L1 L2 L3,u'.cells.toList=u.cells.toList.take c++vs++u.cells.toList.drop (c+vs.length)∧zCa u'=zCa u∧L=L1++L2++L3∧(zAy x c qs).isAgg=x.isAgg∧(zAy x c qs).cells.length=x.cells.length ∧
   ∀ {w':World} {Φ':Nat→Prop} {A':Al} {Lq:List Nat},(∀ a v,a.isWay=true→A a v→A' a v)→zDf w w' Φ Φ'→(∀ b∈L1++L3,w'.heap[b]? = w.heap[b]?)→zAX w' Φ' A' qs vs Lq →
    Rep w' Φ' A' (zAy x c qs) u' (L1++Lq++L3):=by
 cases hx:x.isAgg with
 | true =>
  cases x<;>simp [PV.isAgg] at hx
  rename_i cs
  obtain ⟨us,rfl,hr⟩:=h
  obtain ⟨L1,L2,L3,rfl,hk⟩:=hr.replace c qs.length
  have jA:=hr.length
  refine ⟨.agg (us.toList.take c++vs++us.toList.drop (c+vs.length)).toArray,L1,L2,L3,by simp [Value.cells],rfl,rfl,rfl,?_,fun hA hs hb hq=>⟨_,rfl,?_⟩⟩
  ·simp [zAy,PV.cells] at hc ⊢;omega
  ·have:=hk hA hs hb hq
   rw [hZ];simpa using this
 | false =>
  have j3:x.cells=[x]:=by cases x<;>first | rfl | simp [PV.isAgg] at hx
  have hv:u.cells=#[u]:=by rw [hx] at hn;cases u<;>first | rfl | simp [zCa] at hn
  rw [j3] at hc ⊢
  match qs,vs,hZ,hq,yf with
  | [],[],_,_,_ =>
   have he:zAy x c []=x:=by cases x<;>first | rfl | simp [PV.isAgg] at hx
   refine ⟨u,L,[],[],by simp,rfl,by simp,by rw [he];exact hx,by rw [he,j3],fun hA hs hb hq=>?_⟩
   obtain ⟨_,rfl⟩:=hq
   rw [he];simpa using h.mono hs hA (fun b yH=>hb b (by simp [yH]))
  | [q],[v],_,hq,yf =>
   have vV:c=0:=by simp at hc;exact hc
   subst vV
   have he:zAy x 0 [q]=q:=by cases x<;>first | rfl | simp [PV.isAgg] at hx
   have h1:=zBf (hq q (by simp))
   have h2:=zBA (yf v (by simp))
   refine ⟨v,[],L,[],by simp [hv,h2.1],by rw [h2.2,hn,hx],by simp,by rw [he];exact h1.2,by rw [he,h1.1];rfl,fun hA hs hb hq=>?_⟩
   obtain ⟨v',vs',L1,L2,h3,h4,h5,h6⟩:=hq
   obtain ⟨h7,h8⟩:=h6
   cases h3;subst h8
   rw [he,h4];simpa using h5
  | _::_::_,_,_,_,_=>simp only [List.length_cons,List.length_nil] at hc;omega
theorem zEN {α:Type} {l:List α} {i:Nat} {x:α} (h:i<l.length):l.set i x=l.take i++[x]++l.drop (i+1):=by
 rw [List.set_eq_take_append_cons_drop,if_pos h];simp
theorem zTG {np q':PV} {nv:Value} {Li:List Nat} (h:Rep w Φ A np nv Li) {xs:List PV} (hx:zA6 np=some xs) {i c:Nat} {x:PV} (hi:xs[i]? = some x) {qs:List PV} {vs:List Value}
  (hq:∀ q∈qs,q.oneCell=true) (yf:∀ v∈vs,v.oneCell'=true) (hZ:vs.length=qs.length) (hI:qs.length≠0) (hc:c+qs.length≤x.cells.length) (hw:zAB np (xs.set i (zAy x c qs))=some q') :
  ∃ ad row La Lm Lb,zA4 nv np i c=some ad∧ad.spot=none∧zEK w ad.block row∧ad.off+vs.length≤row.size∧Li=ad.block::(La++Lm++Lb) ∧
   ∀ {w':World} {Φ':Nat→Prop} {A':Al} {Lq:List Nat},(∀ a v,a.isWay=true→A a v→A' a v)→zDf w w' Φ Φ'→(∀ b∈La++Lb,w'.heap[b]? = w.heap[b]?)→zEK w' ad.block (zBa row ad.off vs)→zAX w' Φ' (zGk A' np) qs vs Lq →
    Rep w' Φ' A' q' nv (ad.block::(La++Lq++Lb)):=by
 have yI:i<xs.length:=(List.getElem?_eq_some_iff.1 hi).1
 cases np<;>simp only [zA6] at hx<;>try cases hx
 case own sz =>
  obtain ⟨h1,h2,h3⟩ | ⟨a,n,r,us,L',rfl,h1,h2,h3,h4,h5,h6,⟨h7,uG⟩,h8,h9⟩:=h
  ·subst h1;simp at hi
  ·simp only [zAB,Option.some.injEq] at hw;subst hw
   have husl:us.length=xs.length:=by have:=congrArg List.length uG;simpa using this
   obtain ⟨Ka,K23,rfl,hA1,hB⟩:=h9.cut i
   have wi:i<us.length:=by omega
   have hxe:xs[i]=x:=by rw [List.getElem?_eq_getElem yI] at hi;simpa using hi
   rw [List.drop_eq_getElem_cons yI,List.drop_eq_getElem_cons wi,hxe] at hB
   obtain ⟨u,us2,Lx,Kb,hue,rfl,hr,hB⟩:=hB
   simp only [List.cons.injEq] at hue
   obtain ⟨hu0,rfl⟩:=hue
   have hu:us[i]? = some u:=by rw [List.getElem?_eq_getElem wi,hu0]
   have hg:zCa u=x.isAgg:=by
    have h1:(us.map zCa)[i]? = some (zCa u):=by simp [hu]
    have h2:(xs.map PV.isAgg)[i]? = some x.isAgg:=by simp [hi]
    rw [uG] at h1;rw [h1] at h2;simpa using h2
   have vU:=h6 x (List.mem_of_getElem? hi)
   have jA:=h7 u (List.mem_of_getElem? hu)
   obtain ⟨u',L1,L2,L3,k1,k2,rfl,k4,k5,k6⟩:=zOq hr hg hq yf hZ hc
   have wj:i*sz+sz≤xs.length*sz:=by rw [← Nat.succ_mul];exact Nat.mul_le_mul_right _ yI
   have hnsz:xs.length*sz≤n*sz:=Nat.mul_le_mul_right _ h3
   have yB:a.off+(i*sz+c)+vs.length≤r.size:=by rw [hZ];omega
   refine ⟨zAr a (i*sz+c),r,Ka++L1,L2,L3++Kb,by rw [h1];rfl,rfl,h4,yB,by simp [zAr],@fun w' Φ' A' Lq hA hs hb yC qI=>?_⟩
   have yi:xs.set i (zAy x c qs)=xs.take i++([zAy x c qs]++xs.drop (i+1)):=by rw [zEN yI];simp
   have qJ:us.set i u'=us.take i++([u']++us.drop (i+1)):=by rw [zEN wi];simp
   refine .inr ⟨a,n,_,us.set i u',(Ka++(L1++Lq++L3)++Kb),by simp [zAr],by simpa using h1,h2,by simpa using h3,yC,?_,?_,⟨?_,?_⟩,?_,?_⟩
   ·show a.off+n*sz≤(zBa r (a.off+(i*sz+c)) vs).size
    rw [zGz yB];exact h5
   ·intro y hy
    rcases List.mem_or_eq_of_mem_set hy with hy | hy
    ·exact h6 y hy
    ·rw [hy,k5];exact vU
   ·intro y hy
    rcases List.mem_or_eq_of_mem_set hy with hy | hy
    ·exact h7 y hy
    ·rw [hy]
     have:=congrArg List.length k1
     simp at this
     omega
   ·rw [zEe hi k4,zEe hu k2,uG]
   ·have vW:flat us=flat (us.take i)++(u.cells.toList++flat (us.drop (i+1))):=by
     conv=>lhs;rw [← List.take_append_drop i us,List.drop_eq_getElem_cons wi,hu0]
     rw [zCQ,zCi]
    have jM:(flat (us.take i)).length=i*sz:=by
     rw [zBj (fun y hy=>h7 y (List.mem_of_mem_take hy)),List.length_take,Nat.min_eq_left (by omega)]
    have wk:u.cells.toList.length=sz:=by simpa using jA
    rw [List.length_set]
    show seg (zBa r (zAr a (i*sz+c)).off vs) a.off (xs.length*sz)=_
    simp only [zAr]
    rw [zHD (by omega) (by rw [hZ];omega) (by omega),h8,show a.off+(i*sz+c)-a.off=i*sz+c by omega]
    rw [qJ,zCQ,zCQ,vW]
    have e1:(flat (us.take i)++(u.cells.toList++flat (us.drop (i+1)))).take (i*sz+c)=flat (us.take i)++u.cells.toList.take c:=by
     rw [List.take_append,jM,List.take_of_length_le (by omega),show i*sz+c-i*sz=c by omega,List.take_append_of_le_length (by omega)]
    have e2:(flat (us.take i)++(u.cells.toList++flat (us.drop (i+1)))).drop (i*sz+c+vs.length)=u.cells.toList.drop (c+vs.length)++flat (us.drop (i+1)):=by
     rw [List.drop_append,jM,List.drop_of_length_le (by omega),show i*sz+c+vs.length-i*sz=c+vs.length by omega,List.drop_append_of_le_length (by omega)];rfl
    rw [e1,e2]
    have e3:flat [u']=u'.cells.toList:=by simp [flat]
    rw [e3,k1];simp
   ·rw [yi,qJ]
    have js:=k6 (fun a v _ h=>h) (Φ':=_) hs (fun b h=>hb b (by simp at h ⊢;rcases h with h | h<;>simp [h])) qI
    have:=(hA1.mono hs (fun _ _ _ h=>h) (fun b h=>hb b (by simp [h]))).append ((show zAX _ _ zB6 [zAy x c qs] [u'] _ from ⟨u',[],_,[],rfl,rfl,js,rfl,rfl⟩).append (hB.mono hs (fun _ _ _ h=>h) (fun b h=>hb b (by simp [h]))))
    simpa using this
 case box q0 =>
  obtain ⟨a,r,u0,L',rfl,h1,h2,h4,h5,⟨h6,uc⟩,h7⟩:=h
  have jd:i=0:=by simpa using yI
  subst jd;simp at hi;subst hi
  simp only [List.set_cons_zero,zAB,Option.some.injEq] at hw;subst hw
  obtain ⟨u',L1,L2,L3,k1,k2,rfl,k4,k5,k6⟩:=zOq h7 uc hq yf hZ hc
  have jA:u0.cells.toList.length=q0.cells.length:=by simpa using h6
  have j2:a.off+q0.cells.length≤r.size:=zU1 h5 jA (by omega)
  refine ⟨zAr a c,r,L1,L2,L3,by rw [h1];rfl,rfl,h4,by simp only [zAr];omega,by simp [zAr],fun hA hs hb yC qI=>?_⟩
  refine ⟨a,_,u',_,rfl,h1,h2,yC,?_,⟨?_,?_⟩,k6 hA hs hb qI⟩
  ·rw [k5]
   simp only [zAr]
   rw [zHD (by omega) (by omega) (by omega),h5,show a.off+c-a.off=c by omega,k1]
  ·rw [k5]
   have:=congrArg List.length k1
   simp at this jA
   omega
  ·rw [k2,k4,uc]
theorem zRC {np:PV} {nv:Value} {Li:List Nat} (h:Rep w Φ A np nv Li) {xs:List PV} (hx:zA6 np=some xs) {i:Nat} {x:PV} (hi:xs[i]? = some x) :
  ∃ M ux Lx ad,Li=ad.block::M∧(∀ c,zA4 nv np i c=some (zAr ad c))∧Rep w Φ (zGk A np) x ux Lx∧(∀ b∈Lx,b∈M)∧zCa ux=x.isAgg∧∀ k u,ux.cells.toList[k]? = some u→kid w nv np i k=some u:=by
 cases np<;>simp only [zA6] at hx<;>try cases hx
 case own sz =>
  obtain ⟨h1,h2,h3⟩ | ⟨a,n,r,us,L',rfl,h1,h2,h3,h4,h5,h6,⟨h7,uG⟩,h8,h9⟩:=h
  ·subst h1;simp at hi
  ·obtain ⟨ux,La,Lx,Lb,hu,rfl,hr,_,_⟩:=h9.split hi
   have hg:zCa ux=x.isAgg:=by
    have h1:(us.map zCa)[i]? = some (zCa ux):=by simp [hu]
    have h2:(xs.map PV.isAgg)[i]? = some x.isAgg:=by simp [hi]
    rw [uG] at h1;rw [h1] at h2;simpa using h2
   subst h1
   refine ⟨_,ux,Lx,zAr a (i*sz),rfl,fun c=>by simp [zA4,zAr,Nat.add_assoc],hr,fun b hb=>by simp [hb],hg,fun k u hk=>?_⟩
   have hf:=zDW h7 hu hk
   rw [← h8] at hf
   have:=zDd hf
   simp only [kid,zAr]
   rw [zCH h4.any];exact this
 case box q0 =>
  obtain ⟨a,r,u0,L',rfl,h1,h2,h4,h5,⟨h6,uc⟩,h7⟩:=h
  have jd:i=0:=by
   cases i with
   | zero=>rfl
   | succ i=>simp at hi
  subst jd;simp at hi;subst hi
  subst h1
  refine ⟨L',u0,L',a,rfl,fun c=>rfl,h7,fun b hb=>hb,uc,fun k u hk=>?_⟩
  have:=zDd (c:=r) (o:=a.off) (n:=q0.cells.length) (k:=k) (u:=u) (by rw [h5];exact hk)
  simp only [kid,zAr]
  rw [zCH h4.any];exact this
end
mutual
theorem zED {f g:PV→PV}:∀ p:PV,(p.mapW f).mapW g=p.mapW fun a=>(f a).mapW g
 | .agg cs=>by rw [PV.mapW,PV.mapW,PV.mapW,zEA]
 | .tup cs=>by rw [PV.mapW,PV.mapW,PV.mapW,zEA]
 | .func h a b=>by rw [PV.mapW,PV.mapW,PV.mapW,zEA,zEA]
 | .ref q=>by rw [PV.mapW,PV.mapW,PV.mapW,zED]
 | .box q=>by rw [PV.mapW,PV.mapW,PV.mapW,zED]
 | .lock q=>by rw [PV.mapW,PV.mapW,PV.mapW,zED]
 | .addr .. => rfl
 | .bor .. => rfl
 | .bsl .. => rfl
 | .bmap .. => rfl
 | .yld .. => rfl
 | .log .. => rfl
 | .bad=>rfl
 | .und=>rfl
 | .int .. => rfl
 | .bool .. => rfl
 | .nilp=>rfl
 | .nilf=>rfl
 | .nilm=>rfl
 | .nn=>rfl
 | .nils _=>rfl
 | .sl _=>rfl
 | .own .. => rfl
 | .map _=>rfl
 | .omap _=>rfl
theorem zEA {f g:PV→PV}:∀ ps:List PV,zCC g (zCC f ps)=zCC (fun a=>(f a).mapW g) ps
 | []=>rfl
 | p::ps=>by rw [zCC,zCC,zCC,zED,zEA]
end
mutual
theorem zDp {f g:PV→PV} (h:∀ a,a.isWay=true→f a=g a):∀ p:PV,p.mapW f=p.mapW g
 | .agg cs=>by rw [PV.mapW,PV.mapW,zD6 h]
 | .tup cs=>by rw [PV.mapW,PV.mapW,zD6 h]
 | .func k a b=>by rw [PV.mapW,PV.mapW,zD6 h,zD6 h b]
 | .ref q=>by rw [PV.mapW,PV.mapW,zDp h]
 | .box q=>by rw [PV.mapW,PV.mapW,zDp h]
 | .lock q=>by rw [PV.mapW,PV.mapW,zDp h]
 | .addr .. => h _ rfl
 | .bor .. => h _ rfl
 | .bsl .. => h _ rfl
 | .bmap .. => h _ rfl
 | .yld .. => rfl
 | .log .. => h _ rfl
 | .bad=>rfl
 | .und=>rfl
 | .int .. => rfl
 | .bool .. => rfl
 | .nilp=>rfl
 | .nilf=>rfl
 | .nilm=>rfl
 | .nn=>rfl
 | .nils _=>rfl
 | .sl _=>rfl
 | .own .. => rfl
 | .map _=>rfl
 | .omap _=>rfl
theorem zD6 {f g:PV→PV} (h:∀ a,a.isWay=true→f a=g a):∀ ps:List PV,zCC f ps=zCC g ps
 | []=>rfl
 | p::ps=>by rw [zCC,zCC,zDp h,zD6 h]
end
def zDK (r:Nat) (pre:zAO) (i:Nat):Nat→List PV→PV→PV
 | _,[],a=>a
 | c,q::qs,a=>bif q.heavy then (if (lose r (pre++[(i,c)]) a).isWay=true then zDK r pre i (c+1) qs a else lose r (pre++[(i,c)]) a) else zDK r pre i (c+1) qs a
theorem zK4 (r:Nat) (pre:zAO) (i:Nat):∀ (qs:List PV) (c:Nat) (p:PV),zDK r pre i c qs p=p∨(p.isWay=true∧zDK r pre i c qs p = .bad)
 | [],c,p => .inl rfl
 | q :: qs,c,p=>by
  simp only [zDK]
  cases hq:q.heavy with
  | false=>exact zK4 r pre i qs (c+1) p
  | true =>
   simp only [cond_true]
   split
   ·exact zK4 r pre i qs (c+1) p
   ·exact zGu r (pre++[(i,c)]) p
theorem zGB {o:zAC} {r:Nat} {pre:zAO} {i:Nat} {k:PM} {e':Env}:∀ (qs:List PV) (c:Nat) {e:Env},(zDM r pre i c qs k).run o e=some e' →
  ∃ e1,k.run o e1=some e'∧∀ s,e1.get s=(e.get s).mapW (zDK r pre i c qs)
 | [],c,e,h=>⟨e,h,fun s=>by rw [show zDK r pre i c []=fun x=>x from rfl,zBb]⟩
 | q :: qs,c,e,h=>by
  simp only [zDM] at h
  cases hq:q.heavy with
  | false =>
   rw [hq] at h
   obtain ⟨e1,h1,h2⟩:=zGB qs (c+1) h
   refine ⟨e1,h1,fun s=>?_⟩
   rw [h2 s];exact zDp (fun a _=>by simp [zDK,hq]) _
  | true =>
   rw [hq] at h;simp only [cond_true,PM.run] at h
   obtain ⟨e1,h1,h2⟩:=zGB qs (c+1) h
   refine ⟨e1,h1,fun s=>?_⟩
   rw [h2 s,Env.get_kill,zED]
   refine zDp (fun a ha=>?_) _
   simp only [zDK,hq,cond_true]
   rcases zGu r (pre++[(i,c)]) a with h3 | ⟨_,h3⟩
   ·rw [h3,if_pos ha,zFZ ha]
   ·rw [h3];rfl
theorem zJj {r:Nat} {pre:zAO} {i:Nat}:∀ (qs:List PV) (c j:Nat) {q:PV},qs[j]? = some q→q.heavy=true→∀ a,a.isWay=true→∀ rest,zA3 a=(r,pre++(i,c+j)::rest)→(∀ h,a ≠ .yld h)→(∀ xs k,a ≠ .log xs k)→zDK r pre i c qs a≠a
 | [],_,_,_,h,_,_,_,_,_,_,_=>by simp at h
 | q0::qs,c,0,q,h,hh,a,ha,rest,hr,hy,hl=>by
  simp at h;subst h
  simp only [zDK,hh,cond_true]
  have hlose:lose r (pre++[(i,c)]) a = .bad:=by
   have hp:(pre++[(i,c)]).isPrefixOf (pre++(i,c)::rest)=true:=by
    rw [List.isPrefixOf_iff_prefix];exact ⟨rest,by simp⟩
   cases a<;>first | (cases ha;done) | (exact absurd rfl (hy _)) | (exact absurd rfl (hl _ _)) | skip
   all_goals
    simp only [zA3,Nat.add_zero,Prod.mk.injEq] at hr
    obtain ⟨rfl,rfl⟩:=hr
    simp [lose,hp]
  rw [hlose];simp only [PV.isWay,Bool.false_eq_true,if_false]
  intro he;rw [← he] at ha;cases ha
 | q0::qs,c,j+1,q,h,hh,a,ha,rest,hr,hy,hl=>by
  have ih:=zJj (r:=r) (pre:=pre) (i:=i) qs (c+1) j (by simpa using h) hh a ha rest (by rw [hr];congr 4;omega) hy hl
  simp only [zDK]
  cases hq:q0.heavy with
  | false=>exact ih
  | true =>
   simp only [cond_true]
   rcases zGu r (pre++[(i,c)]) a with h3 | ⟨_,h3⟩
   ·rw [h3,if_pos ha];exact ih
   ·rw [h3];simp only [PV.isWay,Bool.false_eq_true,if_false]
    intro he;rw [← he] at ha;cases ha
theorem zJo {r:Nat} {pre:zAO} {i:Nat}:∀ (qs:List PV) (c:Nat) {a:PV},(∀ x∈a.ways,zAH r pre x.1 x.2=false∨x.2.length≤pre.length)→zDK r pre i c qs a=a
 | [],_,_,_=>rfl
 | q :: qs,c,a,h=>by
  have ih:=zJo (r:=r) (pre:=pre) (i:=i) qs (c+1) h
  have hl : lose r (pre++[(i,c)]) a=a:=by
   have key:∀ r' p,(zAH r pre r' p=false∨p.length≤pre.length)→(Nat.beq r' r&&(pre++[(i,c)]).isPrefixOf p)=false:=by
    intro r' p hp
    cases hb:(Nat.beq r' r&&(pre++[(i,c)]).isPrefixOf p) with
    | false=>rfl
    | true =>
     simp only [Bool.and_eq_true,List.isPrefixOf_iff_prefix] at hb
     obtain ⟨h1,rest,h2⟩:=hb
     rcases hp with hp | hp
     ·have:zAH r pre r' p=true:=zD2.2 ⟨Nat.eq_of_beq_eq_true h1,(i,c)::rest,by rw [← h2];simp⟩
      rw [this] at hp;cases hp
     ·rw [← h2] at hp;simp at hp;omega
   cases a<;>first | rfl | skip
   all_goals
    simp only [lose]
    rw [key _ _ (h (_,_) (List.mem_singleton.2 rfl))];rfl
  simp only [zDK]
  cases hq:q.heavy with
  | false=>exact ih
  | true=>simp only [cond_true,hl];split<;>first | exact ih | rfl
theorem zLP {f:PV→Option PV}:∀ {pre:zAO} {p p':PV},zAv f p pre=some p'→∃ q q',zAz p pre=some q∧f q=some q'∧zAv (fun _=>some q') p pre=some p'
 | [],p,p',h=>⟨p,p',rfl,h,rfl⟩
 | (i, c)::rest,p,p',h=>by
  rw [zBl] at h
  cases hc:Eng.child p i c with
  | none=>rw [hc] at h;cases h
  | some q =>
   rw [hc] at h;simp only [Option.bind_some] at h
   cases hm:zAv f q rest with
   | none=>rw [hm] at h;cases h
   | some q1 =>
    rw [hm] at h;simp only [Option.bind_some] at h
    obtain ⟨x,x',h1,h2,h3⟩:=zLP hm
    exact ⟨x,x',by rw [zBY,hc];exact h1,h2,by rw [zBl,hc];simp only [Option.bind_some];rw [h3];exact h⟩
theorem zJ0:∀ {pre:zAO} {p q:PV},zAz p pre=some q→q.unlock=q→p.unlock=p
 | [],p,q,h,hq=>by simp only [zAz,Option.some.injEq] at h;subst h;exact hq
 | (i,c)::rest,p,q,h,_=>by
  rw [zBY] at h
  cases p<;>first | rfl | (simp [Eng.child,zAZ] at h;done)
theorem zJL {r:Nat} {pre:zAO} {i:Nat} {p:PV} (hh:p.heavy=false→∀ q∈p.cells,q.heavy=false) (h:p.heavy=false) {c:Nat} (a:PV):zDK r pre i c p.cells a=a:=by
 have key:∀ (qs:List PV) (c:Nat),(∀ q∈qs,q.heavy=false)→zDK r pre i c qs a=a:=by
  intro qs
  induction qs with
  | nil=>intro c _;rfl
  | cons q qs ih=>intro c h;simp only [zDK,h q (by simp),cond_false];exact ih (c+1) fun x hx=>h x (by simp [hx])
 exact key _ _ (hh h)
theorem zPu {p:PV} {x:Nat×zAO} (h:x∈zBn p.cells):x∈p.ways:=by
 cases p<;>simp only [PV.cells,zBn,List.append_nil] at h<;>exact h
theorem zLA (p:PV) (i c:Nat) (rest:zAO):zDv p ((i,c)::rest)=match p with
  | .own .. => true
  | p=>match Eng.child p i c with | some q=>zDv q rest | none=>false:=by
 cases p<;>simp only [zDv,Eng.child,zAZ,Option.bind_none,Option.bind_some]
 ·cases i with
  | zero=>simp only [List.getElem?_cons_zero,Option.bind_some];split<;>simp_all
  | succ i=>simp
 ·cases i with
  | zero=>simp only [List.getElem?_cons_zero,Option.bind_some];split<;>simp_all
  | succ i=>simp
theorem zMT:∀ {pre:zAO} {p q:PV} {A:Al},zDv p pre=false→zAz p pre=some q→∀ a v,A a v→zGk (zIp A p pre) q a v
 | [],p,q,A,hc,hq,a,v,h=>by
  simp only [zAz,Option.some.injEq] at hq;subst hq
  simp only [zIp]
  cases p<;>first | exact h | (simp [zDv] at hc;done)
 | (i,c)::rest,p,q,A,hc,hq,a,v,h=>by
  rw [zBY] at hq
  rw [zLA] at hc
  cases y9:Eng.child p i c with
  | none=>rw [y9] at hq;cases hq
  | some q1 =>
   rw [y9] at hq;simp only [Option.bind_some] at hq
   simp only [zIp,y9]
   cases p<;>simp only [y9] at hc<;>first | (cases hc;done) | exact zMT hc hq a v h
section
variable {P:Program} {w0 w:World} {U Φ0 Φ:Nat→Prop} {nt:Nat} {hv:Hid} {a:Act} {e e':Env} {rv:Nat→Value} {E:Nat→PV} {L:Nat→List Nat} {o:zAC}
theorem zKJ {p:PV} (h:p.heavy=false):∀ q∈p.cells,q.heavy=false:=by
 intro q hq
 cases p<;>simp only [PV.cells,List.mem_singleton] at hq<;>try (subst hq;exact h)
 obtain ⟨i,hi⟩:=List.getElem?_of_mem hq
 exact zEj h hi
theorem zGi {x:PV} {c:Nat} {qs:List PV} (hq:∀ q∈qs,q.oneCell=true) (hI:qs.length≠0) (yP:c+qs.length≤x.cells.length):(zAy x c qs).cells=x.cells.take c++qs++x.cells.drop (c+qs.length):=by
 cases hx:x.isAgg with
 | true=>cases x<;>simp [PV.isAgg] at hx;rfl
 | false =>
  have j3:x.cells=[x]:=by cases x<;>first | rfl | simp [PV.isAgg] at hx
  rw [j3] at yP ⊢
  match qs,hq,hI with
  | [],_,hI=>exact absurd rfl hI
  | [q],hq,_ =>
   have vV:c=0:=by simp at yP;exact yP
   subst vV
   have he:zAy x 0 [q]=q:=by cases x<;>first | rfl | simp [PV.isAgg] at hx
   rw [he,(zBf (hq q (by simp))).1];simp
  | _::_::_,_,_=>simp only [List.length_cons,List.length_nil] at yP;omega
theorem zID {b o k:Nat} {row:Array Value} {vs:List Value} (yC:zEK w b row) (yB:o+vs.length≤row.size) (hk:k<o∨o+vs.length≤k):(w.setRow b (zBa row o vs)).cell? ⟨b,k,none⟩=w.cell? ⟨b,k,none⟩:=by
 obtain ⟨el,yt⟩:=yC
 have jT:zJW (w.setRow b (zBa row o vs)) b (zBa row o vs):=⟨el,_,setRow_heap w _ _ _ el _ yt⟩
 rw [zCH jT,zCH ⟨el,_,yt⟩]
 have:(zBa row o vs)[k]? = (row.toList.take o++vs++row.toList.drop (o+vs.length))[k]?:=by simp [zBa]
 rw [this,zCL (by simpa using yB)]
 rcases hk with hk | hk
 ·rw [if_pos hk];simp
 ·rw [if_neg (by omega),if_neg (by omega)];simp
theorem zMa {A:Al} {np q':PV} {nv:Value} {Li:List Nat} (h:Rep w Φ A np nv Li) (yW:Li.Nodup) {xs:List PV} (hx:zA6 np=some xs) {i c:Nat} {x:PV} (hi:xs[i]? = some x) {qs:List PV} {vs:List Value}
  (hq:∀ q∈qs,q.oneCell=true) (hZ:vs.length=qs.length) (hI:qs.length≠0) (hc:c+qs.length≤x.cells.length) (hw:zAB np (xs.set i (zAy x c qs))=some q') {ad:Addr} {row:Array Value}
  (jG:zA4 nv np i c=some ad) (yC:zEK w ad.block row) (yB:ad.off+vs.length≤row.size) :
  ∀ (rest:zAO) (nv2:Value) (np2:PV),zAN (w.setRow ad.block (zBa row ad.off vs)) nv q' rest=some (nv2,np2)→np2.heavy0=true →
   (∃ j q rest',qs[j]? = some q∧q.heavy=true∧rest=(i,c+j)::rest')∨∃ np0,zAN w nv np rest=some (nv2,np0)∧zB9 np0 np2:=by
 intro rest nv2 np2 hf hh
 have uU:zB9 np q'∧zAZ q'=some (xs.set i (zAy x c qs)):=by
  cases np<;>simp only [zA6] at hx<;>try cases hx
  ·simp only [zAB,Option.some.injEq] at hw;subst hw;exact ⟨rfl,rfl⟩
  ·have jd:i=0:=by have:=(List.getElem?_eq_some_iff.1 hi).1;simpa using this
   subst jd
   simp only [List.set_cons_zero,zAB,Option.some.injEq] at hw ⊢;subst hw;exact ⟨trivial,rfl⟩
 cases rest with
 | nil =>
  simp only [zAN,Option.some.injEq,Prod.mk.injEq] at hf
  obtain ⟨rfl,rfl⟩:=hf
  exact .inr ⟨np,rfl,uU.1⟩
 | cons y rest =>
  obtain ⟨i2,c2⟩:=y
  rw [zA2] at hf
  cases y9:Eng.child q' i2 c2 with
  | none=>rw [y9] at hf;cases hf
  | some q2 =>
   rw [y9] at hf;simp only [Option.bind_some] at hf
   cases hk:kid (w.setRow ad.block (zBa row ad.off vs)) nv q' i2 c2 with
   | none=>rw [hk] at hf;cases hf
   | some u2 =>
    rw [hk] at hf;simp only [Option.bind_some] at hf
    have yI:i<xs.length:=(List.getElem?_eq_some_iff.1 hi).1
    simp only [Eng.child,uU.2,Option.bind_some] at y9
    by_cases hin:i2=i∧c≤c2∧c2<c+qs.length
    ·obtain ⟨rfl,h1,h2⟩:=hin
     rw [List.getElem?_set_self yI] at y9
     simp only [Option.bind_some] at y9
     rw [zGi hq hI hc,zCL hc,if_neg (by omega),if_pos h2] at y9
     cases qK:q2.heavy with
     | true=>exact .inl ⟨c2-c,q2,rest,y9,qK,by rw [show c+(c2-c)=c2 by omega]⟩
     | false =>
      have:=zEn qK hf
      rw [zFN hh] at this;cases this
    ·
     have hold:∃ x2,xs[i2]? = some x2∧x2.cells[c2]? = some q2:=by
      by_cases kY:i2=i
      ·subst kY
       rw [List.getElem?_set_self yI] at y9
       simp only [Option.bind_some] at y9
       rw [zGi hq hI hc,zCL hc] at y9
       refine ⟨x,hi,?_⟩
       by_cases h1:c2<c
       ·rw [if_pos h1] at y9;exact y9
       ·rw [if_neg h1,if_neg (fun h2=>hin ⟨rfl,by omega,h2⟩)] at y9;exact y9
      ·rw [List.getElem?_set_ne (Ne.symm kY)] at y9
       cases jW:xs[i2]? with
       | none=>rw [jW] at y9;cases y9
       | some x2=>rw [jW] at y9;exact ⟨x2,rfl,y9⟩
     obtain ⟨x2,jW,ug⟩:=hold
     obtain ⟨M,ux,Lx,ad2,g1,g2,g3,g4,g5,g6⟩:=zRC h hx jW
     obtain ⟨u,La,Lu,Lb,hu,hLx,kf,_,_⟩:=g3.cell ug g5
     have jr:=g6 c2 u hu
     have hblk:ad2.block=ad.block:=by
      have:=g2
      cases np<;>simp only [zA6] at hx<;>try cases hx
      ·cases nv<;>try (simp [zA4] at jG;done)
       rename_i sa _ _
       cases sa with
       | none=>cases jG
       | some sa =>
        simp only [zA4,Option.some.injEq] at jG
        have:=this 0
        simp only [zA4,Option.some.injEq] at this
        rw [← jG]
        exact (congrArg Addr.block this).symm
      ·cases nv<;>try (cases i<;>simp [zA4] at jG;done)
       rename_i sa
       cases sa with
       | none=>cases i<;>cases jG
       | some sa =>
        have jd:i=0:=by have:=(List.getElem?_eq_some_iff.1 hi).1;simpa using this
        have qu:i2=0:=by have:=(List.getElem?_eq_some_iff.1 jW).1;simpa using this
        subst jd;subst qu
        simp only [zA4,Option.some.injEq] at jG
        have:=this 0
        simp only [zA4,Option.some.injEq] at this
        rw [← jG]
        exact (congrArg Addr.block this).symm
     have yz:kid (w.setRow ad.block (zBa row ad.off vs)) nv q' i2 c2=kid w nv np i2 c2:=by
      have hc2l:c2<x2.cells.length:=(List.getElem?_eq_some_iff.1 ug).1
      cases np<;>simp only [zA6] at hx<;>try cases hx
      case own sz =>
       simp only [zAB,Option.some.injEq] at hw;subst hw
       cases nv<;>try (simp [zA4] at jG;done)
       rename_i sa _ _
       cases sa with
       | none=>cases jG
       | some sa =>
        simp only [zA4,Option.some.injEq] at jG;subst jG
        simp only [kid]
        refine zID yC yB ?_
        obtain ⟨gk,_⟩ | ⟨_,_,_,_,_,_,_,_,_,_,_,yE,_⟩:=h
        ·subst gk;simp at hi
        ·have e1:=yE x (List.mem_of_getElem? hi)
         have e2:=yE x2 (List.mem_of_getElem? jW)
         simp only [zAr]
         rw [hZ]
         by_cases kY:i2=i
         ·subst kY
          have:¬ (c≤c2∧c2<c+qs.length):=fun h=>hin ⟨rfl,h⟩
          omega
         ·rcases Nat.lt_or_gt_of_ne kY with yF | hgt
          ·have:=Nat.mul_le_mul_right x.cells.length (Nat.succ_le_of_lt yF)
           rw [Nat.succ_mul,e1] at this;left;omega
          ·have:=Nat.mul_le_mul_right x.cells.length (Nat.succ_le_of_lt hgt)
           rw [Nat.succ_mul,e1] at this;right;omega
      case box q0 =>
       have jd:i=0:=by have:=(List.getElem?_eq_some_iff.1 hi).1;simpa using this
       have qu:i2=0:=by have:=(List.getElem?_eq_some_iff.1 jW).1;simpa using this
       subst jd;subst qu
       simp only [List.set_cons_zero,zAB,Option.some.injEq] at hw;subst hw
       cases nv<;>try (simp [zA4] at jG;done)
       rename_i sa
       cases sa with
       | none=>cases jG
       | some sa =>
        simp only [zA4,Option.some.injEq] at jG;subst jG
        simp only [kid]
        refine zID yC yB ?_
        simp only [zAr]
        rw [hZ]
        have:¬ (c≤c2∧c2<c+qs.length):=fun h=>hin ⟨rfl,h⟩
        omega
     rw [yz,jr] at hk;cases hk
     have wg:=zFa (w':=w.setRow ad.block (zBa row ad.off vs)) (pre:=rest) kf fun t ht=>setRow_other w _ t _ fun hc=>by
      rw [g1,hblk] at yW
      exact (List.nodup_cons.1 yW).1 (g4 _ (by rw [hLx,← hc];simp [ht]))
     rw [wg] at hf
     refine .inr ⟨np2,?_,zB9.refl hh⟩
     rw [zA2]
     have:Eng.child np i2 c2=some q2:=by simp only [Eng.child,zGO hx,Option.bind_some,jW,ug]
     rw [this];simp only [Option.bind_some];rw [jr];exact hf
theorem St.write (S:St w0 U Φ0 nt hv a w e Φ rv E L) {g r:Nat} {pre:zAO} {i c:Nat} {sh:Option Nat} (hg:zAb≤g) {va:Value} (ha:Rep w Φ (zA1 w rv E) (.addr r pre i c sh) va [])
  (jS:(E g).heavy=false∨∀ x∈(E g).ways,zAH r pre x.1 x.2=false∨x.2.length≤pre.length) (yO:∀ q∈(E g).cells,q.oneCell=true) (hI:(E g).cells.length≠0)
  (hva:zCa (rv g)=(E g).isAgg) {k:PM} (h:(zDM r pre i c (E g).cells (.wcells r pre i c (E g).cells k)).run o e=some e') :
  ∃ b row e1 E1 L1,va = .pointer (some b)∧b.spot=none∧zEK w b.block row∧b.off+(rv g).cells.size≤row.size∧(∀ v∈(rv g).cells.toList,v.oneCell'=true)∧k.run o e1=some e' ∧
   St w0 U Φ0 nt hv a (w.setRow b.block (zBa row b.off (rv g).cells.toList)) e1 Φ rv E1 L1∧E1 g = .bad∧(∀ s,zAb≤s→s≠g→E s = .bad→E1 s = .bad)∧(∀ s,zAb≤s→s≠g→E1 s=(E s).mapW (zDK r pre i c (E g).cells))∧b.block∈L r:=by
 obtain ⟨e1,h1,yT⟩:=zGB _ _ h
 have hf:=zK4 r pre i (E g).cells c
 have kg:=ha.2
 obtain ⟨hr,b,rfl,y1,hn⟩:=ha.2
 simp only [PM.run] at h1
 cases wm:zBw (e1.get r) pre i c (E g).cells with
 | none=>rw [wm] at h1;cases h1
 | some root =>
  rw [wm] at h1;simp only at h1
  have vi:e1.get r=(E r).mapW (zDK r pre i c (E g).cells):=by rw [yT r,S.env r hr]
  rw [vi] at wm
  simp only [zBw] at wm
  cases yN:(zDv ((E r).mapW (zDK r pre i c (E g).cells)) pre && !(zBn (E g).cells).isEmpty) with
  | true=>rw [yN] at wm;cases wm
  | false =>
   rw [yN] at wm;simp only [cond_false] at wm
   obtain ⟨np,q',gj,kG,yu⟩:=zLP wm
   cases hx:zA6 np with
   | none=>rw [hx] at kG;cases kG
   | some xs =>
    rw [hx] at kG;simp only at kG
    cases hi:xs[i]? with
    | none=>rw [hi] at kG;cases kG
    | some x =>
     rw [hi] at kG;simp only at kG
     cases yP:Nat.ble (c+(E g).cells.length) x.cells.length with
     | false=>rw [yP] at kG;cases kG
     | true =>
      rw [yP] at kG;simp only [cond_true] at kG
      have yP:=Nat.le_of_ble_eq_true yP
      have jR:((E r).mapW (zDK r pre i c (E g).cells)).unlock=(E r).mapW (zDK r pre i c (E g).cells):=zJ0 gj (by cases np<;>first | rfl | cases hx)
      obtain ⟨nv,Li,vC,hX,qv,ul,vj⟩:=S.conf.mod hr hf jR gj
      have ju:=(S.conf.rep g).cellsAll hva
      have jy:(rv g).cells.toList.length=(E g).cells.length:=ju.length
      have qL:∀ v∈(rv g).cells.toList,v.oneCell'=true:=by
       intro v hv
       obtain ⟨j,hj⟩:=List.getElem?_of_mem hv
       have ja:j<(E g).cells.length:=by rw [← jy];exact (List.getElem?_eq_some_iff.1 hj).1
       obtain ⟨v',La,Li',Lb,yD,_,j2,_⟩:=ju.split (i:=j) (List.getElem?_eq_getElem ja)
       rw [hj] at yD;cases yD
       exact zB1 (fun a v hw h=>zCV hw h) j2 (yO _ (List.getElem_mem ja))
      have qw:=zKJ (p:=E g)
      have wn:q'.isAgg=false∧q'.unlock=q'∧q'.isTup=false∧np.isAgg=false∧zB9 np q':=by
       cases np<;>simp only [zA6] at hx<;>try cases hx
       ·simp only [zAB,Option.some.injEq] at kG;subst kG;exact ⟨rfl,rfl,rfl,rfl,rfl⟩
       ·simp only [zAB] at kG
        split at kG<;>first | (cases kG;done) | skip
        ·simp_all
        ·cases kG;exact ⟨rfl,rfl,rfl,rfl,trivial⟩
        ·simp_all
      obtain ⟨ad,row,La,Lm,Lb,k1,k2,k3,k4,uS,jz⟩:=zTG hX hx hi yO qL jy hI yP kG
      have hfo':∃ np0,zAN w (rv r) (E r).unlock pre=some (nv,np0)∧zB9 np0 np:=by
       rw [← jR,zDo (zDt hf)] at vC
       exact zCK (zDt hf) vC (by cases np<;>first | rfl | cases hx)
      obtain ⟨np0,hfo0,uU⟩:=hfo'
      have vI:=hn nv np0 hfo0 ad (by rw [zEg uU];exact k1)
      subst vI
      have jL:b.block∈L r:=ul _ (by rw [uS];simp)
      have qx:r≠g:=by omega
      have yj:∀ t,t≠b.block→(w.setRow b.block (zBa row b.off (rv g).cells.toList)).heap[t]? = w.heap[t]?:=fun t ht=>setRow_other w _ t _ ht
      have jT:zEK (w.setRow b.block (zBa row b.off (rv g).cells.toList)) b.block (zBa row b.off (rv g).cells.toList):=by
       obtain ⟨el,yt⟩:=k3;exact ⟨el,setRow_heap w _ _ _ el _ yt⟩
      have hnotL:∀ t,t≠r→b.block∉L t:=fun t ht hm=>S.conf.disj t r ht _ hm jL
      have hΦ:zDf w (w.setRow b.block (zBa row b.off (rv g).cells.toList)) Φ Φ:=fun t ht=>⟨ht,yj t fun hc=>(S.conf.own r _ jL).2.1 (hc▸ht)⟩
      have vk:=qv
      rw [uS] at vk
      have qy:∀ t∈La++Lb,t≠b.block:=by
       intro t ht hc
       subst hc
       refine (List.nodup_cons.1 vk).1 ?_
       simp at ht ⊢;rcases ht with h | h<;>simp [h]
      have hstay:∀ a v,a.isWay=true→(∀ x∈a.ways,x∈(E g).ways)→zA1 w rv E a v→Eng.stays (zDK r pre i c (E g).cells) (zA1 w rv E) a v:=by
       intro a v hw hx ha
       refine ⟨ha,?_⟩
       rcases jS with jS | jS
       ·exact zJL qw jS a
       ·exact zJo _ _ fun x qt=>jS x (hx x qt)
      have hcont:∀ A:Al,(∀ a u,a.isWay=true→Eng.stays (zDK r pre i c (E g).cells) (zA1 w rv E) a u→A a u) →
        zAX (w.setRow b.block (zBa row b.off (rv g).cells.toList)) Φ (zGk (zIp A ((E r).mapW (zDK r pre i c (E g).cells)) pre) np) (E g).cells (rv g).cells.toList (L g):=by
       intro A hA
       have h1:zAX (w.setRow b.block (zBa row b.off (rv g).cells.toList)) Φ (zA1 w rv E) (E g).cells (rv g).cells.toList (L g) :=
        ju.mono hΦ (fun _ _ _ h=>h) fun t ht=>yj t fun hc=>hnotL g (Ne.symm qx) (hc▸ht)
       refine h1.ways _ _ _ fun a v hw hx ha=>?_
       simp only [Bool.and_eq_false_iff] at yN
       rcases yN with yN | yN
       ·exact zMT yN gj a v (hA a v hw (hstay a v hw (fun y hy=>zPu (hx y hy)) ha))
       ·have h0:zBn (E g).cells=[]:=by simpa using yN
        rw [h0] at hx
        have h1:=zI9 hw ha
        cases uj:a.ways with
        | nil=>exact absurd uj h1
        | cons z zs=>have:=hx z (by rw [uj];simp);cases this
      obtain ⟨kk1,kk2⟩:=zBD wn.2.1 wn.2.2.1 yu
      obtain ⟨L1,hL1,hconf⟩:=vj (fun s=>s==g) (w.setRow b.block (zBa row b.off (rv g).cells.toList)) q' root (b.block::(La++L g++Lb)) (fun s hs=>by have:=eq_of_beq hs;omega)
       (fun _=>by rw [wn.1,wn.2.2.2.1]) yu kk1
       (fun A hA=>jz (zMD hA) hΦ (fun t ht=>yj t (qy t ht)) jT (hcont A hA))
       (by
        have uf:∀ t∈L g,t∉L r:=fun t ht=>S.conf.disj g r (Ne.symm qx) t ht
        have hin:∀ t,t=b.block∨t∈La++Lb→t∈L r:=by
         intro t ht
         rcases ht with rfl | ht
         ·exact jL
         ·exact ul t (by rw [uS];simp at ht ⊢;rcases ht with h | h<;>simp [h])
        have vT:=(List.nodup_cons.1 vk).2
        simp only [List.nodup_append] at vT
        refine List.nodup_cons.2 ⟨fun hm=>?_,?_⟩
        ·simp only [List.mem_append] at hm
         rcases hm with (hm | hm) | hm
         ·exact qy _ (by simp [hm]) rfl
         ·exact uf _ hm jL
         ·exact qy _ (by simp [hm]) rfl
        ·simp only [List.nodup_append]
         refine ⟨⟨vT.1.1,S.conf.nodup g,fun x hx y hy e=>uf y hy (e▸hin x (.inr (by simp [hx])))⟩,vT.2.1,fun x hx y hy e=>?_⟩
         simp only [List.mem_append] at hx
         rcases hx with hx | hx
         ·exact vT.2.2 x (by simp [hx]) y hy e
         ·exact uf x hx (e▸hin y (.inr (by simp [hy]))))
       (fun t ht=>by
        simp only [List.mem_cons,List.mem_append] at ht
        rcases ht with rfl | (ht | ht) | ht
        ·exact .inl (by rw [uS];simp)
        ·exact .inl (by rw [uS];simp [ht])
        ·exact .inr (.inl ⟨g,ht,by simp⟩)
        ·exact .inl (by rw [uS];simp [ht]))
       (by rw [setRow_size];exact Nat.le_refl _)
       (fun t _ ht _=>yj t fun hc=>ht (by rw [uS,hc];simp))
       (fun rest nv2 np2 jt qK=>by
        rcases zMa hX qv hx hi yO jy hI yP kG k1 k3 k4 rest nv2 np2 jt qK with ⟨j,q,rest',h1,h2,h3⟩ | h3
        ·refine .inl fun a ha um=>?_
         subst h3
         refine zJj _ _ _ h1 h2 a ha rest' um (fun y hy=>?_) (fun ys k hy=>?_)
         ·subst hy;simp only [zA3,Prod.mk.injEq] at um;have:=um.2;simp at this
         ·subst hy;simp only [zA3,Prod.mk.injEq] at um;have:=um.2;simp at this
        ·exact .inr h3)
       ⟨rfl,rfl,rfl⟩
      refine ⟨b,row,e1.set r root,_,L1,rfl,y1,k3,by rw [show (rv g).cells.size=(rv g).cells.toList.length by simp];exact k4,qL,h1,S.turn hconf (fun s hs=>?_) (fun _ _=>rfl) (fun d ps hd hp=>?_),?_,?_⟩
      ·rw [Env.get_set]
       by_cases yY:s=r
       ·subst yY;simp
       ·have:(s==g)=false:=by simp;omega
        simp only [yY,if_false,this,Bool.false_eq_true]
        rw [yT s,S.env s hs]
      ·by_cases jg:d=r
       ·simp only [jg,if_true] at hp;rw [hp] at kk2;cases kk2
       ·have:(d==g)=false:=by simp only [zAb] at hg;simp;omega
        simp only [jg,if_false,this,Bool.false_eq_true] at hp
        refine zDV (fun p hp=>?_) hp
        rcases hf p with h | ⟨_,h⟩
        ·rw [h];cases p<;>first | rfl | cases hp
        ·rw [h];rfl
      ·simp [Ne.symm qx]
      ·refine ⟨fun s hs ya hb=>?_,fun s hs ya=>?_,jL⟩
       ·have:s≠r:=by omega
        simp [this,ya,hb,PV.mapW]
       ·have:s≠r:=by omega
        simp [this,ya]
end
end Go.Eng
namespace Go.Eng
open Go
section
variable {P:Program} {w0 w:World} {U Φ0 Φ:Nat→Prop} {nt:Nat} {hv:Hid} {a:Act} {e e':Env} {rv:Nat→Value} {E:Nat→PV} {L:Nat→List Nat} {o:zAC}
theorem zBP {r:Nat} {pre:zAO} {q:PV} {k:PM} (h:(PM.wnode r pre q k).run o e=some e'):∃ root,(e.get r).isLock=false∧zAv (fun _=>some q) (e.get r) pre=some root∧k.run o (e.set r root)=some e':=by
 simp only [PM.run] at h
 cases hl:(e.get r).isLock with
 | true=>rw [hl] at h;cases h
 | false =>
  rw [hl] at h;simp only [cond_false] at h
  cases hm:zAv (fun _=>some q) (e.get r) pre with
  | none=>rw [hm] at h;cases h
  | some root=>rw [hm] at h;exact ⟨root,rfl,rfl,h⟩
theorem zPd (S:St w0 U Φ0 nt hv a w e Φ rv E L) {p:PV} {v:Value} (hp:Rep w Φ (zA1 w rv E) p v []) {k:PV→PM} {k2:PM} (h:(zNK p k k2).run o e=some e') :
  k2.run o e=some e'∨(k p).run o e=some e'∨∃ r pre q root,r<zAb∧(E r).unlock=E r∧zAz (E r) pre=some q∧q.oneCell=true∧p.oneCell=true∧zAv (fun _=>some .bad) (E r) pre=some root∧root.unlock=root∧root.isTup=false ∧
   (k q).run o (e.set r root)=some e'∧∀ nv,zAN w (rv r) (E r) pre=some (nv,q)→nv=v:=by
 cases p<;>simp only [zNK] at h<;>try (exact .inr (.inl h))
 case bor r pre z lo n =>
  obtain ⟨q,hq,h1⟩:=zBB h
  obtain ⟨_,hr,⟨b,cap,yD,_⟩,hn⟩:=hp
  split at h1
  ·rename_i sz xs
   cases hc:(Nat.beq lo 0&&Nat.beq n xs.length) with
   | false=>rw [hc] at h1;exact .inl h1
   | true =>
    rw [hc] at h1;simp only [cond_true] at h1
    simp only [Bool.and_eq_true] at hc
    have kh:=Nat.eq_of_beq_eq_true hc.1
    have gl:=Nat.eq_of_beq_eq_true hc.2
    subst kh
    obtain ⟨root,hl,hm,h2⟩:=zBP h1
    have yG:=zBv hl
    rw [yG,← S.env r hr] at hq
    rw [← S.env r hr] at yG hm
    obtain ⟨k1,k2'⟩:=zBD (q' := .bad) rfl rfl hm
    refine .inr (.inr ⟨r,pre,_,root,hr,yG,hq,rfl,rfl,hm,k1,k2',h2,fun nv hf=>?_⟩)
    obtain ⟨sz2,xs2,g1,g2,g3⟩:=hn nv _ (by rw [yG];exact hf) rfl
    cases g1;subst g2
    obtain ⟨nv',Li,yk,_,hX⟩:=zBG (S.conf.rep r) hq
    rw [hf] at yk;cases yk
    obtain ⟨q1,q2,q3⟩ | ⟨x,m,c,us,M,q0,q1,q2,_⟩:=hX
    ·subst q3;exact g3.1.symm
    ·subst q1
     simp only [zBH] at g3
     rw [g3.1,gl]
     congr 2
     ·cases x;simp_all [zAr]
  ·exact .inl h1
 case bmap r pre =>
  obtain ⟨q,hq,h1⟩:=zBB h
  obtain ⟨_,hr,⟨b,yD⟩,hn⟩:=hp
  split at h1
  ·rename_i es
   obtain ⟨root,hl,hm,h2⟩:=zBP h1
   have yG:=zBv hl
   rw [yG,← S.env r hr] at hq
   rw [← S.env r hr] at yG hm
   obtain ⟨k1,k2'⟩:=zBD (q' := .bad) rfl rfl hm
   exact .inr (.inr ⟨r,pre,_,root,hr,yG,hq,rfl,rfl,hm,k1,k2',h2,fun nv hf=>(hn nv _ (by rw [yG];exact hf) _ rfl).symm⟩)
  ·exact .inl h1
theorem St.taken (S:St w0 U Φ0 nt hv a w e Φ rv E L) {g r:Nat} (hg:zAb≤g) (hr:r<zAb) {pre:zAO} {q root:PV} (yG:(E r).unlock=E r) (hq:zAz (E r) pre=some q) (h1:q.oneCell=true)
  (hm:zAv (fun _=>some .bad) (E r) pre=some root) (hk:root.unlock=root) (ud:root.isTup=false) :
  ∃ nv Li,zAN w (rv r) (E r) pre=some (nv,q)∧Rep w Φ (zA1 w rv E) q nv Li∧Li.Nodup∧(∀ b∈Li,b∉L g)∧∀ (p':PV) (v':Value) (Lg:List Nat),Rep w Φ (zA1 w rv E) p' v' Lg→Lg.Nodup→(∀ b∈Lg,b∈Li∨b∈L g) →
   ∃ L',St w0 U Φ0 nt hv a w (e.set r root) Φ (upd rv g v') (upd (upd E r root) g p') L'∧∀ s,zAb≤s→s≠g→L' s=L s:=by
 obtain ⟨nv,Li,g1,g2,g3,g4,g5⟩:=S.conf.takeNode hr hg yG hq (zBf h1).2 hm hk
 refine ⟨nv,Li,g1,g2,g3,fun b hb j4=>S.conf.disj r g (by omega) b (g4 b hb) j4,fun p' v' Lg q1 q2 q3=>?_⟩
 obtain ⟨L',hc,hL⟩:=g5 p' v' Lg q1 q2 q3
 refine ⟨L',S.turn hc (fun s hs=>?_) (fun s hs=>zAg (by omega)) (fun d ps hd hp=>?_),fun s hs ya=>hL s (by omega) ya⟩
 ·rw [zAg (by omega),Env.get_set]
  by_cases yY:s=r
  ·subst yY;rw [zAj,if_pos rfl]
  ·rw [zAg yY,if_neg yY];exact S.env s hs
 ·rw [zAg (by simp only [zAb] at hg;omega)] at hp
  by_cases jg:d=r
  ·subst jg;rw [zAj] at hp;rw [hp] at ud;cases ud
  ·rw [zAg jg] at hp;exact ⟨ps,hp,rfl⟩
structure Worked (w0:World) (U Φ0:Nat→Prop) (nt:Nat) (hv:Hid) (a:Act) (w:World) (rv:Nat→Value) (E:Nat→PV) (g:Nat) (e1:Env) (rv1:Nat→Value) (E1:Nat→PV):Prop where
 st:∃ Φ1 L1,St w0 U Φ0 nt hv a w e1 Φ1 rv1 E1 L1
 val:rv1 g=rv g
 low:∀ s,s<zAb→rv1 s=rv s
 rest:∀ s,zAb≤s→s≠g→E1 s=E s∧rv1 s=rv s
 agg:(E1 g).isAgg=(E g).isAgg
 len:(E1 g).cells.length=(E g).cells.length
theorem zMp {p:PV} (h:p.isWay=true):p.heavy=false:=by cases p<;>first | rfl | cases h
theorem zO7 (S:St w0 U Φ0 nt hv a w e Φ rv E L) {g:Nat} (hg:zAb≤g) {k:PV→PM} (h:(zLS (E g) k).run o e=some e'):∃ e1 rv1 E1,(k (E1 g)).run o e1=some e'∧Worked w0 U Φ0 nt hv a w rv E g e1 rv1 E1:=by
 have qM:Worked w0 U Φ0 nt hv a w rv E g e rv E:=⟨⟨Φ,L,S⟩,rfl,fun _ _=>rfl,fun _ _ _=>⟨rfl,rfl⟩,rfl,rfl⟩
 by_cases kj:(E g).isWay=true
 ·have hX:=S.conf.rep g
  have hL:L g=[]:=zC9 _ _ _ (zMp kj) hX
  rw [hL] at hX
  rcases zPd S hX h with h1 | h1 | ⟨r,pre,q,root,c1,c2,c3,c4,c5,c6,c7,c8,c9,c10⟩
  ·obtain ⟨e1,Φ1,E1,L1,h2,S1,_,h3,_,_,h4,h5⟩:=zIX hg (Nat.le_refl _) zDs S h1
   exact ⟨e1,rv,E1,h2,⟨Φ1,L1,S1⟩,rfl,fun _ _=>rfl,fun s hs hI=>⟨h3 s hs hI,rfl⟩,h4,h5⟩
  ·exact ⟨e,rv,E,h1,qM⟩
  ·obtain ⟨nv,Li,g1,g2,g3,g4,g5⟩:=S.taken hg c1 c2 c3 c4 c6 c7 c8
   have hnv:=c10 nv g1
   obtain ⟨L',S',vd⟩:=g5 q nv Li g2 g3 (fun b hb => .inl hb)
   have ju:r≠g:=by omega
   refine ⟨_,_,_,by rw [zAj];exact c9,⟨Φ,L',S'⟩,by rw [zAj,hnv],fun s hs=>zAg (by omega),fun s hs hI=>?_,?_,?_⟩
   ·rw [zAg hI,zAg hI,zAg (by omega)];exact ⟨rfl,rfl⟩
   ·rw [zAj,(zBf c4).2,(zBf c5).2]
   ·rw [zAj,(zBf c4).1,(zBf c5).1];rfl
 ·have:(k (E g)).run o e=some e':=by
   revert h
   simp only [zLS,zNK]
   cases hE:E g<;>first | (rw [hE] at kj;exact absurd rfl kj) | exact fun h=>h
  exact ⟨e,rv,E,this,qM⟩
theorem Worked.self (S:St w0 U Φ0 nt hv a w e Φ rv E L) {g:Nat}:Worked w0 U Φ0 nt hv a w rv E g e rv E:=⟨⟨Φ,L,S⟩,rfl,fun _ _=>rfl,fun _ _ _=>⟨rfl,rfl⟩,rfl,rfl⟩
theorem Worked.trans {g:Nat} {e1 e2:Env} {rv1 rv2:Nat→Value} {E1 E2:Nat→PV} (h1:Worked w0 U Φ0 nt hv a w rv E g e1 rv1 E1) (h2:Worked w0 U Φ0 nt hv a w rv1 E1 g e2 rv2 E2):Worked w0 U Φ0 nt hv a w rv E g e2 rv2 E2 :=
 ⟨h2.st,h2.val.trans h1.val,fun s hs=>(h2.low s hs).trans (h1.low s hs),fun s hs hI=>⟨(h2.rest s hs hI).1.trans (h1.rest s hs hI).1,(h2.rest s hs hI).2.trans (h1.rest s hs hI).2⟩,h2.agg.trans h1.agg,h2.len.trans h1.len⟩
theorem zOA (S:St w0 U Φ0 nt hv a w e Φ rv E L) {g:Nat} (hg:zAb≤g) {k:PV→PM} (h:(zLG zAb zDs (E g) k).run o e=some e'):∃ e1 rv1 E1,(k (E1 g)).run o e1=some e'∧Worked w0 U Φ0 nt hv a w rv E g e1 rv1 E1:=by
 obtain ⟨e1,Φ1,E1,L1,h2,S1,_,h3,_,_,h4,h5⟩:=zIX hg (Nat.le_refl _) zDs S h
 exact ⟨e1,rv,E1,h2,⟨Φ1,L1,S1⟩,rfl,fun _ _=>rfl,fun s hs hI=>⟨h3 s hs hI,rfl⟩,h4,h5⟩
theorem zG3 {g:Nat} (hg:zAb≤g) {k:PV→PM}:∀ (ps done:List PV) {e:Env} {Φ:Nat→Prop} {rv:Nat→Value} {E:Nat→PV} {L:Nat→List Nat},St w0 U Φ0 nt hv a w e Φ rv E L→E g = .agg (done++ps) →
  (zJD ps fun qs=>k (.agg (done++qs))).run o e=some e'→∃ e1 rv1 E1,(k (E1 g)).run o e1=some e'∧Worked w0 U Φ0 nt hv a w rv E g e1 rv1 E1
 | [],done,e,Φ,rv,E,L,S,hE,h=>by
  refine ⟨e,rv,E,?_,.self S⟩
  rw [hE];exact h
 | p :: ps,done,e,Φ,rv,E,L,S,hE,h=>by
  have hX:=S.conf.rep g
  rw [hE] at hX
  obtain ⟨vs,yD,hr⟩:=hX
  have hpi:(done++p::ps)[done.length]? = some p:=by simp
  obtain ⟨v,La,Lp,Lb,hvi,hL,uV,yi,_⟩:=hr.split hpi
  simp only [zJD] at h
  by_cases kj:p.isWay=true
  ·have hLp:=zC9 _ _ _ (zMp kj) uV
   subst hLp
   rcases zPd S uV h with h1 | h1 | ⟨r,pre,q,root,c1,c2,c3,c4,c5,c6,c7,c8,c9,c10⟩
   ·cases h1
   ·exact zG3 hg ps (done++[p]) S (by rw [hE];simp) (by simpa using h1)
   ·obtain ⟨nv,Li,g1,g2,g3,g4,g5⟩:=S.taken hg c1 c2 c3 c4 c6 c7 c8
    have hnv:=c10 nv g1
    subst hnv
    have yW:=S.conf.nodup g
    rw [hL] at yW
    simp only [List.append_nil,List.nodup_append] at yW
    have jT:=yi w Φ (zA1 w rv E) q Li (fun _ _ _ h=>h) zDf.refl (fun _ _=>rfl) g2
    have yv:∀ b∈La++Lb,b∈L g:=fun b hb=>by rw [hL];simpa using hb
    obtain ⟨L',S',vd⟩:=g5 (.agg ((done++p::ps).set done.length q)) (rv g) (La++Li++Lb) ⟨vs,yD,jT⟩
     (by
      simp only [List.nodup_append]
      refine ⟨⟨yW.1,g3,fun x hx y hy e=>g4 y hy (yv y (by rw [← e];simp [hx]))⟩,yW.2.1,fun x hx y hy e=>?_⟩
      rcases List.mem_append.1 hx with hx | hx
      ·exact yW.2.2 x hx y hy e
      ·exact g4 x hx (yv x (by rw [e];simp [hy])))
     (fun b hb=>by
      simp only [List.mem_append] at hb
      rcases hb with (hb | hb) | hb
      ·exact .inr (yv b (by simp [hb]))
      ·exact .inl hb
      ·exact .inr (yv b (by simp [hb])))
    have ju:r≠g:=by omega
    have hEq:(done++p::ps).set done.length q=done++q::ps:=by simp
    obtain ⟨e1,rv1,E1,h2,W⟩:=zG3 hg ps (done++[q]) S' (by rw [zAj,hEq];simp) (by simpa using c9)
    refine ⟨e1,rv1,E1,h2,?_⟩
    have W0:Worked w0 U Φ0 nt hv a w rv E g (e.set r root) (upd rv g (rv g)) (upd (upd E r root) g (.agg ((done++p::ps).set done.length q))):=by
     refine ⟨⟨Φ,L',S'⟩,zAj,fun s hs=>zAg (by omega),fun s hs hI=>?_,?_,?_⟩
     ·rw [zAg hI,zAg hI,zAg (by omega)];exact ⟨rfl,rfl⟩
     ·rw [zAj,hE];rfl
     ·rw [zAj,hE];simp [PV.cells]
    exact W0.trans W
  ·have:(zJD ps fun qs=>k (.agg (done++p::qs))).run o e=some e':=by
    revert h
    cases p<;>first | (exact absurd rfl kj) | exact fun h=>h
   exact zG3 hg ps (done++[p]) S (by rw [hE];simp) (by simpa using this)
theorem zMU (S:St w0 U Φ0 nt hv a w e Φ rv E L) {g:Nat} (hg:zAb≤g) {tk:Bool} {k:PV→PM} (h:(zFI tk (E g) k).run o e=some e'):∃ e1 rv1 E1,(k (E1 g)).run o e1=some e'∧Worked w0 U Φ0 nt hv a w rv E g e1 rv1 E1:=by
 have plain:(k (E g)).run o e=some e'→∃ e1 rv1 E1,(k (E1 g)).run o e1=some e'∧Worked w0 U Φ0 nt hv a w rv E g e1 rv1 E1:=fun h=>⟨e,rv,E,h,.self S⟩
 have ice:(zLG zAb zDs (E g) k).run o e=some e'→∃ e1 rv1 E1,(k (E1 g)).run o e1=some e'∧Worked w0 U Φ0 nt hv a w rv E g e1 rv1 E1:=zOA S hg
 have take:(zLS (E g) k).run o e=some e'→∃ e1 rv1 E1,(k (E1 g)).run o e1=some e'∧Worked w0 U Φ0 nt hv a w rv E g e1 rv1 E1:=zO7 S hg
 cases hE:E g<;>rw [hE] at h plain ice take<;>simp only [zFI] at h<;>try (exact plain h)
 case agg cs =>
  cases tk with
  | true=>exact zG3 hg cs [] S (by rw [hE];rfl) (by simpa using h)
  | false =>
   simp only [cond_false] at h
   revert h
   cases cs.any _ with
   | true=>exact ice
   | false=>exact plain
 case bor=>cases tk<;>first | exact take h | exact ice h
 case bmap=>cases tk<;>first | exact take h | exact ice h
 case bsl=>exact ice h
theorem St.iced (S:St w0 U Φ0 nt hv a w e Φ rv E L) {g:Nat} (hg:zAb≤g):∃ Φ1 L1,St w0 U Φ0 nt hv a w e Φ1 rv (upd E g (zAP (E g))) L1:=by
 have hA:∀ a u,a.isWay=true→zA1 w rv E a u→zA1 w rv (upd E g (zAP (E g))) a u:=by
  intro a u _ ha
  have:=zCM ha
  exact zCz S.conf zCb ha (by rw [zAg (by omega),zBb]) rfl (fun _ _=>rfl)
 have hΦ:zDf w w Φ (fun b=>Φ b∨b∈L g):=fun b hb=>⟨.inl hb,rfl⟩
 have hc:Conf w0 U Φ0 w (fun b=>Φ b∨b∈L g) rv (upd E g (zAP (E g))) (upd L g []):=by
  refine ⟨fun s=>?_,fun s=>?_,fun s s' hI b hb yH=>?_,fun s b hb=>?_,fun b hb=>?_,fun b hb => .inl (S.conf.frz0 b hb),S.conf.size,S.conf.kept,S.conf.os,S.conf.tape,S.conf.output⟩
  ·by_cases hs:s=g
   ·subst hs;rw [zAj,zAj]
    exact (zDY (fun b hb => .inl hb) _ _ _ (fun b hb => .inr hb) (S.conf.rep s)).mono zDf.refl hA (by simp)
   ·rw [zAg hs,zAg hs];exact (S.conf.rep s).mono hΦ hA (fun _ _=>rfl)
  ·by_cases hs:s=g
   ·subst hs;rw [zAj];exact List.nodup_nil
   ·rw [zAg hs];exact S.conf.nodup s
  ·by_cases hs:s=g
   ·subst hs;rw [zAj] at hb;cases hb
   ·rw [zAg hs] at hb
    by_cases yy:s'=g
    ·subst yy;rw [zAj] at yH;cases yH
    ·rw [zAg yy] at yH;exact S.conf.disj s s' hI b hb yH
  ·by_cases hs:s=g
   ·subst hs;rw [zAj] at hb;cases hb
   ·rw [zAg hs] at hb
    have:=S.conf.own s b hb
    exact ⟨this.1,fun hp=>hp.elim this.2.1 fun hbg=>S.conf.disj s g hs b hb hbg,this.2.2⟩
  ·rcases hb with hb | hb
   ·exact S.conf.frz b hb
   ·have:=S.conf.own g b hb;exact ⟨this.1,.inr this.2.2⟩
 exact ⟨_,_,S.turn hc (fun s hs=>by rw [zAg (by omega)];exact S.env s hs) (fun _ _=>rfl) fun d ps hd hp=>by
  rw [zAg (by simp only [zAb] at hg;omega)] at hp;exact ⟨ps,hp,rfl⟩⟩
theorem St.clear (S:St w0 U Φ0 nt hv a w e Φ rv E L):Fr w0 U Φ0 nt hv a w e:=by
 have hc:=S.conf.drop fun s=>decide (zAb≤s)
 refine ⟨_,_,_,_,S.turn hc (fun s hs=>?_) (fun _ _=>rfl) (fun d ps hd hp=>?_),fun s hs=>?_⟩
 ·have:decide (zAb≤s)=false:=by simp;omega
  simp only [this,Bool.false_eq_true,if_false];exact S.env s hs
 ·have:decide (zAb≤d)=false:=decide_eq_false (by simp only [zAb];omega)
  simp only [this,Bool.false_eq_true,if_false] at hp;exact ⟨ps,hp,rfl⟩
 ·simp [hs]
theorem zIk {A:Al} {sz lo n:Nat} {xs:List PV} {nv v:Value} {Li:List Nat} (h:Rep w Φ A (.own sz xs) nv Li) (yP:lo+n≤xs.length) (hs:zBH v nv sz lo n) :
  ∃ Lg,Rep w Φ A (.own sz ((xs.drop lo).take n)) v Lg∧(∀ b∈Lg,b∈Li)∧(Li.Nodup→Lg.Nodup):=by
 obtain ⟨h1,h2,h3⟩ | ⟨x,m,c,us,M,rfl,h1,h2,h3,h4,h5,h6,⟨h7,uG⟩,h8,h9⟩:=h
 ·subst h1;subst h3
  exact ⟨[],.inl ⟨by simp,rfl,hs.1⟩,by simp,fun _=>List.nodup_nil⟩
 ·subst h1
  simp only [zBH] at hs
  obtain ⟨rfl,yR⟩:=hs
  have jA:us.length=xs.length:=by have:=congrArg List.length uG;simpa using this
  obtain ⟨M1,M23,rfl,_,hB⟩:=h9.cut lo
  obtain ⟨M2,M3,rfl,hC,_⟩:=hB.cut n
  have hZ:((xs.drop lo).take n).length=n:=by simp;omega
  refine ⟨x.block::M2,.inr ⟨zAr x (lo*sz),m-lo,c,(us.drop lo).take n,M2,rfl,by rw [hZ],rfl,by rw [hZ];omega,h4,?_,fun y hy=>h6 y (List.mem_of_mem_drop (List.mem_of_mem_take hy)),⟨fun u hu=>h7 u (List.mem_of_mem_drop (List.mem_of_mem_take hu)),zAX.map_isAgg uG lo n⟩,?_,hC⟩,?_,?_⟩
  ·simp only [zAr]
   have:lo*sz+(m-lo)*sz=m*sz:=by rw [← Nat.add_mul];congr 1;omega
   omega
  ·rw [hZ];exact zIf h7 jA h8 yP
  ·intro b hb;simp only [List.mem_cons,List.mem_append] at hb ⊢;rcases hb with h | h<;>simp [h]
  ·intro hn
   simp only [List.nodup_cons,List.mem_append,not_or,List.nodup_append] at hn ⊢
   exact ⟨hn.1.2.1,hn.2.2.1.1⟩
theorem zLK {t:TypeId} {n:Nat} (hn:szT P t=some n) {b:Addr} (y1:b.spot=none) {row:Array Value} (yC:zEK w b.block row) {v:Value} (hv:v.cells.size=n) (yB:b.off+v.cells.size≤row.size) (yO:∀ u∈v.cells.toList,u.oneCell'=true) :
  (Instr.storeAt t (.pointer (some b)) v).run P w = .ok () (w.setRow b.block (zBa row b.off v.cells.toList)):=by
 obtain ⟨ti,jM,yE⟩:=zCc hn
 obtain ⟨el,yt⟩:=yC
 have hb:b=⟨b.block,b.off,none⟩:=by cases b;simp_all
 simp only [Instr.storeAt,Instr.sureAddr,Sem.run_bind,Sem.run_pure,Result.andThen_ok,storeVar,zAV jM]
 rw [if_neg (by simp only [ne_eq,Decidable.not_not];omega)]
 have:=run_storeCells_at (P:=P) b.block b.off el v.cells.toList 0 row w yt (by simpa using yB) yO
 rw [← hb] at this
 simp only [Nat.add_zero] at this
 exact this
theorem zK5 (S:St w0 U Φ0 nt hv a w e Φ rv E L) {g r:Nat} (hg:zAb≤g) {pre:zAO} {i c:Nat} {sh:Option Nat} {t:TypeId} {va:Value} (ha:Rep w Φ (zA1 w rv E) (.addr r pre i c sh) va [])
  (hn:szT P t=some (E g).cells.length) (h:(zHS r pre i c (E g)).run o e=some e') :
  ∃ w',(Instr.storeAt t va (rv g)).run P w = .ok () w'∧Fr w0 U Φ0 nt hv a w' e':=by
 simp only [zHS] at h
 obtain ⟨hc,h1⟩:=zAF h
 simp only [Bool.and_eq_true,Bool.or_eq_true,Bool.not_eq_true'] at hc
 obtain ⟨⟨jS,jE⟩,uW⟩:=hc
 have yO:∀ q∈(E g).cells,q.oneCell=true:=fun q hq=>List.all_eq_true.1 jE q hq
 have hva:zCa (rv g)=(E g).isAgg:=by
  have hX:=S.conf.rep g
  cases hx:(E g).isAgg with
  | true =>
   cases hE:E g<;>rw [hE] at hx<;>simp [PV.isAgg] at hx
   rw [hE] at hX;obtain ⟨vs,yD,_⟩:=hX;rw [yD];rfl
  | false =>
   have j3:(E g).cells=[E g]:=by cases hE:E g<;>first | rfl | (rw [hE] at hx;simp [PV.isAgg] at hx)
   have:=yO (E g) (by rw [j3];simp)
   exact (zBA (zB1 (fun a v hw h=>zCV hw h) hX this)).2
 have yr:(E g).heavy=false∨∀ x∈(E g).ways,zAH r pre x.1 x.2=false∨x.2.length≤pre.length:=by
  rcases jS with h | h
  ·exact .inl h
  ·refine .inr fun x hx=>?_
   have:=List.all_eq_true.1 h x hx
   simp only [Bool.not_eq_true',Bool.and_eq_false_iff] at this
   rcases this with h | h
   ·exact .inl h
   ·refine .inr (Nat.le_of_not_lt fun yF=>?_)
    rw [show Nat.blt pre.length x.2.length=true from Nat.ble_eq_true_of_le yF] at h;cases h
 have hI:(E g).cells.length≠0:=by
  intro h0;rw [List.eq_nil_of_length_eq_zero h0] at uW;cases uW
 obtain ⟨b,row,e1,E1,L1,rfl,k1,k2,k3,k4,k5,k6,_,_⟩:=S.write hg ha yr yO hI hva h1
 simp only [PM.run,Option.some.injEq] at k5;subst k5
 have yE:(rv g).cells.size=(E g).cells.length:=by
  have:=((S.conf.rep g).cellsAll hva).length
  simpa using this
 exact ⟨_,zLK hn k1 k2 yE k3 k4,k6.clear⟩
theorem zHa (S:St w0 U Φ0 nt hv a w e Φ rv E L) {g:Nat} (hg:zAb≤g) (hE2:E (g+1) = .bad) {r:Nat} {pre:zAO} {i c:Nat} {sh:Option Nat} {t:TypeId} {va:Value} (ha:Rep w Φ (zA1 w rv E) (.addr r pre i c sh) va [])
  (hn:szT P t=some (E g).cells.length) {tk:Bool} (h:(zHZ tk r pre i c (E g)).run o e=some e') :
  ∃ w',(Instr.storeAt t va (rv g)).run P w = .ok () w'∧Fr w0 U Φ0 nt hv a w' e':=by
 have S1:=S.hold (g:=g+1) (by omega) ha
 have kP:g≠g+1:=by omega
 simp only [zHZ] at h
 split at h
 ·rename_i m kQ
  cases uT:E g<;>rw [uT] at kQ<;>simp only [zQw] at kQ<;>try (cases kQ;done)
  rename_i r' q z lo n
  cases lo with
  | succ lo=>cases kQ
  | zero =>
   simp only [zQw] at kQ
   split at kQ
   ·rename_i hrq
    simp only [Bool.and_eq_true,decide_eq_true_eq] at hrq
    obtain ⟨rfl,rfl⟩:=hrq
    simp only [Option.some.injEq] at kQ;subst kQ
    obtain ⟨x,hx,h1⟩:=zBB h
    split at h1
    ·rename_i s xs
     obtain ⟨yP,h2⟩:=zAF h1
     have yP:=Nat.le_of_ble_eq_true yP
     obtain ⟨root,hl,hm,h3⟩:=zBP h2
     have hr:r'<zAb:=ha.2.1
     have yG:=zBv hl
     rw [yG,← S.env r' hr] at hx
     rw [← S.env r' hr] at yG hm
     have hr1:r'≠g+1:=by omega
     obtain ⟨kk1,kk2⟩:=zBD (q' := .bad) rfl rfl hm
     have vi:upd E (g+1) (.addr r' pre i c sh) r'=E r':=zAg hr1
     obtain ⟨nv,Li,g1,g2,g3,g4,g5⟩:=S1.taken (g:=g) hg hr (by rw [vi];exact yG) (by rw [vi];exact hx) rfl (by rw [vi];exact hm) kk1 kk2
     have qN:=S.conf.rep g
     rw [uT] at qN
     obtain ⟨_,_,_,vl⟩:=qN
     have jZ:zBH (rv g) nv s 0 n:=by
      obtain ⟨s2,xs2,q1,q2,q3⟩:=vl nv _ (by rw [yG];rw [vi,zAg hr1] at g1;exact g1) rfl
      cases q1;subst q2;exact q3
     obtain ⟨Lg,p1,p2,p3⟩:=zIk g2 (by omega) jZ
     obtain ⟨L',S2,_⟩:=g5 _ (rv g) Lg p1 (p3 g3) (fun b hb => .inl (p2 b hb))
     have jp:=S2.conf.rep (g+1)
     rw [zAg (Ne.symm kP),zAg (Ne.symm hr1),zAj,zAg (Ne.symm kP),zAj] at jp
     have un:L' (g+1)=[]:=jp.1
     rw [un] at jp
     have:=zK5 (P:=P) (t:=t) S2 hg jp (by rw [zAj];rw [uT] at hn;exact hn) (by rw [zAj];exact h3)
     rw [zAj] at this;exact this
    ·cases h1
   ·cases kQ
 ·have key:(zFI tk (E g) fun v=>zHS r pre i c v).run o e=some e'∨(zHS r pre i c (E g)).run o e=some e':=by
   simp only [zIe] at h
   cases hb:(pre.isEmpty && !tk) with
   | false=>rw [hb] at h;exact .inl h
   | true =>
    rw [hb] at h;simp only [cond_true,PM.run] at h
    split at h
    ·exact .inr h
    ·exact .inl h
  rcases key with h | h
  ·have hEg1:upd E (g+1) (.addr r pre i c sh) g=E g:=zAg kP
   obtain ⟨e1,rv1,E1,h1,W⟩:=zMU S1 (g:=g) hg (by rw [hEg1];exact h)
   obtain ⟨Φ1,L1,S2⟩:=W.st
   have jp:=S2.conf.rep (g+1)
   obtain ⟨q1,q2⟩:=W.rest (g+1) (by omega) (Ne.symm kP)
   rw [q1,q2,zAj,zAj] at jp
   have un:L1 (g+1)=[]:=jp.1
   rw [un] at jp
   have hZ:=W.len
   rw [hEg1] at hZ
   have:=zK5 (P:=P) (t:=t) S2 hg jp (by rw [hZ];exact hn) h1
   rw [W.val,zAg kP] at this;exact this
  ·exact zK5 S hg ha hn h
theorem zVn {t el:TypeId} {s:Nat} (h:(zBM P t).bind (szT P)=some s):∃ el,zBM P t=some el∧szT P el=some s:=by
 cases he:zBM P t with
 | none=>rw [he] at h;cases h
 | some el=>rw [he] at h;exact ⟨el,rfl,h⟩
theorem zCr {t:TypeId} {el:TypeId} (h:zBM P t=some el):P.underlying t=some (.slice el):=by
 simp only [zBM] at h
 split at h
 ·cases h;assumption
 ·cases h
theorem zSE (S:St w0 U Φ0 nt hv a w e Φ rv E L) (hb:zBk E) {fz tk:Bool} {t:TypeId} {x y:Operand} (hx:zAL nt x=true) (hy:zAL nt y=true) (h:(zOE P fz tk t x y).run o e=some e') :
  ∃ w',(Instr.storeAt t (a.eval x) (a.eval y)).run P w = .ok () w'∧Fr w0 U Φ0 nt hv a w' e':=by
 obtain ⟨pa,h1,vh⟩:=zBo S hx h
 have gen:(match pa,shT P t,szT P t with
   | .addr r pre i c _,some sh,some n=>(bif fz&&tk then opd y else zO9 y) fun v=>bif Nat.beq v.cells.length n&&v.isAgg==sh.isSome then zHZ (tk && !fz) r pre i c (bif fz && !tk then zAP v else v) else .fail
   | _,_,_ => .fail).run o e=some e'→∃ w',(Instr.storeAt t (a.eval x) (a.eval y)).run P w = .ok () w'∧Fr w0 U Φ0 nt hv a w' e':=by
  intro h2
  clear h1
  split at h2
  ·rename_i r pre i c s' sh n j5 hn
   have S1:=S.hold (g:=zAb+2) (by omega) vh
   cases qO:(fz&&tk) with
   | true =>
    rw [Bool.and_eq_true] at qO
    obtain ⟨rfl,rfl⟩:=qO
    simp only [Bool.and_self,cond_true,Bool.not_true,Bool.and_false,cond_false] at h2
    obtain ⟨v,h2,hv⟩:=zBo S1 hy h2
    obtain ⟨hc,h5⟩:=zAF h2
    simp only [Bool.and_eq_true] at hc
    have hZ:=Nat.eq_of_beq_eq_true hc.1
    have S2:=S1.hold (g:=zAb) (Nat.le_refl _) hv
    have jp:=S2.conf.rep (zAb+2)
    rw [zAg (show zAb+2≠zAb by omega),zAg (show zAb+2≠zAb by omega),zAg (show zAb+2≠zAb by omega),zAj,zAj,zAj] at jp
    have:=zHa (P:=P) (t:=t) S2 (Nat.le_refl zAb) (by rw [zAg (show zAb+1≠zAb by omega),zAg (show zAb+1≠zAb+2 by omega)];exact hb _ (by omega)) jp (by rw [zAj,hZ];exact hn) (by rw [zAj];exact h5)
    rwa [zAj] at this
   | false =>
   rw [qO,cond_false] at h2
   obtain ⟨e1,rv1,E1,L1,h2,S2,h3,h4⟩:=zGm S1 hy (g:=zAb) (Nat.le_refl _) h2
   obtain ⟨hc,h5⟩:=zAF h2
   simp only [Bool.and_eq_true] at hc
   have hZ:=Nat.eq_of_beq_eq_true hc.1
   have h6:=h4 (zAb+2) (by omega) (by omega)
   rw [zAj,zAj,zAj] at h6
   have h7:=h4 (zAb+1) (by omega) (by omega)
   rw [zAg (show zAb+1≠zAb+2 by omega)] at h7
   have vi:E1 (zAb+1) = .bad:=by rw [h7.1];exact hb _ (by omega)
   cases fz with
   | false =>
    simp only [Bool.false_and,cond_false] at h5
    have jp:=S2.conf.rep (zAb+2)
    rw [h6.1,h6.2.1,h6.2.2] at jp
    have:=zHa (P:=P) (t:=t) S2 (Nat.le_refl zAb) vi jp (by rw [hZ];exact hn) h5
    rwa [h3] at this
   | true =>
    simp only [Bool.true_and] at qO
    subst qO
    simp only [Bool.not_false,Bool.and_self,cond_true] at h5
    obtain ⟨Φ2,L2,S3⟩:=S2.iced (g:=zAb) (Nat.le_refl _)
    have jp:=S3.conf.rep (zAb+2)
    rw [zAg (show zAb+2≠zAb by omega),h6.1,h6.2.1] at jp
    have un:L2 (zAb+2)=[]:=jp.1
    rw [un] at jp
    have:=zHa (P:=P) (t:=t) S3 (Nat.le_refl zAb) (by rw [zAg (show zAb+1≠zAb by omega)];exact vi) jp (by rw [zAj,zCZ,hZ];exact hn) (by rw [zAj];exact h5)
    rwa [h3] at this
  ·cases h2
 split at h1
 ·rename_i r pre i c s'
  obtain ⟨s,hs,jb⟩:=zBz h1
  obtain ⟨jZ,h2⟩:=zDe jb
  have S1:=S.hold (g:=zAb) (p := .own s []) (v := .slice none 0 0) (Nat.le_refl _) (.inl ⟨rfl,rfl,rfl⟩)
  have hpa':Rep w Φ (zA1 w (upd rv zAb (.slice none 0 0)) (upd E zAb (.own s []))) (.addr r pre i c s') (a.eval x) []:=by
   have hr:=zCM vh.2
   refine ⟨rfl,zCz S.conf zCb vh.2 ?_ ?_ (fun _ _=>rfl)⟩
   ·rw [zAg (Nat.ne_of_lt hr),zBb]
   ·rw [zAg (Nat.ne_of_lt hr)]
  have:=zHa (P:=P) (t:=t) S1 (Nat.le_refl zAb) (by rw [zAg (show zAb+1≠zAb by omega)];exact hb _ (by omega)) hpa' (by rw [zAj];exact jZ) (by rw [zAj];exact h2)
  rwa [zAj] at this
 ·exact gen h1
theorem Fr.congr {e1 e2:Env} (h:∀ s,e1.get s=e2.get s) (hf:Fr w0 U Φ0 nt hv a w e1):Fr w0 U Φ0 nt hv a w e2:=by
 obtain ⟨Φ,rv,E,L,S,hb⟩:=hf
 exact ⟨Φ,rv,E,L,{S with env:=fun s hs=>(S.env s hs).trans (h s)},hb⟩
theorem zKB (S:St w0 U Φ0 nt hv a w e Φ rv E L) {g:Nat} (hg:zAb≤g) {d:Option Nat} (hd:∀ x,d=some x→x<nt) (hb:∀ s,zAb≤s→s≠g→E s = .bad) (h:(zFy d (E g)).run o e=some e'):Fr w0 U Φ0 nt hv (a.put d (rv g)) w e':=by
 have plain:(put d (E g)).run o e=some e'→Fr w0 U Φ0 nt hv (a.put d (rv g)) w e':=fun h=>zFw S hd hg h hb
 have jv:=S.small
 simp only [zFy] at h
 split at h
 ·rename_i d' r z lo n uT
  split at h
  ·rename_i hrd
   subst hrd
   have hr:r<nt:=hd r rfl
   have ju:r<zAb:=by simp only [zAb];omega
   simp only [PM.run] at h
   split at h
   ·cases h
   ·rename_i root gl
    split at h
    ·rename_i sz xs km
     obtain ⟨yP,h1⟩:=zAF h
     have yP:=Nat.le_of_ble_eq_true yP
     simp only [PM.run,Option.some.injEq] at h1
     have hE:E r = .own sz xs:=by rw [S.env r ju,km]
     obtain ⟨nv,Li,g1,g2,g3,g4,g5⟩:=S.taken (g:=g) hg ju (pre:=[]) (q := .own sz xs) (root := .bad) (by rw [hE];rfl) (by rw [hE];rfl) rfl rfl rfl rfl
     have hX:=S.conf.rep g
     rw [uT] at hX
     obtain ⟨_,_,_,hn⟩:=hX
     have jZ:zBH (rv g) nv sz lo n:=by
      obtain ⟨s2,xs2,q1,q2,q3⟩:=hn nv _ (by rw [hE];rw [hE] at g1;exact g1) rfl
      cases q1;subst q2;exact q3
     obtain ⟨Lg,p1,p2,p3⟩:=zIk g2 yP jZ
     obtain ⟨L',S2,_⟩:=g5 _ (rv g) Lg p1 (p3 g3) (fun b hb => .inl (p2 b hb))
     have jz:(put (some r) (upd (upd E r .bad) g (.own sz ((xs.drop lo).take n)) g)).run o (e.set r .bad)=some (((e.set r .bad).kill r []).set r (.own sz ((xs.drop lo).take n))):=by
      rw [zAj];rfl
     have:=zFw S2 hd hg jz (fun s hs hI=>by rw [zAg hI,zAg (by omega)];exact hb s hs hI)
     rw [zAj] at this
     refine this.congr fun s=>?_
     rw [← h1,Env.get_set,Env.get_set,Env.get_kill,Env.get_kill,Env.get_set]
     by_cases hs:s=r
     ·simp [hs]
     ·simp [hs]
    ·cases h
  ·exact plain h
 ·exact plain h
theorem zRX (S:St w0 U Φ0 nt hv a w e Φ rv E L) (hb:zBk E) {d:Option Nat} (hd:∀ x,d=some x→x<nt) {tk nl:Bool} {t:TypeId} {x:Operand} (hx:zAL nt x=true) (h:(zFV P tk nl d t x).run o e=some e'):Fr w0 U Φ0 nt hv (a.put d (a.eval x)) w e':=by
 have gen:(zO9 x fun p=>bif tk then zLS p (zFy d) else zFy d p).run o e=some e'→Fr w0 U Φ0 nt hv (a.put d (a.eval x)) w e':=by
  intro h
  obtain ⟨e1,rv1,E1,L1,h1,S1,h2,h3⟩:=zGm S hx (g:=zAb) (Nat.le_refl _) h
  have y6:∀ s,zAb≤s→s≠zAb→E1 s = .bad:=fun s hs hI=>by rw [(h3 s hs hI).1];exact hb s hs
  cases tk with
  | false =>
   have:=zKB S1 (Nat.le_refl zAb) hd y6 h1
   rwa [h2] at this
  | true =>
   obtain ⟨e2,rv2,E2,h4,W⟩:=zO7 S1 (Nat.le_refl zAb) h1
   obtain ⟨Φ2,L2,S2⟩:=W.st
   have:=zKB S2 (Nat.le_refl zAb) hd (fun s hs hI=>by rw [(W.rest s hs hI).1];exact y6 s hs hI) h4
   rw [W.val,h2] at this;exact this
 simp only [zFV] at h
 split at h
 ·have nilR:∀ s,Rep w Φ (zA1 w rv E) (.own s []) (.slice none 0 0) []:=fun s => .inl ⟨rfl,rfl,rfl⟩
  cases nl with
  | true=>obtain ⟨s,_,h1⟩:=zBz h;exact zAu S hb hd h1 ⟨rfl,rfl⟩
  | false =>
   simp only [cond_false,zS9] at h
   split at h
   ·exact zAu S hb hd h (nilR _)
   ·cases h
 ·exact gen h
theorem zG2 {d i d' i':Nat} (h:zBp d i=zBp d' i') (hi:i<16) (qz:i'<16):d=d'∧i=i':=by
 simp only [zBp] at h;omega
theorem zPT (S:St w0 U Φ0 nt hv a w e Φ rv E L) (hb:zBk E) {d:Option Nat} (hd:∀ x,d=some x→x<nt) {s i:Nat} (hs:s<nt) (h:(zJe d s i).run o e=some e') :
  ∃ v,(Instr.extract (a.eval (.tmp s)) i).run P w = .ok v w∧Fr w0 U Φ0 nt hv (a.put d v) w e':=by
 have jv:=S.small
 have ya:s<zAb:=by simp only [zAb];omega
 simp only [zJe,PM.run] at h
 split at h
 ·cases h
 ·rename_i m gl
  split at h
  ·rename_i ps y5
   obtain ⟨hi,h1⟩:=zAF h
   have hi:=zBW hi
   have hE:E s = .tup ps:=by rw [S.env s ya,y5]
   obtain ⟨vm,vs,uL,ke⟩:=S.parts s ps i hs hE hi
   have gm:zBp s i<zAb:=by simp only [zBp,zAb];omega
   have kF:a.eval (.tmp s) = .tuple vs:=by rw [← uL];exact S.tmps s hs
   have yA:(Instr.extract (a.eval (.tmp s)) i).run P w = .ok (rv (zBp s i)) w:=by
    rw [kF];simp only [Instr.extract,ke];rfl
   refine ⟨_,yA,?_⟩
   simp only [PM.run] at h1
   split at h1
   ·cases h1
   ·rename_i p hnl2
    have hX:=S.conf.rep (zBp s i)
    rw [S.env _ gm] at hX
    cases hh:(e.get (zBp s i)).heavy with
    | false =>
     rw [hh] at h1;simp only [cond_false] at h1
     rw [zC9 _ _ _ hh hX] at hX
     exact zAu S hb hd h1 hX
    | true =>
     rw [hh] at h1;simp only [cond_true,PM.run] at h1
     have hc:=S.conf.take (s:=zBp s i) (g:=zAb) gm (Nat.le_refl _)
     have S1:=S.turn (e':=e.set (zBp s i) .bad) hc (fun t ht=>by
      rw [zAg (by omega),Env.get_set]
      by_cases uo:t=zBp s i
      ·subst uo;rw [zAj,if_pos rfl]
      ·rw [zAg uo,if_neg uo];exact S.env t ht) (fun t ht=>zAg (by omega)) (fun d ps hd hp=>by
      rw [zAg (by simp only [zAb];omega),zAg (by simp only [zBp];omega)] at hp;exact ⟨ps,hp,rfl⟩)
     have:=zFw S1 hd (g:=zAb) (Nat.le_refl _) (by rw [zAj,S.env _ gm];exact h1) (fun t ht hI=>by rw [zAg hI,zAg (by omega)];exact hb t ht)
     rwa [zAj] at this
  ·cases h
end
end Go.Eng
namespace Go.Eng
open Go
mutual
theorem zDI {f:PV→PV}:∀ p:PV,(∀ a,a.isWay=true→(∀ x∈a.ways,x∈p.ways)→(∀ xs k,a ≠ .log xs k)→f a=a)→(∀ xs k,f (.log xs k) = .log xs k)→p.mapW f=p
 | .agg cs,h,hl=>by rw [PV.mapW,zEw cs h hl]
 | .tup cs,h,hl=>by rw [PV.mapW,zEw cs h hl]
 | .func k a b,h,hl=>by rw [PV.mapW,zEw a (fun x hx hw hn=>h x hx (fun y hy=>List.mem_append.2 (.inl (hw y hy))) hn) hl,zEw b (fun x hx hw hn=>h x hx (fun y hy=>List.mem_append.2 (.inr (hw y hy))) hn) hl]
 | .ref q,h,hl=>by rw [PV.mapW,zDI q h hl]
 | .box q,h,hl=>by rw [PV.mapW,zDI q h hl]
 | .lock q,h,hl=>by rw [PV.mapW,zDI q h hl]
 | .addr ..,h,_=>h _ rfl (fun _ h=>h) (fun _ _=>by simp)
 | .bor ..,h,_=>h _ rfl (fun _ h=>h) (fun _ _=>by simp)
 | .bsl ..,h,_=>h _ rfl (fun _ h=>h) (fun _ _=>by simp)
 | .bmap ..,h,_=>h _ rfl (fun _ h=>h) (fun _ _=>by simp)
 | .yld ..,_,_=>rfl
 | .log ..,_,hl=>hl _ _
 | .bad,_,_=>rfl
 | .und,_,_=>rfl
 | .int ..,_,_=>rfl
 | .bool ..,_,_=>rfl
 | .nilp,_,_=>rfl
 | .nilf,_,_=>rfl
 | .nilm,_,_=>rfl
 | .nn,_,_=>rfl
 | .nils _,_,_=>rfl
 | .sl _,_,_=>rfl
 | .own ..,_,_=>rfl
 | .map _,_,_=>rfl
 | .omap _,_,_=>rfl
theorem zEw {f:PV→PV}:∀ ps:List PV,(∀ a,a.isWay=true→(∀ x∈a.ways,x∈zBn ps)→(∀ xs k,a ≠ .log xs k)→f a=a)→(∀ xs k,f (.log xs k) = .log xs k)→zCC f ps=ps
 | [],_,_=>rfl
 | p::ps,h,hl=>by
  rw [zCC,zDI p (fun x hx hw hn=>h x hx (fun y hy=>List.mem_append.2 (.inl (hw y hy))) hn) hl,zEw ps (fun x hx hw hn=>h x hx (fun y hy=>List.mem_append.2 (.inr (hw y hy))) hn) hl]
end
theorem zL0 {p:PV} {x:Nat×zAO}:∀ {ps:List PV},p∈ps→x∈p.ways→x∈zBn ps
 | y::ys,h,hx=>by
  simp only [zBn,List.mem_append]
  rcases List.mem_cons.1 h with rfl | hm
  ·exact .inl hx
  ·exact .inr (zL0 hm hx)
theorem zRY {r:Nat} {p:PV} (h:∀ x∈p.ways,x.1≠r):p.mapW (lose r [])=p:=by
 refine zDI p (fun a ha hw hn=>?_) (fun _ _=>rfl)
 have key:∀ r',(∀ x∈a.ways,x.1=r')→a.ways≠[]→Nat.beq r' r=false:=by
  intro r' h1 h2
  cases hb:Nat.beq r' r with
  | false=>rfl
  | true =>
   have hr:=Nat.eq_of_beq_eq_true hb
   cases hy:a.ways with
   | nil=>exact absurd hy h2
   | cons z zs =>
    have hz:z∈a.ways:=by rw [hy];simp
    exact absurd ((h1 z hz).trans hr) (h z (hw z hz))
 cases a<;>first | (cases ha;done) | (exact absurd rfl (hn _ _)) | skip
 all_goals
  simp only [lose]
  rw [key _ (by simp [PV.ways];done) (by simp [PV.ways])]
  rfl
section
variable {P:Program} {w0 w:World} {U Φ0 Φ:Nat→Prop} {nt:Nat} {hv:Hid} {a:Act} {e e':Env} {rv:Nat→Value} {E:Nat→PV} {L:Nat→List Nat} {o:zAC}
theorem zQz (S:St w0 U Φ0 nt hv a w e Φ rv E L) (hb:zBk E) {d:Option Nat} (hd:∀ x,d=some x→x<nt) {tk:Bool} {t:TypeId} {x:Operand} (hx:zAL nt x=true) (h:(zOP P tk d t x).run o e=some e') :
  ∃ v,(Instr.loadAt t (a.eval x)).run P w = .ok v w∧Fr w0 U Φ0 nt hv (a.put d v) w e':=by
 obtain ⟨sh,j5,h1⟩:=zBz h
 obtain ⟨p,h2,hp⟩:=zBo S hx h1
 cases tk with
 | false=>exact zOw S hb hd j5 hp h2
 | true =>
  simp only [cond_true] at h2
  split at h2
  ·rename_i r pre i c s'
   obtain ⟨b,u,q,yH,h3,h4,h5⟩:=zLC S j5 hp h2
   have S1:=S.hold (Nat.le_refl zAb) h5
   obtain ⟨e1,rv1,E1,h6,W⟩:=zOA S1 (g:=zAb) (Nat.le_refl _) (by rw [zAj];exact h4)
   obtain ⟨Φ1,L1,S2⟩:=W.st
   have:=zFw S2 hd (g:=zAb) (Nat.le_refl _) h6 (fun s hs hI=>by rw [(W.rest s hs hI).1,zAg hI];exact hb s hs)
   rw [W.val,zAj] at this
   refine ⟨u,?_,this⟩
   rw [yH]
   simp only [Instr.loadAt,Instr.sureAddr,Sem.run_bind,Sem.run_pure,Result.andThen_ok]
   exact h3
  ·exact zOw S hb hd j5 hp h2
theorem St.layPart (S:St w0 U Φ0 nt hv a w e Φ rv E L) {d i g:Nat} (hd:d<nt) (hi:i<16) (hg:zAb≤g) (hEd:∀ ps,E d ≠ .tup ps) {k:PM} (h:(lay (zBp d i) (E g) k).run o e=some e') :
  ∃ e1 E1 L1,k.run o e1=some e'∧St w0 U Φ0 nt hv a w e1 Φ (upd rv (zBp d i) (rv g)) E1 L1∧(∀ ps,E1 d ≠ .tup ps)∧E1 g = .bad∧∀ s,zAb≤s→s≠g→(∀ x∈(E s).ways,x.1≠zBp d i)→E1 s=E s:=by
 have jv:=S.small
 have yf:zBp d i<zAm:=by simp only [zBp,zAm];omega
 obtain ⟨e1,E1,L1,h1,h2,h3,h4,h5,h6,h7⟩:=zUf S yf hg h
 have qP:∀ d' ps,d'<2000000→E1 d' = .tup ps→∃ ps',E d' = .tup ps'∧ps'.length=ps.length:=by
  intro d' ps wQ hp
  have hI:d'≠zBp d i:=by simp only [zBp];omega
  rcases h4 d' hI (by simp only [zAb];omega) with h8 | h8
  ·exact ⟨ps,by rw [← h8];exact hp,rfl⟩
  ·rw [h8] at hp;exact zDV (zIg _ _) hp
 refine ⟨e1,E1,L1,h1,⟨h2,h3,S.size,S.small,fun t ht=>?_,fun d' ps j wQ hp hj=>?_,fun s ui uR=>?_,S.dfr⟩,fun ps hp=>?_,h6,fun s hs hI hw=>?_⟩
 ·rw [zAg (by simp only [zBp];omega)];exact S.tmps t ht
 ·obtain ⟨ps',h8,h9⟩:=qP d' ps (by omega) hp
  obtain ⟨jQ,vs,vG,h12⟩:=S.parts d' ps' j wQ h8 (by omega)
  have wO:d'≠d:=fun hc=>hEd ps' (hc▸h8)
  refine ⟨jQ,vs,by rw [zAg (by simp only [zBp];omega)];exact vG,?_⟩
  rw [zAg fun hc=>wO (zG2 hc jQ hi).1];exact h12
 ·rw [zAg (by omega)];exact S.hid s ui uR
 ·obtain ⟨ps',h8,_⟩:=qP d ps (by omega) hp
  exact hEd ps' h8
 ·rcases h7 s hs hI with h8 | h8
  ·exact h8
  ·rw [h8];exact zRY hw
theorem St.empty (S:St w0 U Φ0 nt hv a w e Φ rv E L) {d:Nat} (hd:d<nt):∃ L',St w0 U Φ0 nt hv a w (e.set d .bad) Φ rv (upd E d .bad) L':=by
 have jv:=S.small
 have hc:=S.conf.drop fun s=>s==d
 have hE:(fun s=>if (s==d)=true then PV.bad else E s)=upd E d .bad:=by
  funext s;by_cases hs:s=d<;>simp [upd,hs]
 rw [hE] at hc
 refine ⟨_,S.turn hc (fun s hs=>?_) (fun _ _=>rfl) (fun d' ps wQ hp=>?_)⟩
 ·rw [Env.get_set]
  by_cases gA:s=d
  ·subst gA;rw [zAj,if_pos rfl]
  ·rw [zAg gA,if_neg gA];exact S.env s hs
 ·by_cases wO:d'=d
  ·subst wO;rw [zAj] at hp;cases hp
  ·rw [zAg wO] at hp;exact ⟨ps,hp,rfl⟩
theorem St.mark (S:St w0 U Φ0 nt hv a w e Φ rv E L) (hb:zBk E) {d n:Nat} (hd:d<nt) (hn:n≤16) {vs:Array Value} (hs:vs.size=n) (hp:∀ i,i<n→vs[i]? = some (rv (zBp d i))) :
  Fr w0 U Φ0 nt hv (a.put (some d) (.tuple vs)) w (e.set d (.tup (List.replicate n .bad))):=by
 have jv:=S.small
 have hX:Rep w Φ (zA1 w rv E) (.tup (List.replicate n .bad)) (.tuple vs) []:=by
  refine ⟨vs,rfl,?_⟩
  have key:∀ (n:Nat) (us:List Value),us.length=n→zAX w Φ (zA1 w rv E) (List.replicate n .bad) us []:=by
   intro n
   induction n with
   | zero=>intro us h;rw [List.eq_nil_of_length_eq_zero h];exact ⟨rfl,rfl⟩
   | succ n ih =>
    intro us h
    match us,h with
    | u::us,h=>exact ⟨u,us,[],[],rfl,rfl,rfl,ih us (by simpa using h)⟩
  exact key n vs.toList (by simpa using hs)
 have kR:(PV.tup (List.replicate n .bad)).heavy=false:=by
  have key:∀ n,zCU (List.replicate n .bad)=false:=by
   intro n
   induction n with
   | zero=>rfl
   | succ n ih=>simp [List.replicate_succ,zCU,PV.heavy,ih]
  exact key n
 have hc:=S.conf.put (s:=d) kR hX
 have hds:d<a.tmps.size:=by rw [S.size];exact hd
 refine ⟨_,_,_,_,⟨hc,fun s hs=>?_,by simp only [Act.put,Array.size_setIfInBounds];exact S.size,S.small,fun t ht=>?_,fun d' ps j wQ jf hj=>?_,fun s ui uR=>?_,S.dfr⟩,fun g hg=>?_⟩
 ·rw [Env.get_set]
  by_cases gA:s=d
  ·subst gA;rw [zAj,if_pos rfl]
  ·rw [zAg gA,if_neg gA];exact S.env s hs
 ·rw [Act.put_tmps a hds]
  by_cases vg:t=d
  ·subst vg;simp [zAj]
  ·rw [if_neg vg,zAg vg];exact S.tmps t ht
 ·by_cases wO:d'=d
  ·subst wO
   rw [zAj] at jf
   simp only [PV.tup.injEq] at jf
   rw [← jf] at hj
   simp only [List.length_replicate] at hj
   exact ⟨by omega,vs,zAj,by rw [zAg (by simp only [zBp];omega)];exact hp j hj⟩
  ·rw [zAg wO] at jf
   obtain ⟨jQ,us,vG,h12⟩:=S.parts d' ps j wQ jf hj
   exact ⟨jQ,us,by rw [zAg wO];exact vG,by rw [zAg (by simp only [zBp];omega)];exact h12⟩
 ·rw [zAg (by simp only [zAm] at ui;omega)];exact S.hid s ui uR
 ·rw [zAg (by simp only [zAb] at hg;omega)];exact hb g hg
theorem zHQ {s d:Nat} (hd:d<nt) (hs:s<nt) {vs:Array Value}:∀ (n i:Nat) {e:Env} {rv:Nat→Value} {E:Nat→PV} {L:Nat→List Nat},St w0 U Φ0 nt hv a w e Φ rv E L→zBk E→(∀ ps,E d ≠ .tup ps)→i+n≤16→vs.size=i+n →
  (∀ j,j<i→vs[j]? = some (rv (zBp d j)))→(∀ j,i≤j→j<i+n→vs[j]? = some (rv (zBp s j)))→(zFp s d i n).run o e=some e'→Fr w0 U Φ0 nt hv (a.put (some d) (.tuple vs)) w e'
 | 0,i,e,rv,E,L,S,hb,hE,vm,yE,h1,h2,h=>by
  simp only [zFp,PM.run,Option.some.injEq] at h;subst h
  exact S.mark hb hd (by omega) (by simpa using yE) h1
 | n + 1,i,e,rv,E,L,S,hb,hE,vm,yE,h1,h2,h=>by
  have jv:=S.small
  have gm:zBp s i<zAb:=by simp only [zBp,zAb];omega
  simp only [zFp,PM.run] at h
  split at h
  ·cases h
  ·have hc:=S.conf.take (s:=zBp s i) (g:=zAb) gm (Nat.le_refl _)
   have S1:=S.turn (e':=e.set (zBp s i) .bad) hc (fun t ht=>by
    rw [zAg (by omega),Env.get_set]
    by_cases uo:t=zBp s i
    ·subst uo;rw [zAj,if_pos rfl]
    ·rw [zAg uo,if_neg uo];exact S.env t ht) (fun t ht=>zAg (by omega)) (fun d ps hd hp=>by
    rw [zAg (by simp only [zAb];omega),zAg (by simp only [zBp];omega)] at hp;exact ⟨ps,hp,rfl⟩)
   obtain ⟨e2,E2,L2,k1,S2,k2,k3,k4⟩:=S1.layPart (i:=i) (g:=zAb) hd (by omega) (Nat.le_refl _) (fun ps hp=>by
    rw [zAg (by simp only [zAb];omega),zAg (by simp only [zBp];omega)] at hp;exact hE ps hp) (by rw [zAj,S.env _ gm];exact h)
   have jH:∀ t,t<zAb→upd (upd rv zAb (rv (zBp s i))) (zBp d i) (upd rv zAb (rv (zBp s i)) zAb) t=if t=zBp d i then rv (zBp s i) else rv t:=by
    intro t ht
    by_cases vg:t=zBp d i
    ·subst vg;rw [zAj,zAj,if_pos rfl]
    ·rw [zAg vg,zAg (by omega),if_neg vg]
   have yF:∀ x j,x<nt→j<16→zBp x j<zAb:=by intro x j hx hj;simp only [zBp,zAb];omega
   refine zHQ hd hs n (i+1) S2 (fun t ht=>?_) k2 (by omega) (by omega) (fun j hj=>?_) (fun j hj1 hj2=>?_) k1
   ·by_cases ye:t=zAb
    ·subst ye;exact k3
    ·rw [k4 t ht ye (by rw [zAg ye,zAg (by omega),hb t ht];simp [PV.ways]),zAg ye,zAg (by omega)];exact hb t ht
   ·rw [jH _ (yF d j hd (by omega))]
    by_cases vn:j=i
    ·subst vn;rw [if_pos rfl];exact h2 j (by omega) (by omega)
    ·rw [if_neg fun hc=>vn (zG2 hc (by omega) (by omega)).2];exact h1 j (by omega)
   ·rw [jH _ (yF s j hs (by omega)),if_neg fun hc=>by have:=(zG2 hc (by omega) (by omega)).2;omega]
    exact h2 j (by omega) (by omega)
theorem zUu (S:St w0 U Φ0 nt hv a w e Φ rv E L) (hb:zBk E) {d:Option Nat} (hd:∀ x,d=some x→x<nt) {t:TypeId} {x:Operand} (hx:zAL nt x=true) (h:(zQJ P d t x).run o e=some e'):Fr w0 U Φ0 nt hv (a.put d (a.eval x)) w e':=by
 have gen:(opd x (put d)).run o e=some e'→Fr w0 U Φ0 nt hv (a.put d (a.eval x)) w e':=by
  intro h
  obtain ⟨p,h1,h2⟩:=zBo S hx h
  exact zAu S hb hd h1 h2
 simp only [zQJ] at h
 split at h
 ·simp only [zS9] at h
  split at h
  ·exact zAu S hb hd h (.inl ⟨rfl,rfl,rfl⟩)
  ·cases h
 ·rename_i s
  have hs:s<nt:=zBW hx
  have jv:=S.small
  have ya:(s:Nat)<zAb:=Nat.lt_of_lt_of_le hs (Nat.le_trans S.small (by decide))
  simp only [zMX] at h
  split at h
  ·rename_i ts d' _
   simp only [PM.run] at h
   split at h
   ·cases h
   ·split at h
    ·rename_i ps y5
     obtain ⟨⟨hZ,vm⟩,h1⟩:=zDe h
     simp only [PM.run] at h1
     have hE:E s = .tup ps:=by rw [S.env s ya,y5]
     have hX:=S.conf.rep s
     rw [hE] at hX
     obtain ⟨vs,uL,hr⟩:=hX
     have jy:vs.size=ps.length:=by have:=hr.length;simpa using this
     have kF:a.eval (.tmp s) = .tuple vs:=by rw [← uL];exact S.tmps s hs
     obtain ⟨L',S1⟩:=S.empty (hd d' rfl)
     rw [kF]
     refine zHQ (vs:=vs) (hd d' rfl) hs ts.size 0 S1 (fun g hg=>?_) (fun ps hp=>by rw [zAj] at hp;cases hp) (by omega) (by omega) (fun j hj=>by omega) (fun j _ hj=>?_) h1
     ·rw [zAg (by have:=hd d' rfl;simp only [zAb] at hg;omega)];exact hb g hg
     ·obtain ⟨_,us,g1,g2⟩:=S.parts s ps j hs hE (by omega)
      rw [uL] at g1;cases g1;exact g2
    ·cases h
  ·exact gen h
 ·exact gen h
theorem zEW {d:Nat} (hd:d<nt) {vs:Array Value}:∀ (ps:List PV) (i:Nat) {e:Env} {rv:Nat→Value} {E:Nat→PV} {L:Nat→List Nat},St w0 U Φ0 nt hv a w e Φ rv E L→(∀ ps,E d ≠ .tup ps)→i+ps.length≤16→vs.size=i+ps.length →
  (∀ j p,ps[j]? = some p→E (zAb+i+j)=p∧vs[i+j]? = some (rv (zAb+i+j)))→(∀ g,zAb≤g→(∀ j,j<ps.length→g≠zAb+i+j)→E g = .bad)→(∀ x∈zBn ps,zJy d x.1=false) →
  (∀ j,j<i→vs[j]? = some (rv (zBp d j)))→(zEQ d i ps .ok).run o e=some e'→Fr w0 U Φ0 nt hv (a.put (some d) (.tuple vs)) w e'
 | [],i,e,rv,E,L,S,hE,vm,yE,hp,hb,hw,h1,h=>by
  simp only [zEQ,PM.run,Option.some.injEq] at h;subst h
  exact S.mark (fun g hg=>hb g hg (by simp)) hd (by simpa using vm) (by simpa using yE) h1
 | p :: ps,i,e,rv,E,L,S,hE,vm,yE,hp,hb,hw,h1,h=>by
  have jv:=S.small
  simp only [List.length_cons] at vm yE
  obtain ⟨q1,q2⟩:=hp 0 p rfl
  simp only [Nat.add_zero] at q1 q2
  simp only [zEQ] at h
  rw [← q1] at h
  obtain ⟨e2,E2,L2,k1,S2,k2,k3,k4⟩:=S.layPart (i:=i) (g:=zAb+i) hd (by omega) (by omega) hE h
  have hvd:zBp d i<zAb:=by simp only [zBp,zAb];omega
  have hinp:∀ j,j<16→zJy d (zBp d j)=true:=by
   intro j hj
   simp only [zJy,Bool.and_eq_true]
   exact ⟨Nat.ble_eq_true_of_le (by simp only [zBp];omega),Nat.ble_eq_true_of_le (by simp only [zBp];omega)⟩
  have hkeep:∀ j p',ps[j]? = some p'→E2 (zAb+(i+1)+j)=p':=by
   intro j p' hj
   obtain ⟨q3,_⟩:=hp (j+1) p' (by simpa using hj)
   have e1:zAb+i+(j+1)=zAb+(i+1)+j:=by omega
   rw [e1] at q3
   rw [k4 _ (by omega) (by omega) (fun x hx hc=>?_),q3]
   rw [q3] at hx
   have:=hw x (by
    simp only [zBn,List.mem_append]
    exact .inr (zL0 (List.mem_of_getElem? hj) hx))
   rw [hc,hinp i (by omega)] at this;cases this
  refine zEW hd ps (i+1) S2 k2 (by omega) (by omega) (fun j p' hj=>⟨hkeep j p' hj,?_⟩) (fun g hg hI=>?_) (fun x hx=>hw x (by simp [zBn,hx])) (fun j hj=>?_) k1
  ·obtain ⟨_,q4⟩:=hp (j+1) p' (by simpa using hj)
   have e1:zAb+i+(j+1)=zAb+(i+1)+j:=by omega
   have e2:i+(j+1)=i+1+j:=by omega
   rw [e1,e2] at q4
   rw [zAg (by omega)];exact q4
  ·by_cases hgi:g=zAb+i
   ·subst hgi;exact k3
   ·have vI:E g = .bad:=hb g hg fun j hj hc=>by
     cases j with
     | zero=>exact hgi (by simpa using hc)
     | succ j=>exact hI j (by simpa using hj) (by omega)
    rw [k4 g hg hgi (by rw [vI];simp [PV.ways]),vI]
  ·by_cases vn:j=i
   ·subst vn;rw [zAj];exact q2
   ·rw [zAg fun hc=>vn (zG2 hc (by omega) (by omega)).2];exact h1 j (by omega)
end
end Go.Eng
namespace Go.Eng
open Go
section
variable {P:Program} {w0 w:World} {U Φ0 Φ:Nat→Prop} {nt:Nat} {hv:Hid} {a:Act} {e e':Env} {rv:Nat→Value} {E:Nat→PV} {L:Nat→List Nat} {o:zAC} {A:Al}
theorem zOO {r:Nat} {pre:zAO} {z lo n i:Nat} {sh:Option Nat} {v:Value} (hp:Rep w Φ (zA1 w rv E) (.bor r pre z lo n) v []) (yF:i<n) :
  ∃ b cap,v = .slice (some b) n cap∧b.spot=none∧Rep w Φ (zA1 w rv E) (.addr r pre (lo+i) 0 sh) (.pointer (some (b.add (i*z)))) []:=by
 obtain ⟨_,hg,⟨x,cap,rfl,yR,yX,y4⟩,hn⟩:=hp
 cases x with
 | none=>have:=yX rfl;omega
 | some b =>
  refine ⟨b,cap,rfl,y4 b rfl,rfl,hg,b.add (i*z),rfl,by rw [zBN (y4 b rfl)];rfl,fun nv np hf a' ha=>?_⟩
  have hh:np.heavy0=true:=by cases np<;>first | rfl | (simp [zA4] at ha;done)
  obtain ⟨sz,xs,h3,h4,h5⟩:=hn nv np hf hh
  subst h3;subst h4
  cases nv<;>simp only [zBH] at h5
  rename_i y l c
  cases y with
  | none=>cases ha
  | some y =>
   simp only [zBH,Value.slice.injEq,Option.some.injEq] at h5
   simp only [zA4,Option.some.injEq] at ha
   rw [← ha,zBN (y4 b rfl),h5.1.1]
   simp [zAr,Nat.add_mul,Nat.add_assoc]
theorem zIO {p:PV} (h:p.plain=true):∀ q∈p.cells,q.oneCell=true:=by
 have h0:∀ p:PV,p.plain0=true→p.oneCell=true:=by intro p h;cases p<;>first | rfl | cases h
 cases p<;>first | (intro q hq;simp only [PV.cells,List.mem_singleton] at hq;subst hq;exact h0 _ h) | skip
 rename_i cs
 intro q hq
 simp only [PV.plain,List.all_eq_true] at h
 exact h0 q (h q hq)
theorem zK7 {row:Array Value} {o:Nat} {xs ys:List Value} (h:o+xs.length+ys.length≤row.size):zBa (zBa row o xs) (o+xs.length) ys=zBa row o (xs++ys):=by
 apply Array.ext'
 simp only [zBa,List.length_append]
 rw [List.take_append_of_le_length (by simp;omega),List.take_of_length_le (by simp;omega)]
 have:List.drop (o+xs.length+ys.length) (List.take o row.toList++xs++List.drop (o+xs.length) row.toList)=List.drop (o+(xs.length+ys.length)) row.toList:=by
  rw [List.drop_append,List.drop_of_length_le (by simp;omega)]
  simp
  congr 1;omega
 rw [this];simp
theorem zLg {p:PV} (h:p.plain=true):p.heavy=false∧p.ways=[]:=by
 have h0:∀ p:PV,p.plain0=true→p.heavy=false∧p.ways=[]:=by
  intro p h
  cases p<;>first | (cases h;done) | exact ⟨rfl,rfl⟩ | skip
  simp only [PV.plain0] at h
  exact ⟨rfl,by simpa [PV.ways] using h⟩
 cases p<;>first | exact h0 _ h | skip
 rename_i cs
 simp only [PV.plain] at h
 have key:∀ cs:List PV,cs.all PV.plain0=true→zCU cs=false∧zBn cs=[]:=by
  intro cs
  induction cs with
  | nil=>intro _;exact ⟨rfl,rfl⟩
  | cons c cs ih =>
   intro h
   simp only [List.all_cons,Bool.and_eq_true] at h
   obtain ⟨h1,h2⟩:=h0 c h.1
   obtain ⟨h3,h4⟩:=ih h.2
   exact ⟨by simp [zCU,h1,h3],by simp [zBn,h2,h4]⟩
 exact key cs h
theorem zKU {r:Nat} {pre:zAO} {z lo n:Nat} {v:Value} {k:PM} (hz:0<z):∀ (ys:List PV) (us:List Value) (j:Nat) {w:World} {e:Env} {rv:Nat→Value} {E:Nat→PV} {L:Nat→List Nat},St w0 U Φ0 nt hv a w e Φ rv E L→E (zAb+2) = .bor r pre z lo n→rv (zAb+2)=v→(∀ s,zAb≤s→s≠zAb+2→E s = .bad) →
  (∀ y∈ys,y.plain=true∧y.cells.length=z)→(us.map zCa=ys.map PV.isAgg)→zAX w Φ zB6 ys us []→j+ys.length≤n→(zGc r pre (lo+j) ys k).run o e=some e' →
  ∃ w1 e1 rv1 E1 L1,k.run o e1=some e'∧St w0 U Φ0 nt hv a w1 e1 Φ rv1 E1 L1∧(∀ s,zAb≤s→s≠zAb+2→E1 s = .bad)∧(E1 (zAb+2) = .bor r pre z lo n∧rv1 (zAb+2)=v) ∧
   (ys=[]∧w1=w∨∃ b cap row,v = .slice (some b) n cap∧b.spot=none∧zEK w b.block row∧b.off+j*z+(flat us).length≤row.size∧(∀ u∈flat us,u.oneCell'=true)∧w1=w.setRow b.block (zBa row (b.off+j*z) (flat us)))
 | [],us,j,w,e,rv,E,L,S,hE,jH,hb,hy,j8,hr,hl,h=>⟨w,e,rv,E,L,h,S,hb,⟨hE,jH⟩,.inl ⟨rfl,rfl⟩⟩
 | y :: ys,us,j,w,e,rv,E,L,S,hE,jH,hb,hy,j8,hr,hl,h=>by
  obtain ⟨u,us',L1,L2,rfl,hL,kf,jP⟩:=hr
  have vd:=List.append_eq_nil_iff.1 hL.symm
  obtain ⟨rfl,rfl⟩:=vd
  simp only [List.map_cons,List.cons.injEq] at j8
  simp only [zGc] at h
  obtain ⟨uq,hyz⟩:=hy y (by simp)
  obtain ⟨kR,yp⟩:=zLg uq
  have wo:=S.conf.rep (zAb+2)
  rw [hE,jH] at wo
  have un:L (zAb+2)=[]:=wo.1
  rw [un] at wo
  obtain ⟨b,cap,hv,y1,ko⟩:=zOO (sh:=none) wo (i:=j) (by simp at hl;omega)
  have S1:=S.hold (g:=zAb) (Nat.le_refl _) (p:=y) (v:=u) (kf.mono zDf.refl (fun _ _ _ h=>h.elim) (by simp))
  have qQ:=S1.conf.rep (zAb+2)
  rw [zAg (show zAb+2≠zAb by omega),zAg (show zAb+2≠zAb by omega),zAg (show zAb+2≠zAb by omega),hE,jH,un] at qQ
  obtain ⟨b0,cap0,ur,_,vo⟩:=zOO (sh:=none) qQ (i:=j) (by simp at hl;omega)
  rw [hv] at ur
  simp only [Value.slice.injEq,Option.some.injEq] at ur
  rw [← ur.1] at vo
  obtain ⟨b',row,e1,E1,L1,yH,hsp',yC,yB,yO,h1,S2,kP,qE,hg3,jL⟩:=S1.write (g:=zAb) (Nat.le_refl _) vo (.inl (by rw [zAj];exact kR)) (by rw [zAj];exact zIO uq) (by rw [zAj,hyz];omega) (by rw [zAj,zAj];exact j8.1) (k:=zGc r pre (lo+(j+1)) ys k) (by rw [zAj];exact h)
  cases yH
  have hub:u.cells.size=z:=by
   have h1:us'.length=ys.length:=jP.length
   have:=((kf.mono (A':=zB6) zDf.refl (fun _ _ _ h=>h) (by simp)).cellsAll j8.1).length
   simpa [hyz] using this
  have j4:b.add (j*z)=⟨b.block,b.off+j*z,none⟩:=by rw [zBN y1];rfl
  rw [j4] at yC yB jL S2
  rw [zAj] at yB yO S2
  simp only at yC yB jL S2
  have hnΦ:¬ Φ b.block:=(S1.conf.own _ _ jL).2.1
  have vi:E1 (zAb+2) = .bor r pre z lo n:=by
   rw [hg3 _ (by omega) (by omega),zAg (show zAb+2≠zAb by omega),zAj,hE]
   show zDK _ _ _ _ _ _=_
   exact zJL (zKJ) kR _
  obtain ⟨w1,e2,rv2,E2,L2,k1,k2,k3,k3',k4⟩:=zKU hz ys us' (j+1) S2 vi (by rw [zAg (show zAb+2≠zAb by omega),jH]) (fun s hs hI=>by
   by_cases ya:s=zAb
   ·subst ya;exact kP
   ·exact qE s hs ya (by rw [zAg ya];exact hb s hs hI)) (fun y uJ=>hy y (by simp [uJ])) j8.2 (jP.mono (fun b' yH=>⟨yH,setRow_other w _ _ _ (fun hc:b'=b.block=>hnΦ (hc▸yH))⟩) (fun _ _ _ h=>h) (by simp)) (by simp at hl;omega) h1
  refine ⟨w1,e2,rv2,E2,L2,k1,k2,k3,k3',.inr ⟨b,cap,row,hv,y1,yC,?_⟩⟩
  have vW:flat (u::us')=u.cells.toList++flat us':=by simp [flat]
  have wk:u.cells.toList.length=z:=by simpa using hub
  rcases k4 with ⟨rfl,rfl⟩ | ⟨b2,cap2,row2,ke,_,hrow2,uX,hone2,rfl⟩
  ·have:us'=[]:=List.eq_nil_of_length_eq_zero (by have:=jP.length;simpa using this)
   subst this
   rw [vW];simp only [flat,List.flatMap_nil,List.append_nil]
   refine ⟨by rw [wk];omega,yO,?_⟩;first | rfl | trivial
  ·rw [hv] at ke
   simp only [Value.slice.injEq,Option.some.injEq] at ke
   obtain ⟨rfl,_⟩:=ke
   have jT:zEK (w.setRow b.block (zBa row (b.off+j*z) u.cells.toList)) b.block (zBa row (b.off+j*z) u.cells.toList):=by
    obtain ⟨el,yt⟩:=yC;exact ⟨el,setRow_heap w _ _ _ el _ yt⟩
   have:row2=zBa row (b.off+j*z) u.cells.toList:=by
    obtain ⟨e1,h1⟩:=jT;obtain ⟨e2,h2⟩:=hrow2
    rw [h1] at h2;cases h2;rfl
   subst this
   rw [zGz (by rw [wk];omega)] at uX
   have gB:b.off+(j+1)*z=b.off+j*z+u.cells.toList.length:=by rw [wk,Nat.add_mul];omega
   rw [gB] at uX ⊢
   refine ⟨by rw [vW,List.length_append];omega,fun x hx=>?_,?_⟩
   ·rw [vW] at hx
    rcases List.mem_append.1 hx with h | h
    ·exact yO x h
    ·exact hone2 x h
   ·rw [setRow_setRow,zK7 uX,vW]
end
end Go.Eng
namespace Go.Eng
open Go
section
variable {P:Program} {w:World}
theorem zD4 {t t2 ty el e2:TypeId} {i:TypeInfo} (ht:P.underlying t=some (.slice el)) (kq:P.underlying t2=some (.slice e2)) (hi:P.info? el=some i) {a xb:Option Addr} {sLen sCap n xc:Nat} {news:List Value}
  (ut:(Builtin.firstCells i.size n (.slice xb n xc)).run P w = .ok news.toArray w) (yB:sLen+n≤sCap) (w':World) (yK:∀ b,a=some b→(storeCells (b.add (sLen*i.size)) news).run P w = .ok () w') (kE:a=none→w'=w) :
  (Builtin.append_ #[t,t2] ty #[.slice a sLen sCap,.slice xb n xc]).run P w = .ok (.slice a (sLen+n) sCap) w':=by
 cases a with
 | none =>
  rw [kE rfl]
  simp [Builtin.append_,run_underlying ht,run_underlying kq,sizeOf,typeInfo,hi,Builtin.lenOf,yB,ut]
 | some b =>
  have:=yK b rfl
  simp [Builtin.append_,run_underlying ht,run_underlying kq,sizeOf,typeInfo,hi,Builtin.lenOf,yB,ut,this]
theorem zFB {t t2 ty el e2:TypeId} {i:TypeInfo} {z:Value} (ht:P.underlying t=some (.slice el)) (kq:P.underlying t2=some (.slice e2)) (hi:P.info? el=some i) (hz:i.zero=some z) {a xb:Option Addr} {sLen sCap n xc:Nat} {old news:List Value}
  (hold:(Builtin.firstCells i.size sLen (.slice a sLen sCap)).run P w.drew = .ok old.toArray w.drew) (ut:(Builtin.firstCells i.size n (.slice xb n xc)).run P w.drew = .ok news.toArray w.drew)
  (yB:¬ sLen+n≤sCap) (h32:sLen+n≤4294967296) (wp:i.bytes≤16384) :
  (Builtin.append_ #[t,t2] ty #[.slice a sLen sCap,.slice xb n xc]).run P w =
   .ok (.slice (some ⟨w.heap.size,0,none⟩) (sLen+n) (grownCap w (sLen+n) sCap el)) (w.drew.alloc (.cells (old.toArray++news.toArray++Builtin.zeroCells z.cells (grownCap w (sLen+n) sCap el-(sLen+n))) el)):=by
 have hgr':¬ (281474976710656<Builtin.nextslicecap (sLen+n) sCap*i.bytes):=by
  have h1:(sLen+n)*i.bytes≤4294967296*16384:=Nat.mul_le_mul h32 wp
  have:=growslice_fits (need:=sLen+n) (old:=sCap) (bytes:=i.bytes) (by omega) (by omega)
  omega
 have h63':¬ (9223372036854775807<((sLen:Int)+(n:Int))):=by omega
 simp [Builtin.append_,run_underlying ht,run_underlying kq,sizeOf,typeInfo,zeroValue,hi,hz,Builtin.lenOf,yB,h63',hgr',Question.forced,hold,ut,newRow,grownCap]
 congr 2
 apply Array.ext'
 simp [List.append_assoc]
end
section
variable {P:Program} {w0 w:World} {U Φ0 Φ:Nat→Prop} {nt:Nat} {hv:Hid} {a:Act} {e e':Env} {rv:Nat→Value} {E:Nat→PV} {L:Nat→List Nat} {o:zAC}
structure Listed (w:World) (Φ:Nat→Prop) (v:Value) (ys:List PV) (us:List Value) (Ly:List Nat):Prop where
 val:∃ xb xc,v = .slice xb ys.length xc∧∀ sz,(∀ y∈ys,y.cells.length=sz)→∀ (P:Program) (w1:World),(∀ t,w1.cell? t=w.cell? t)→(Builtin.firstCells sz ys.length v).run P w1 = .ok (flat us).toArray w1
 reps:zAX w Φ zB6 ys us Ly
 size:∀ sz,(∀ y∈ys,y.cells.length=sz)→∀ u∈us,u.cells.size=sz
 agg:us.map zCa=ys.map PV.isAgg
theorem zIm {b:Addr} {n xc sz:Nat} {us:List Value} (y1:b.spot=none) {row:Array Value} (yC:zJW w b.block row) (hl:us.length=n) (yE:∀ u∈us,u.cells.size=sz) (h:seg row b.off (n*sz)=flat us) (P:Program) (w1:World) (hw:∀ t,w1.cell? t=w.cell? t) :
  (Builtin.firstCells sz n (.slice (some b) n xc)).run P w1 = .ok (flat us).toArray w1:=by
 refine run_firstCells_some w1 sz n b n xc (flat us) (by rw [zBj yE,hl]) fun j v hj=>?_
 rw [hw]
 exact zH3 y1 yC (by rw [zBj yE,hl];exact h) j v hj
theorem zEt {v:Value} {xb:Option Addr} {xc:Nat} (hv:v = .slice xb 0 xc):Listed w Φ v [] [] []:=by
 refine ⟨⟨xb,xc,hv,fun sz _ P w1 _=>?_⟩,⟨rfl,rfl⟩,by simp,rfl⟩
 subst hv
 cases xb with
 | none=>exact run_firstCells_none w1 sz 0 0 xc
 | some b=>exact run_firstCells_some w1 sz 0 b 0 xc [] (by simp) (by simp)
theorem zFP {A:Al}:∀ {ys:List PV} {us:List Value} {Ly:List Nat},(∀ y∈ys,y.plain=true)→zAX w Φ A ys us Ly→Ly=[]
 | [],_,_,_,h=>h.2
 | y::ys,us,Ly,hp,h=>by
  obtain ⟨v,vs,L1,L2,rfl,rfl,h1,h2⟩:=h
  rw [zC9 _ _ _ (zLg (hp y (by simp))).1 h1,zFP (fun z hz=>hp z (by simp [hz])) h2];rfl
theorem zP6 {c:Array Value} {o m n:Nat} (h:m≤n):seg c o m=(seg c o n).take m:=by
 simp only [seg,List.take_take];rw [Nat.min_eq_left h]
theorem zL1 (S:St w0 U Φ0 nt hv a w e Φ rv E L) {p:PV} {v:Value} (hp:Rep w Φ (zA1 w rv E) p v []) {k:List PV→PM} (h:(zGN p k).run o e=some e'):∃ ys us Ly,(k ys).run o e=some e'∧Listed w Φ v ys us Ly:=by
  cases p<;>simp only [zGN] at h<;>try (cases h;done)
  case nils=>exact ⟨[],[],[],h,zEt hp.1⟩
  case nn =>
    obtain ⟨_,b,n,yD⟩:=hp
    exact ⟨[],[],[],h,zEt yD⟩
  case sl xs =>
    obtain ⟨_,⟨rfl,b,n,yD,_⟩ | ⟨b,n,c,us,sz,yD,y1,yP,hΦ,yC,jX,⟨ka,w7⟩,jB,hr⟩⟩:=hp
    · exact ⟨[],[],[],h,zEt yD⟩
    · have hl:us.length=xs.length:=by have:=congrArg List.length w7;simpa using this
      refine ⟨xs,us,[],h,⟨some b,n,yD,fun sz' jN P w1 hw=>?_⟩,hr,fun sz' jN u hu=>?_,w7⟩
      · by_cases hx:xs=[]
        · subst hx
          have:us=[]:=List.eq_nil_of_length_eq_zero (by simpa using hl)
          subst this;subst yD
          exact run_firstCells_some w1 sz' 0 b 0 n [] (by simp) (by simp)
        · obtain ⟨y,ys,rfl⟩:=List.exists_cons_of_ne_nil hx
          have:sz'=sz:=by rw [← jN y (by simp),jX y (by simp)]
          subst this;subst yD
          exact zIm y1 yC hl ka jB P w1 hw
      · cases xs with
        | nil => have h0:us=[]:=List.eq_nil_of_length_eq_zero (by simpa using hl)
                 rw [h0] at hu;cases hu
        | cons y ys=>rw [ka u hu,← jN y (by simp),jX y (by simp)]
  case bor r pre z lo n =>
    obtain ⟨_,hr,_,hn⟩:=hp
    obtain ⟨q,hq,h1⟩:=zBB h
    split at h1
    · rename_i sz xs
      obtain ⟨yP,h2⟩:=zAF h1
      have yP:=Nat.le_of_ble_eq_true yP
      rw [← S.env r hr] at hq
      obtain ⟨nv,Li,hf,_,hX⟩:=zBG (zBT (S.conf.rep r)) hq
      obtain ⟨sz2,xs2,g1,g2,g3⟩:=hn nv _ hf rfl
      cases g1;subst g2
      obtain ⟨q1,q2,q3⟩ | ⟨x,m,c,us,M,q0,q1,q2,q3,q4,q5,q6,⟨q7,q7'⟩,q8,q9⟩:=hX
      · subst q1;subst q3
        have kL:n=0:=by simp at yP;omega
        subst kL
        simp only [zBH] at g3
        refine ⟨_,[],[],h2,?_⟩
        simp only [List.drop_nil,List.take_nil]
        exact zEt g3.1
      · subst q1
        simp only [zBH] at g3
        obtain ⟨yD,yR⟩:=g3
        have jA:us.length=xs.length:=by have:=congrArg List.length q7';simpa using this
        obtain ⟨Ly,_,wa⟩:=zGy q9 lo n
        have hZ:((xs.drop lo).take n).length=n:=by simp;omega
        have qR:((us.drop lo).take n).length=n:=by simp;omega
        refine ⟨_,(us.drop lo).take n,Ly,h2,⟨_,_,by rw [hZ];exact yD,fun sz' jN P w1 hw=>?_⟩,wa,fun sz' jN u hu=>?_,zAX.map_isAgg q7' lo n⟩
        · rw [hZ,yD]
          by_cases kL:n=0
          · subst kL
            simp only [List.take_zero]
            exact run_firstCells_some w1 sz' 0 _ 0 _ [] (by simp) (by simp)
          · have:sz'=z:=by
              cases jX:(xs.drop lo).take n with
              | nil=>rw [jX] at hZ;simp at hZ;omega
              | cons y ys =>
                have hy:y∈(xs.drop lo).take n:=by rw [jX];simp
                rw [← jN y hy,q6 y (List.mem_of_mem_drop (List.mem_of_mem_take hy))]
            subst this
            exact zIm (b:=zAr x (lo*sz')) rfl q4.any qR (fun u hu=>q7 u (List.mem_of_mem_drop (List.mem_of_mem_take hu))) (zIf q7 jA q8 yP) P w1 hw
        · cases jX:(xs.drop lo).take n with
          | nil =>
            rw [jX] at hZ
            have h0:(us.drop lo).take n=[]:=List.eq_nil_of_length_eq_zero (by rw [qR];simpa using hZ.symm)
            rw [h0] at hu;cases hu
          | cons y ys =>
            have hy:y∈(xs.drop lo).take n:=by rw [jX];simp
            rw [q7 u (List.mem_of_mem_drop (List.mem_of_mem_take hu)),← jN y hy,q6 y (List.mem_of_mem_drop (List.mem_of_mem_take hy))]
    · cases h1
  case bsl r pre i c sz ag n =>
    obtain ⟨_,hr,b,cap,yD,yR,y1,hn⟩:=hp
    simp only [PM.run] at h
    split at h
    · rename_i g cs hq
      rw [← S.env r hr] at hq
      obtain ⟨nv,np,ad,us,h1,h2,h3,h4,h5,h6⟩:=S.conf.cells hr hq
      have:=hn nv np h1 ad h2;subst this
      obtain ⟨hc,h7⟩:=zAF h
      simp only [Bool.and_eq_true,zCg] at hc
      obtain ⟨⟨yN,qm⟩,uq⟩:=hc
      have yN:=Nat.eq_of_beq_eq_true yN
      have hw0:∀ (cs:List PV),cs.all (fun q=>q.plain0)=true→zBn cs=[]:=by
        intro cs
        induction cs with
        | nil=>intro _;rfl
        | cons c cs ih =>
          intro h
          simp only [List.all_cons,Bool.and_eq_true] at h
          have vV:c.ways=[]:=by
            have h0:=h.1
            cases c<;>first | (cases h0;done) | rfl | skip
            simpa [PV.plain0,PV.ways] using h0
          simp [zBn,vV,ih h.2]
      have vX:zAX w Φ zB6 cs us []:=h6.ways _ _ _ fun a v hw hx ha=>by
        rw [hw0 cs uq] at hx
        have h1:=zI9 hw ha
        cases uj:a.ways with
        | nil=>exact absurd uj h1
        | cons z zs=>have:=hx z (by rw [uj];simp);cases this
      obtain ⟨us',q1,q2,q3,q4,q5⟩:=zFX (ag:=ag) (sz:=sz) (fun a v _ h=>h.elim) n cs us yN (fun j8=>by
        simp only [j8,Bool.false_or,Bool.and_eq_true] at qm
        exact ⟨Nat.eq_of_beq_eq_true qm.1,fun q hq=>List.all_eq_true.1 qm.2 q hq⟩) vX
      have hZ:=zDR ag sz n cs
      refine ⟨_,us',[],h7,⟨some b,cap,by rw [hZ];exact yD,fun sz' jN P w1 hw=>?_⟩,q1,fun sz' jN u hu=>?_,q4⟩
      · rw [hZ,yD,q2]
        by_cases kL:n=0
        · subst kL
          have:us=[]:=List.eq_nil_of_length_eq_zero (by rw [h4];simp)
          subst this
          exact run_firstCells_some w1 sz' 0 b 0 cap [] (by simp) (by simp)
        · have:sz'=sz:=by
            cases jX:zCf ag sz n cs with
            | nil=>rw [jX] at hZ;simp at hZ;omega
            | cons y ys =>
              have hy:y∈zCf ag sz n cs:=by rw [jX];simp
              rw [← jN y hy,q5 y hy]
          subst this
          exact run_firstCells_some w1 sz' n b n cap us h4 (fun j v hj=>by rw [hw];exact h5 j v hj)
      · cases jX:zCf ag sz n cs with
        | nil =>
          have jA:us'.length=(zCf ag sz n cs).length:=q1.length
          rw [jX] at jA
          have h0:us'=[]:=List.eq_nil_of_length_eq_zero (by simpa using jA)
          rw [h0] at hu;cases hu
        | cons y ys =>
          have hy:y∈zCf ag sz n cs:=by rw [jX];simp
          rw [q3 u hu,← jN y hy,q5 y hy]
    · cases h
theorem zSo (S:St w0 U Φ0 nt hv a w e Φ rv E L) {g:Nat} (hg:zAb≤g) (uT:E g = .bad) {x:Operand} (hx:zAL nt x=true) {k:List PV→PM} (h:(zNh x k).run o e=some e') :
  ∃ e1 rv1 E1 L1 ys us Ly,(k ys).run o e1=some e'∧St w0 U Φ0 nt hv a w e1 Φ rv1 E1 L1∧zV1 g rv rv1 E E1 L L1∧Listed w Φ (a.eval x) ys us Ly∧Ly.Nodup∧∀ b∈Ly,b∈L1 g:=by
 have hLg:L g=[]:=by have:=S.conf.rep g;rw [uT] at this;exact this
 have copy:∀ {p:PV},Rep w Φ (zA1 w rv E) p (a.eval x) []→(zGN p fun xs=>if xs.all (fun x=>x.plain) then k xs else .fail).run o e=some e' →
   ∃ e1 rv1 E1 L1 ys us Ly,(k ys).run o e1=some e'∧St w0 U Φ0 nt hv a w e1 Φ rv1 E1 L1∧zV1 g rv rv1 E E1 L L1∧Listed w Φ (a.eval x) ys us Ly∧Ly.Nodup∧∀ b∈Ly,b∈L1 g:=by
  intro p hp h
  obtain ⟨ys,us,Ly,h1,h2⟩:=zL1 S hp h
  obtain ⟨h3,h4⟩:=zDe h1
  have:Ly=[]:=zFP (fun y hy=>List.all_eq_true.1 h3 y hy) h2.reps
  subst this
  exact ⟨e,rv,E,L,ys,us,[],h4,S,fun _ _ _=>⟨rfl,rfl,rfl⟩,h2,List.nodup_nil,by simp⟩
 cases x with
 | const v=>simp only [zNh] at h;obtain ⟨p,h1,h2⟩:=zBo S hx h;exact copy h2 h1
 | func f=>simp only [zNh] at h;obtain ⟨p,h1,h2⟩:=zBo S hx h;exact copy h2 h1
 | global f=>cases h
 | tmp t =>
  have ht:(t:Nat)<nt:=zBW hx
  have ye:(t:Nat)<zAb:=Nat.lt_of_lt_of_le ht (Nat.le_trans S.small (by decide))
  have kF:a.eval (.tmp t)=rv t:=S.tmps t ht
  simp only [zNh,PM.run] at h
  split at h
  ·cases h
  ·split at h
   ·rename_i sz xs km
    simp only [PM.run] at h
    have hE:E t = .own sz xs:=by rw [S.env t ye,km]
    have hc:=S.conf.take (s:=t) (g:=g) ye hg
    have hgt:t≠g:=by intro hc;subst hc;exact absurd ye (Nat.not_lt.2 hg)
    have S1:=S.turn (e':=e.set t .bad) hc (fun s hs=>by
     rw [zAg (by omega),Env.get_set]
     by_cases yK:s=t
     ·subst yK;rw [zAj,if_pos rfl]
     ·rw [zAg yK,if_neg yK];exact S.env s hs) (fun s hs=>zAg (by omega)) (fun d ps hd hp=>by
     rw [zAg (by simp only [zAb] at hg;omega)] at hp
     by_cases hdt:d=t
     ·subst hdt;rw [zAj] at hp;cases hp
     ·rw [zAg hdt] at hp;exact ⟨ps,hp,rfl⟩)
    have hX:=S.conf.rep t
    rw [hE] at hX
    have yW:=S.conf.nodup t
    have ku:zV1 g rv (upd rv g (rv t)) E (upd (upd E t .bad) g (E t)) L (upd (upd L t []) g (L t)):=by
     intro s hs hI
     have yK:s≠t:=by intro hc;subst hc;exact absurd ye (Nat.not_lt.2 hs)
     rw [zAg hI,zAg hI,zAg hI,zAg yK,zAg yK];exact ⟨rfl,rfl,rfl⟩
    rw [kF]
    obtain ⟨q1,q2,q3⟩ | ⟨x,m,c,us,M,q0,q1,q2,q3,q4,q5,q6,⟨q7,q7'⟩,q8,q9⟩:=hX
    ·subst q1
     exact ⟨_,_,_,_,[],[],[],h,S1,ku,zEt q3,List.nodup_nil,by simp⟩
    ·have jA:us.length=xs.length:=by have:=congrArg List.length q7';simpa using this
     rw [q0] at yW
     refine ⟨_,_,_,_,xs,us,M,h,S1,ku,⟨⟨some x,m,q1,fun sz' jN P w1 hw=>?_⟩,q9,fun sz' jN u hu=>?_,q7'⟩,(List.nodup_cons.1 yW).2,fun b hb=>by rw [zAj,q0];simp [hb]⟩
     ·rw [q1]
      cases xs with
      | nil =>
       have h0:us=[]:=List.eq_nil_of_length_eq_zero (by simpa using jA)
       subst h0
       exact run_firstCells_some w1 sz' 0 x 0 m [] (by simp) (by simp)
      | cons y ys =>
       have:sz'=sz:=by rw [← jN y (by simp),q6 y (by simp)]
       subst this
       exact zIm q2 q4.any jA q7 q8 P w1 hw
     ·cases xs with
      | nil =>
       have h0:us=[]:=List.eq_nil_of_length_eq_zero (by simpa using jA)
       rw [h0] at hu;cases hu
      | cons y ys=>rw [q7 u hu,← jN y (by simp),q6 y (by simp)]
   ·simp only [PM.run] at h
    have hv:=S.conf.view ye
    rw [S.env t ye] at hv
    exact copy (by rw [kF];exact hv) h
theorem zRn {A:Al} {w':World} {z:Value} {sz len m cap:Nat} {xs ys:List PV} {us uys:List Value} {M Ly:List Nat} (hz:z.cells.size=sz) (hZ:us.length=len) (hm:uys.length=m) (vU:xs.length=len) (kH:ys.length=m)
  (jX:∀ x∈xs,x.cells.length=sz) (qS:∀ y∈ys,y.cells.length=sz) (vp:∀ u∈us,u.cells.size=sz) (wq:∀ u∈uys,u.cells.size=sz) (j8:us.map zCa=xs.map PV.isAgg) (gC:uys.map zCa=ys.map PV.isAgg)
  (hr:zAX w' Φ zB6 xs us M) (wa:zAX w' Φ zB6 ys uys Ly) (yR:len+m≤cap) {b:Nat} (yC:zEK w' b ((flat us).toArray++(flat uys).toArray++Builtin.zeroCells z.cells (cap-(len+m)))) :
  Rep w' Φ A (.own sz (xs++ys)) (.slice (some ⟨b,0,none⟩) (len+m) cap) (b::(M++Ly)):=by
 have vW:(flat us++flat uys).length=(len+m)*sz:=by rw [List.length_append,zBj vp,zBj wq,hZ,hm,Nat.add_mul]
 refine .inr ⟨⟨b,0,none⟩,cap,_,us++uys,M++Ly,rfl,by simp [vU,kH],rfl,by simp [vU,kH,yR],yC,?_,fun x hx=>?_,⟨fun u hu=>?_,by simp [j8,gC]⟩,?_,hr.append wa⟩
 ·simp only [Array.size_append,size_zeroCells,hz]
  have h1:=congrArg (·) vW
  simp at vW
  have:(len+m)*sz+(cap-(len+m))*sz=cap*sz:=by rw [← Nat.add_mul];congr 1;omega
  simp;omega
 ·rcases List.mem_append.1 hx with h | h
  ·exact jX x h
  ·exact qS x h
 ·rcases List.mem_append.1 hu with h | h
  ·exact vp u h
  ·exact wq u h
 ·rw [zCQ,List.length_append,vU,kH]
  simp only [seg,List.drop_zero,Array.toList_append]
  rw [← vW]
  exact List.take_left
theorem zOV:∀ {ys:List PV} {us:List Value} {Ly:List Nat},zAX w Φ zB6 ys us Ly→us.map zCa=ys.map PV.isAgg→(∀ y∈ys,∀ q∈y.cells,q.oneCell=true)→∀ u∈flat us,u.oneCell'=true
 | [],us,Ly,h,_,_,u,hu=>by rw [h.1] at hu;cases hu
 | y :: ys,us,Ly,h,ha,ho,u,hu=>by
  obtain ⟨v,vs,L1,L2,rfl,rfl,h1,h2⟩:=h
  simp only [List.map_cons,List.cons.injEq] at ha
  rw [zCi] at hu
  rcases List.mem_append.1 hu with hu | hu
  ·have hc:=h1.cellsAll ha.1
   obtain ⟨j,hj⟩:=List.getElem?_of_mem hu
   have ja:j<y.cells.length:=by rw [← hc.length];exact (List.getElem?_eq_some_iff.1 hj).1
   obtain ⟨v',La,Li',Lb,yD,_,j2,_⟩:=hc.split (i:=j) (List.getElem?_eq_getElem ja)
   rw [hj] at yD;cases yD
   exact zB1 (fun a v _ h=>h.elim) j2 (ho y (by simp) _ (List.getElem_mem ja))
  ·exact zOV h2 ha.2 (fun z hz=>ho z (by simp [hz])) u hu
theorem St.made (S:St w0 U Φ0 nt hv a w e Φ rv E L) (hb:∀ s,zAb+3≤s→E s = .bad) {d:Option Nat} (hd:∀ x,d=some x→x<nt) {w':World} {p:PV} {v:Value} {Lp:List Nat} (hr:∀ A:Al,Rep w' Φ A p v Lp) (uK:Lp.Nodup)
  (ho:∀ b∈Lp,(∃ t,zAb≤t∧t<zAb+3∧b∈L t)∨(w.heap.size≤b∧b<w'.heap.size)) (hw:w.heap.size≤w'.heap.size)
  (hk:∀ b,b<w.heap.size→(∀ t,zAb≤t→t<zAb+3→b∉L t)→w'.heap[b]? = w.heap[b]?) (uH:w'.os=w.os∧w'.tape=w.tape∧w'.output=w.output) (h:(put d p).run o e=some e') :
  Fr w0 U Φ0 nt hv (a.put d v) w' e':=by
 have hG:∀ s,decide (zAb≤s∧s<zAb+3)=true↔zAb≤s∧s<zAb+3:=fun s=>decide_eq_true_iff
 have hc:=S.conf.make (w':=w') (fun s=>decide (zAb≤s∧s<zAb+3)) (fun s hs=>((hG s).1 hs).1) (g:=zAb+3) (by omega) (fun A _=>hr A) uK
  (fun b hb=>(ho b hb).imp (fun ⟨t,h1,h2,h3⟩=>⟨t,h3,(hG t).2 ⟨h1,h2⟩⟩) id) hw
  (fun b hb hn=>hk b hb fun t h1 h2 h3=>by have:=hn t h3;rw [(hG t).2 ⟨h1,h2⟩] at this;cases this) uH
 have S1:=S.turn (e':=e) hc (fun s hs=>by
  rw [zAg (by omega)]
  have:decide (zAb≤s∧s<zAb+3)=false:=decide_eq_false (by omega)
  simp only [this,Bool.false_eq_true,if_false];exact S.env s hs) (fun s hs=>zAg (by omega)) (fun d ps hd hp=>by
  rw [zAg (by simp only [zAb];omega)] at hp
  have:decide (zAb≤d∧d<zAb+3)=false:=decide_eq_false (by simp only [zAb];omega)
  simp only [this,Bool.false_eq_true,if_false] at hp;exact ⟨ps,hp,rfl⟩)
 have:=zFw S1 hd (g:=zAb+3) (by omega) (by rw [zAj];exact h) (fun s hs hI=>by
  rw [zAg hI]
  by_cases h3:s<zAb+3
  ·have:decide (zAb≤s∧s<zAb+3)=true:=(hG s).2 ⟨hs,h3⟩
   simp [this]
  ·have:decide (zAb≤s∧s<zAb+3)=false:=decide_eq_false (by omega)
   simp only [this,Bool.false_eq_true,if_false];exact hb s (by omega))
 rwa [zAj] at this
theorem St.regrown (S:St w0 U Φ0 nt hv a w e Φ rv E L) (hb:∀ s,zAb+3≤s→E s = .bad) {d:Option Nat} (hd:∀ x,d=some x→x<nt) {z:Value} {el:TypeId} {sz len m cap:Nat} {xs ys:List PV} {us uys:List Value} {M Ly:List Nat} (hz:z.cells.size=sz) (hZ:us.length=len) (hm:uys.length=m) (vU:xs.length=len) (kH:ys.length=m)
  (jX:∀ x∈xs,x.cells.length=sz) (qS:∀ y∈ys,y.cells.length=sz) (vp:∀ u∈us,u.cells.size=sz) (wq:∀ u∈uys,u.cells.size=sz) (j8:us.map zCa=xs.map PV.isAgg) (gC:uys.map zCa=ys.map PV.isAgg)
  (hr:zAX w Φ zB6 xs us M) (wa:zAX w Φ zB6 ys uys Ly) (yR:len+m≤cap) (qT:∀ b∈M,b∈L (zAb+1)) (qU:∀ b∈Ly,b∈L zAb) (gp:M.Nodup) (hLn:Ly.Nodup) (h:(put d (.own sz (xs++ys))).run o e=some e') :
  Fr w0 U Φ0 nt hv (a.put d (.slice (some ⟨w.heap.size,0,none⟩) (len+m) cap)) (w.drew.alloc (.cells ((flat us).toArray++(flat uys).toArray++Builtin.zeroCells z.cells (cap-(len+m))) el)) e':=by
 have hold:∀ t,t<w.heap.size→(w.drew.alloc (.cells ((flat us).toArray++(flat uys).toArray++Builtin.zeroCells z.cells (cap-(len+m))) el)).heap[t]? = w.heap[t]?:=fun t ht=>by
  show (w.heap.push _)[t]? = _
  rw [Array.getElem?_push,if_neg (by omega)]
 have hΦ:zDf w (w.drew.alloc (.cells ((flat us).toArray++(flat uys).toArray++Builtin.zeroCells z.cells (cap-(len+m))) el)) Φ Φ:=fun t ht=>⟨ht,hold t (S.conf.frz t ht).1⟩
 refine S.made hb hd (Lp:=w.heap.size::(M++Ly)) (fun A=>zRn hz hZ hm vU kH jX qS vp wq j8 gC (hr.mono hΦ (fun _ _ _ h=>h) fun b hb=>hold b (S.conf.own _ b (qT b hb)).1) (wa.mono hΦ (fun _ _ _ h=>h) fun b hb=>hold b (S.conf.own _ b (qU b hb)).1) yR ⟨el,?_⟩) ?_ (fun b hb=>?_) ?_ (fun b hb _=>hold b hb) ⟨rfl,rfl,rfl⟩ h
 ·show (w.heap.push _)[w.heap.size]? = _
  simp
 ·refine List.nodup_cons.2 ⟨fun hm=>?_,?_⟩
  ·rcases List.mem_append.1 hm with hm | hm
   ·exact absurd (S.conf.own _ _ (qT _ hm)).1 (Nat.lt_irrefl _)
   ·exact absurd (S.conf.own _ _ (qU _ hm)).1 (Nat.lt_irrefl _)
  ·rw [List.nodup_append]
   exact ⟨gp,hLn,fun x hx y hy e=>S.conf.disj (zAb+1) zAb (by omega) x (qT x hx) (e▸qU y hy)⟩
 ·rcases List.mem_cons.1 hb with rfl | hb
  ·exact .inr ⟨Nat.le_refl _,by show _<(w.heap.push _).size;simp⟩
  ·rcases List.mem_append.1 hb with hb | hb
   ·exact .inl ⟨zAb+1,by omega,by omega,qT b hb⟩
   ·exact .inl ⟨zAb,by omega,by omega,qU b hb⟩
 ·show _≤(w.heap.push _).size
  simp
theorem zM5 (S1:St w0 U Φ0 nt hv a w e Φ rv E L) (yc:∀ s,zAb≤s→s≠zAb→s≠zAb+2→E s = .bad) {d:Option Nat} (hd:∀ x,d=some x→x<nt) {t t2 ty el e2:TypeId} {i:TypeInfo} {vx vy:Value} {r:Nat} {pre:zAO} {zz lo n s sz:Nat} {xs ys:List PV} {uys:List Value} {Ly:List Nat} {xb:Option Addr} {xc:Nat}
  (hE2:E (zAb+2) = .bor r pre zz lo n) (hrv2:rv (zAb+2)=vx) (gD:(Builtin.firstCells sz ys.length (.slice xb ys.length xc)).run P w = .ok (flat uys).toArray w) (jO:zAX w Φ zB6 ys uys Ly) (kA:∀ y∈ys,y.cells.length=sz) (kB:uys.map zCa=ys.map PV.isAgg)
  (hq:zAz (E r).unlock pre=some (.own s xs)) (hs:s=sz) (ht:P.underlying t=some (.slice el)) (kq:P.underlying t2=some (.slice e2)) (hi:P.info? el=some i) (yn:i.size=sz) (vJ:vy = .slice xb ys.length xc) (uW:Nat.beq (lo+n) xs.length=false)
  (h:(zK0 d r pre zz lo n s xs ys).run o e=some e'):∃ v w',(Builtin.append_ #[t,t2] ty #[vx,vy]).run P w = .ok v w'∧Fr w0 U Φ0 nt hv (a.put d v) w' e':=by
 subst hs
 obtain ⟨hc,h1⟩:=zAF h
 simp only [Bool.and_eq_true,List.all_eq_true] at hc
 obtain ⟨⟨⟨c1,c2⟩,c3⟩,c4⟩:=hc
 have c1:=zBW c1
 have c2:=Nat.eq_of_beq_eq_true c2
 have c3:=Nat.le_of_ble_eq_true c3
 subst c2
 have qU:Ly=[]:=zFP c4 jO
 subst qU
 have h2:=S1.conf.drop fun s=>s==zAb
 have S2:=S1.turn (e':=e) h2 (fun s hs=>by
  have:(s==zAb)=false:=by simp;omega
  simp only [this,Bool.false_eq_true,if_false];exact S1.env s hs) (fun _ _=>rfl) (fun d ps hd hp=>by
  have:(d==zAb)=false:=by simp only [zAb,beq_eq_false_iff_ne];omega
  simp only [this,Bool.false_eq_true,if_false] at hp;exact ⟨ps,hp,rfl⟩)
 have hp:=S2.conf.rep (zAb+2)
 have qE:((zAb+2:Nat)==zAb)=false:=by simp
 simp only [qE,Bool.false_eq_true,if_false] at hp
 rw [hE2,hrv2] at hp
 obtain ⟨_,hr,⟨b,cap,yD,yR,wS,kb⟩,hn⟩:=hp
 have ju:(r==zAb)=false:=by simp;omega
 obtain ⟨nv,Li,hf,_,hX⟩:=zBG (zBT (S2.conf.rep r)) (by simp only [ju,Bool.false_eq_true,if_false];exact hq)
 obtain ⟨sz2,xs2,g1,g2,g3⟩:=hn nv _ hf rfl
 cases g1
 obtain ⟨q1,q2,q3⟩ | ⟨x,m,c,us,M,q0,q1,q2,q3,q4,q5,q6,⟨q7,q7'⟩,q8,q9⟩:=hX
 ·subst q1
  have:lo+n=0:=by simp at c3;omega
  rw [this] at uW;cases uW
 ·subst q1
  simp only [zBH] at g3
  obtain ⟨g3,g4⟩:=g3
  have hZ:lo+n+ys.length≤m:=by omega
  have hw:Rep w Φ (zA1 w rv fun s=>if (s==zAb)=true then .bad else E s) (.bor r pre zz lo (n+ys.length)) (.slice (some (zAr x (lo*zz))) (n+ys.length) (m-lo)) []:=by
   refine ⟨rfl,hr,⟨_,_,rfl,by omega,by simp,fun b hb=>by simp only [Option.some.injEq] at hb;rw [← hb];rfl⟩,fun nv' np' yk hh=>?_⟩
   rw [hf] at yk
   cases yk
   exact ⟨_,_,rfl,rfl,rfl,by omega⟩
  have S3:=S2.hold (g:=zAb+2) (by omega) hw
  obtain ⟨w1,e1,rv1,E1,L1,k1,S4,k3,⟨k5,k6⟩,k4⟩:=zKU (z:=zz) (lo:=lo) (n:=n+ys.length) (v := .slice (some (zAr x (lo*zz))) (n+ys.length) (m-lo)) c1 ys uys n S3 zAj zAj (fun s hs hI=>by
   rw [zAg hI]
   by_cases ya:s=zAb
   ·subst ya;simp
   ·have:(s==zAb)=false:=by simpa using ya
    simp only [this,Bool.false_eq_true,if_false];exact yc s hs ya hI) (fun y hy=>⟨c4 y hy,kA y hy⟩) kB jO (Nat.le_refl _) h1
  have yM:=zFw S4 hd (g:=zAb+2) (by omega) (by rw [k5];exact k1) k3
  rw [k6] at yM
  refine ⟨_,w1,?_,yM⟩
  rw [g3,vJ]
  have yB:n+ys.length≤m-lo:=by omega
  rcases k4 with ⟨rfl,rfl⟩ | ⟨b',cap',row,ke,y1,yC,hrm,yO,rfl⟩
  ·have jA:uys=[]:=List.eq_nil_of_length_eq_zero (by have:=jO.length;simpa using this)
   subst jA
   exact zD4 (i:=i) ht kq hi (by rw [yn];exact gD) yB w1 (fun b hb=>by simp [storeCells,flat]) (by simp)
  ·simp only [Value.slice.injEq,Option.some.injEq] at ke
   obtain ⟨rfl,_,_⟩:=ke
   obtain ⟨et,jh⟩:=yC
   have yK:=run_storeCells_at (P:=P) (zAr x (lo*zz)).block ((zAr x (lo*zz)).off+n*zz) et (flat uys) 0 row w jh (by simpa using hrm) yO
   simp only [Nat.add_zero] at yK
   have gE:(zAr x (lo*zz)).add (n*zz)=⟨(zAr x (lo*zz)).block,(zAr x (lo*zz)).off+n*zz,none⟩:=by rw [zBN rfl];rfl
   exact zD4 (i:=i) ht kq hi (by rw [yn];exact gD) yB _ (fun b hb=>by cases hb;rw [yn,gE];exact yK) (by simp)
theorem zQO (S:St w0 U Φ0 nt hv a w e Φ rv E L) (hb:zBk E) {d:Option Nat} (hd:∀ x,d=some x→x<nt) {t t2 ty:TypeId} {x y:Operand} (hx:zAL nt x=true) (hy:zAL nt y=true)
  (h:(zBm P d .append [t,t2] [x,y]).run o e=some e'):∃ v w',(Builtin.append_ #[t,t2] ty #[a.eval x,a.eval y]).run P w = .ok v w'∧Fr w0 U Φ0 nt hv (a.put d v) w' e':=by
 simp only [zBm] at h
 cases j7:(zBM P t2).isNone with
 | true=>rw [j7] at h;cases h
 | false =>
 rw [j7] at h;simp only [cond_false] at h
 have kq:∃ e2,P.underlying t2=some (.slice e2):=by
  cases he:zBM P t2 with
  | none=>rw [he] at j7;cases j7
  | some e2=>exact ⟨e2,zCr he⟩
 obtain ⟨e2,kq⟩:=kq
 split at h
 ·rename_i sz by_ z yE wp hzz
  obtain ⟨⟨hby16,kS⟩,h1⟩:=zDe h
  cases yt:zBM P t with
  | none=>rw [yt] at yE;cases yE
  | some el =>
   rw [yt] at yE wp hzz
   simp only [Option.bind_some] at yE wp hzz
   have ht:=zCr yt
   obtain ⟨i,hi,yn⟩:=zCc yE
   have hib:i.bytes=by_:=by simp only [zHK,hi,Option.map_some,Option.some.injEq] at wp;exact wp
   obtain ⟨i2,z0,vR,kN,_,kM⟩:=zDH hzz
   rw [hi] at vR;cases vR
   have ws:z0.cells.size=sz:=by rw [(zB8 (w:=w) (Φ:=Φ) (A:=zB6) kM).2.1,kS]
   obtain ⟨p,h2,hp⟩:=zBo S hx h1
   have S0:=S.hold (g:=zAb+2) (by omega) hp
   obtain ⟨e1,rv1,E1,L1,ys,uys,Ly,h3,S1,ku,kT,wt,hLyg⟩:=zSo S0 (g:=zAb) (Nat.le_refl _) (by rw [zAg (show zAb≠zAb+2 by omega)];exact hb _ (Nat.le_refl _)) hy h2
   obtain ⟨⟨xb,xc,vJ,yQ⟩,jO,vq,kB⟩:=kT
   simp only [zK6] at h3
   obtain ⟨hc,h4⟩:=zAF h3
   simp only [Bool.and_eq_true] at hc
   have kA:∀ q∈ys,q.cells.length=sz:=fun q hq=>by
    have:=List.all_eq_true.1 hc.1 q hq
    simp only [Bool.and_eq_true] at this
    exact Nat.eq_of_beq_eq_true this.1
   have kw:=vq sz kA
   have vK:uys.length=ys.length:=jO.length
   have jY:=ku (zAb+2) (by omega) (by omega)
   rw [zAj,zAj,zAj] at jY
   have kz:=S1.conf.rep (zAb+2)
   rw [jY.1,jY.2.1,jY.2.2] at kz
   have kU:∀ s,zAb≤s→s≠zAb→s≠zAb+2→E1 s = .bad:=fun s hs h1 h2=>by rw [(ku s hs h1).1,zAg h2];exact hb s hs
   have yO:∀ u∈flat uys,u.oneCell'=true:=zOV jO kB fun q hq z hz=>by
    have:=List.all_eq_true.1 hc.1 q hq
    simp only [Bool.and_eq_true] at this
    exact List.all_eq_true.1 this.2 z hz
   have yc:∀ s,zAb+3≤s→E1 s = .bad:=fun s hs=>kU s (by omega) (by omega) (by omega)
   have qV:∀ t,w.drew.cell? t=w.cell? t:=fun t=>rfl
   have hfd:=yQ sz kA P w.drew qV
   have gD:=yQ sz kA P w (fun _=>rfl)
   rw [vJ] at hfd gD
   split at h4
   ·rename_i r pre zz lo n
    obtain ⟨q,hq,h5⟩:=zBB h4
    split at h5
    ·rename_i s xs
     obtain ⟨jE,h6⟩:=zAF h5
     cases uW:Nat.beq (lo+n) xs.length with
     | false =>
      rw [uW] at h6
      simp only [cond_false] at h6
      simp only [Bool.and_eq_true] at jE
      exact zM5 S1 kU hd jY.1 jY.2.1 gD jO kA kB (by rw [S1.env r kz.2.1];exact hq) (Nat.eq_of_beq_eq_true jE.1.1) ht kq hi yn vJ uW h6
     | true =>
     rw [uW] at h6
     have h7:=h6
     simp only [cond_true] at h7
     obtain ⟨gq,h8⟩:=zAF h7
     simp only [Bool.and_eq_true] at jE
     have hs:=Nat.eq_of_beq_eq_true jE.1.1
     have ji:=Nat.le_of_ble_eq_true jE.2
     have gF:=Nat.eq_of_beq_eq_true uW
     have kh:=Nat.eq_of_beq_eq_true gq
     subst hs;subst kh
     have vl:n=xs.length:=by omega
     subst vl
     obtain ⟨root,hl,hm,h9⟩:=zBP h8
     have hr:r<zAb:=kz.2.1
     have yG:=zBv hl
     rw [yG,← S1.env r hr] at hq
     rw [← S1.env r hr] at yG hm
     obtain ⟨kk1,kk2⟩:=zBD (q' := .bad) rfl rfl hm
     obtain ⟨nv,Li,g1,g2,g3,g4,g5⟩:=S1.taken (g:=zAb+1) (by omega) hr yG hq rfl hm kk1 kk2
     have jZ:zBH (a.eval x) nv s 0 xs.length:=by
      obtain ⟨_,_,_,hn⟩:=kz
      obtain ⟨s2,xs2,q1,q2,q3⟩:=hn nv _ (by rw [yG];exact g1) rfl
      cases q1;subst q2;exact q3
     obtain ⟨L2,S2,un⟩:=g5 _ nv Li g2 g3 (fun b hb => .inl hb)
     have uY:∀ t,zAb+3≤t→upd (upd E1 r root) (zAb+1) (PV.own s xs) t = .bad:=fun t ht=>by
      rw [zAg (by omega),zAg (by omega)];exact yc t ht
     have vL:∀ b∈Ly,b∈L2 zAb:=fun b hb=>by rw [un zAb (Nat.le_refl _) (by omega)];exact hLyg b hb
     have hg1r:zAb+1≠r:=by omega
     have hLi2:Rep w Φ (zA1 w (upd rv1 (zAb+1) nv) (upd (upd E1 r root) (zAb+1) (.own s xs))) (.own s xs) nv (L2 (zAb+1)):=by
      have:=S2.conf.rep (zAb+1)
      rwa [zAj,zAj] at this
     have hLiE:Li=L2 (zAb+1):=Rep.uniq _ _ _ _ g2 hLi2
     obtain ⟨q1,q2,q3⟩ | ⟨b,cap,c,us,M,q0,q1,q2,q3,q4,q5,q6,⟨q7,q7'⟩,q8,q9⟩:=g2
     ·
      subst q1;subst q3
      have ur:a.eval x = .slice none 0 0:=jZ.1
      rw [ur,vJ]
      by_cases hy0:ys.length=0
      ·have hyn:ys=[]:=List.eq_nil_of_length_eq_zero hy0
       subst hyn
       have hun:uys=[]:=List.eq_nil_of_length_eq_zero (by simpa using vK)
       subst hun
       refine ⟨_,w,zD4 (i:=i) ht kq hi (by rw [yn];exact gD) (by simp) w (by simp) (fun _=>rfl),?_⟩
       exact zAu (S2.clear.choose_spec.choose_spec.choose_spec.choose_spec.1) (S2.clear.choose_spec.choose_spec.choose_spec.choose_spec.2) hd h9 (v := .slice none (0+0) 0) (.inl ⟨rfl,rfl,rfl⟩)
      ·have yR:0+ys.length≤grownCap w (0+ys.length) 0 el:=grownCap_ge w _ _ _
       refine ⟨_,_,zFB (a:=none) (old:=[]) (news:=flat uys) ht kq hi kN (by rw [yn];exact run_firstCells_none _ _ _ _ _) (by rw [yn];exact hfd) (by omega) (by simp only [zAY,List.length_nil] at ji;omega) (by omega),?_⟩
       have:=S2.regrown uY hd (z:=z0) (el:=el) (sz:=s) (len:=0) (m:=ys.length) (xs:=[]) (us:=[]) (M:=[]) ws rfl vK rfl rfl (by simp) kA (by simp) kw rfl kB ⟨rfl,rfl⟩ jO yR (by simp) vL List.nodup_nil wt (by simpa using h9)
       simpa [flat] using this
     ·have jA:us.length=xs.length:=by have:=congrArg List.length q7';simpa using this
      subst q1
      simp only [zBH] at jZ
      have gG:zAr b (0*s)=b:=by cases b;simp_all [zAr]
      have w8:a.eval x = .slice (some b) xs.length cap:=by rw [jZ.1,gG];rfl
      have qT:∀ t∈M,t∈L2 (zAb+1):=fun t ht=>by rw [← hLiE,q0];simp [ht]
      have jL:b.block∈L2 (zAb+1):=by rw [← hLiE,q0];simp
      have gp:M.Nodup∧b.block∉M:=by rw [q0] at g3;exact ⟨(List.nodup_cons.1 g3).2,(List.nodup_cons.1 g3).1⟩
      rw [w8,vJ]
      by_cases yB:xs.length+ys.length≤cap
      ·
       have wj:(xs.length+ys.length)*s≤cap*s:=Nat.mul_le_mul_right _ yB
       rw [Nat.add_mul] at wj
       have hful:(flat uys).length=ys.length*s:=by rw [zBj kw,vK]
       have zMR:b.off+xs.length*s+(flat uys).length≤c.size:=by omega
       obtain ⟨et,jh⟩:=q4
       have yK:=run_storeCells_at (P:=P) b.block (b.off+xs.length*s) et (flat uys) 0 c w jh (by simpa using zMR) yO
       simp only [Nat.add_zero] at yK
       have gE:b.add (xs.length*s)=⟨b.block,b.off+xs.length*s,none⟩:=by rw [zBN q2];rfl
       refine ⟨_,_,zD4 (i:=i) ht kq hi (by rw [yn];exact gD) yB (w.setRow b.block (zBa c (b.off+xs.length*s) (flat uys))) (fun b' yH=>by cases yH;rw [yn,gE];exact yK) (by simp),?_⟩
       have yj:∀ t,t≠b.block→(w.setRow b.block (zBa c (b.off+xs.length*s) (flat uys))).heap[t]? = w.heap[t]?:=fun t ht=>setRow_other w _ t _ ht
       have hΦ:zDf w (w.setRow b.block (zBa c (b.off+xs.length*s) (flat uys))) Φ Φ:=fun t ht=>⟨ht,yj t fun hc=>(S2.conf.own _ _ jL).2.1 (hc▸ht)⟩
       refine S2.made uY hd (Lp:=b.block::(M++Ly)) (fun A=>?_) ?_ (fun t ht=>?_) (by rw [setRow_size];exact Nat.le_refl _) (fun t _ hn=>yj t fun hc=>hn (zAb+1) (by omega) (by omega) (hc▸jL)) ⟨rfl,rfl,rfl⟩ h9
       ·refine .inr ⟨b,cap,_,us++uys,M++Ly,rfl,by simp,q2,by simpa using yB,⟨et,setRow_heap w _ _ _ et _ jh⟩,?_,fun y hy=>?_,⟨fun u hu=>?_,by simp [q7',kB]⟩,?_,?_⟩
        ·rw [zGz zMR];exact q5
        ·rcases List.mem_append.1 hy with h | h
         ·exact q6 y h
         ·exact kA y h
        ·rcases List.mem_append.1 hu with h | h
         ·exact q7 u h
         ·exact kw u h
        ·rw [List.length_append,Nat.add_mul,zCQ,zHD (by omega) (by omega) (by omega),show b.off+xs.length*s-b.off=xs.length*s by omega,← zP6 (by omega),q8]
         have:(seg c b.off (xs.length*s+ys.length*s)).drop (xs.length*s+(flat uys).length)=[]:=by
          apply List.drop_of_length_le;simp only [seg,List.length_take];omega
         rw [this];simp
        ·exact (q9.mono hΦ (fun _ _ _ h=>h) fun t ht=>yj t fun hc=>gp.2 (hc▸ht)).append (jO.mono hΦ (fun _ _ _ h=>h) fun t ht=>yj t fun hc=>S2.conf.disj (zAb+1) zAb (by omega) _ jL (hc▸vL t ht))
       ·refine List.nodup_cons.2 ⟨fun hm=>?_,?_⟩
        ·rcases List.mem_append.1 hm with hm | hm
         ·exact gp.2 hm
         ·exact S2.conf.disj (zAb+1) zAb (by omega) _ jL (vL _ hm)
        ·rw [List.nodup_append]
         exact ⟨gp.1,wt,fun t ht y hy e=>S2.conf.disj (zAb+1) zAb (by omega) t (qT t ht) (e▸vL y hy)⟩
       ·rcases List.mem_cons.1 ht with rfl | ht
        ·exact .inl ⟨zAb+1,by omega,by omega,jL⟩
        ·rcases List.mem_append.1 ht with ht | ht
         ·exact .inl ⟨zAb+1,by omega,by omega,qT t ht⟩
         ·exact .inl ⟨zAb,by omega,by omega,vL t ht⟩
      ·have yR:xs.length+ys.length≤grownCap w (xs.length+ys.length) cap el:=grownCap_ge w _ _ _
       have hold:=zIm (n:=xs.length) (xc:=cap) q2 q4.any jA q7 q8 P w.drew qV
       refine ⟨_,_,zFB (a:=some b) (old:=flat us) (news:=flat uys) ht kq hi kN (by rw [yn];exact hold) (by rw [yn];exact hfd) yB (by simp only [zAY] at ji;omega) (by omega),?_⟩
       exact S2.regrown uY hd (z:=z0) (el:=el) (sz:=s) (len:=xs.length) (m:=ys.length) ws jA vK rfl rfl q6 kA q7 kw q7' kB q9 jO yR qT vL gp.1 wt h9
    ·cases h5
   ·rename_i zz
    obtain ⟨ji,h5⟩:=zAF h4
    have ji:=Nat.le_of_ble_eq_true ji
    have ur:a.eval x = .slice none 0 0:=kz.1
    rw [ur,vJ]
    by_cases hy0:ys.length=0
    ·have hyn:ys=[]:=List.eq_nil_of_length_eq_zero hy0
     subst hyn
     have hun:uys=[]:=List.eq_nil_of_length_eq_zero (by simpa using vK)
     subst hun
     have hf:=yQ sz (by simp) P w (fun _=>rfl)
     rw [vJ] at hf
     refine ⟨_,w,zD4 (i:=i) ht kq hi (by rw [yn];exact hf) (by simp) w (by simp) (fun _=>rfl),?_⟩
     have:=zAu (S1.clear.choose_spec.choose_spec.choose_spec.choose_spec.1) (S1.clear.choose_spec.choose_spec.choose_spec.choose_spec.2) hd h5 (v := .slice none (0+0) 0) (.inl ⟨rfl,rfl,rfl⟩)
     exact this
    ·have hL1:L1 (zAb+1)=[]:=by
      have:=S1.conf.rep (zAb+1)
      rw [kU (zAb+1) (by omega) (by omega) (by omega)] at this;exact this
     have yR:0+ys.length≤grownCap w (0+ys.length) 0 el:=grownCap_ge w _ _ _
     refine ⟨_,_,zFB (a:=none) (old:=[]) (news:=flat uys) ht kq hi kN (by rw [yn];exact run_firstCells_none _ _ _ _ _) (by rw [yn];exact hfd) (by omega) (by simp only [zAY] at ji;omega) (by omega),?_⟩
     have:=S1.regrown yc hd (z:=z0) (el:=el) (sz:=sz) (len:=0) (m:=ys.length) (xs:=[]) (us:=[]) (M:=[]) ws rfl vK rfl rfl (by simp) kA (by simp) kw rfl kB ⟨rfl,rfl⟩ jO yR (by simp) hLyg List.nodup_nil wt (by simpa using h5)
     simpa [flat] using this
   ·cases h4
 ·cases h
end
end Go.Eng
namespace Go.Eng
open Go
section
variable {P:Program} {w0 w:World} {U Φ0 Φ:Nat→Prop} {nt:Nat} {hv:Hid} {a:Act} {e e':Env} {rv:Nat→Value} {E:Nat→PV} {L:Nat→List Nat} {o:zAC}
theorem zPU (S:St w0 U Φ0 nt hv a w e Φ rv E L) (hb:zBk E) {d:Option Nat} (hd:∀ x,d=some x→x<nt) {t:TypeId} (h:(put d (.omap [])).run o e=some e') :
  ∃ v w',(Instr.makeMap t none).run P w = .ok v w'∧Fr w0 U Φ0 nt hv (a.put d v) w' e':=by
 refine ⟨.map (some w.heap.size),{w with heap:=w.heap.push (.map #[] 0)},by simp [Instr.makeMap],?_⟩
 refine S.made (p := .omap []) (v := .map (some w.heap.size)) (fun s hs=>hb s (by omega)) hd (Lp:=[w.heap.size]) (fun A=>⟨w.heap.size,#[],rfl,rfl,by simp,rfl⟩) (by simp) (fun b yH => .inr ?_) (by simp) (fun b yH _=>?_) ⟨rfl,rfl,rfl⟩ h
 ·simp only [List.mem_singleton] at yH;subst yH;exact ⟨Nat.le_refl _,by simp⟩
 ·show (w.heap.push _)[b]? = _
  rw [Array.getElem?_push,if_neg (by omega)]
theorem zGg {z:Value} {s:Nat} (hz:z.cells.size=s) {l k:Nat} {u:Value} (h:(flat (List.replicate l z))[k]? = some u):(madeCells z.cells (k+1))[k]? = some u:=by
 have hZ:(flat (List.replicate l z)).length=l*s:=by
  rw [zBj (sz:=s) (fun u hu=>by rw [List.eq_of_mem_replicate hu];exact hz)];simp
 have hk:k<l*s:=by rw [← hZ];exact (List.getElem?_eq_some_iff.1 h).1
 have hs:0<s:=Nat.pos_of_ne_zero fun h0=>by subst h0;simp at hk
 have hdm:k / s*s+k % s=k:=Nat.div_add_mod' k s
 have hq:k / s<l:=Nat.div_lt_of_lt_mul (by rw [Nat.mul_comm];exact hk)
 have hr:k % s<s:=Nat.mod_lt _ hs
 have hzc : z.cells.toList[k % s]? = some (z.cells[k % s]'(by omega)) := by simp
 have:=zDW (sz:=s) (us:=List.replicate l z) (fun u hu=>by rw [List.eq_of_mem_replicate hu];exact hz) (i:=k / s) (c:=k % s) (x:=z) (by simp [hq]) hzc
 rw [hdm,h] at this
 simp only [Option.some.injEq] at this
 subst this
 simp [madeCells,hz,getElem!_pos,hr]
theorem zOY {z:Array Value} {n m k:Nat} (hk:k<n) (hm:k<m):(madeCells z n)[k]? = (madeCells z m)[k]?:=by
 simp [madeCells,hk,hm]
theorem zML (S:St w0 U Φ0 nt hv a w e Φ rv E L) (hb:zBk E) {d:Option Nat} (hd:∀ x,d=some x→x<nt) {t:TypeId} {l c:Operand} (hl:zAL nt l=true) (hc:zAL nt c=true) (h:(zE7 P d t l c).run o e=some e') :
  ∃ v w',(Instr.makeSlice t (a.eval l) (a.eval c)).run P w = .ok v w'∧Fr w0 U Φ0 nt hv (a.put d v) w' e':=by
 obtain ⟨p,h1,hp⟩:=zBo S hl h
 obtain ⟨kl,l,rfl,vr,h2⟩:=zDZ h1
 obtain ⟨q,h3,hq⟩:=zBo S hc h2
 obtain ⟨kc,c,rfl,vV,h4⟩:=zDZ h3
 split at h4
 ·rename_i el yt
  split at h4
  ·rename_i z s by_ hz hs wp
   obtain ⟨⟨gH,ji,hb16,kS⟩,h5⟩:=zDe h4
   obtain ⟨i,zv,hi,hzv,_,kM⟩:=zDH hz
   obtain ⟨i2,vR,wT⟩:=zCc hs
   rw [hi] at vR;cases vR
   have hib:i.bytes=by_:=by simp only [zHK,hi,Option.map_some,Option.some.injEq] at wp;exact wp
   have ht:=zCr yt
   simp only [zAY] at ji
   have hbb:(i.bytes:Int)*c≤281474976710656:=by
    have h1:i.bytes*c.toNat≤16384*4294967296:=Nat.mul_le_mul (by omega) ji
    have h2:((i.bytes*c.toNat:Nat):Int)=(i.bytes:Int)*c:=by rw [Int.natCast_mul,Int.toNat_of_nonneg vV]
    omega
   have yA:=run_make (P:=P) w t el i zv ht hi hzv kl kc l c vr (by omega) hbb (by omega)
   obtain ⟨vX,vH,kd,_⟩:=zB8 (w:=w) (Φ:=Φ) (A:=zB6) kM
   have uu:zv.cells.size=s:=by rw [vH,kS]
   rw [hp.1,hq.1]
   refine ⟨_,_,yA,?_⟩
   refine S.made (p := .own s (List.replicate l.toNat z)) (fun s hs=>hb s (by omega)) hd (Lp:=[w.heap.size]) (fun A=>?_) (by simp) (fun b yH => .inr ?_) (by simp) (fun b yH _=>?_) ⟨rfl,rfl,rfl⟩ h5
   ·refine .inr ⟨⟨w.heap.size,0,none⟩,c.toNat,_,List.replicate l.toNat zv,[],rfl,by simp,rfl,by simpa using gH,⟨el,by show (w.heap.push _)[w.heap.size]? = _;simp;rfl⟩,?_,fun x hx=>?_,⟨fun u hu=>?_,?_⟩,?_,?_⟩
    ·rw [size_madeCells,wT];simp
    ·rw [List.eq_of_mem_replicate hx];exact kS
    ·rw [List.eq_of_mem_replicate hu];exact uu
    ·simp [kd]
    ·rw [List.length_replicate]
     refine zGC ?_ fun k u hk=>?_
     ·rw [zBj (sz:=s) (fun u hu=>by rw [List.eq_of_mem_replicate hu];exact uu)];simp
     ·have hZ:(flat (List.replicate l.toNat zv)).length=l.toNat*s:=by
       rw [zBj (sz:=s) (fun u hu=>by rw [List.eq_of_mem_replicate hu];exact uu)];simp
      have uM:k<l.toNat*s:=by rw [← hZ];exact (List.getElem?_eq_some_iff.1 hk).1
      have yP:l.toNat*s≤c.toNat*s:=Nat.mul_le_mul_right _ gH
      rw [Nat.zero_add,wT,zOY (m:=k+1) (by omega) (by omega)]
      exact zGg uu hk
    ·have key:∀ n,zAX (w.alloc (.cells (madeCells zv.cells (c.toNat*i.size)) el)) Φ zB6 (List.replicate n z) (List.replicate n zv) []:=by
      intro n
      induction n with
      | zero=>exact ⟨rfl,rfl⟩
      | succ n ih =>
       exact ⟨zv,_,[],[],rfl,rfl,(zB8 kM).1,ih⟩
     exact key _
   ·simp only [List.mem_singleton] at yH;subst yH
    exact ⟨Nat.le_refl _,by show _<(w.heap.push _).size;simp⟩
   ·show (w.heap.push _)[b]? = _
    rw [Array.getElem?_push,if_neg (by omega)]
  ·cases h4
 ·cases h4
theorem zJH (S:St w0 U Φ0 nt hv a w e Φ rv E L) {x:Option Operand} (hx:∀ y,x=some y→zAL nt y=true) {n:Nat} {k:Nat→PM} (h:(zSi x n k).run o e=some e') :
  ∃ m,(k m).run o e=some e'∧((x=none∧m=n)∨∃ y ik z,x=some y∧a.eval y = .int ik z∧0≤z∧m=z.toNat):=by
 cases x with
 | none=>exact ⟨n,h,.inl ⟨rfl,rfl⟩⟩
 | some y =>
  obtain ⟨p,h1,h2⟩:=zBo S (hx y rfl) h
  obtain ⟨ik,z,rfl,hz,h3⟩:=zDZ h1
  exact ⟨z.toNat,h3,.inr ⟨y,ik,z,rfl,h2.1,hz,rfl⟩⟩
theorem zEB {ik:IntKind} {z:Int} {y:Nat} {cd:BoundsCode} (h0:0≤z) (h:z.toNat≤y):(Instr.sliceBound (.int ik z) y cd).run P w = .ok z.toNat w:=by
 have:z≤y:=by omega
 simp [Instr.sliceBound,asIntOf,h0,this]
theorem zKi {isS:Bool} {len cap l h:Nat} {lo hi:Option Value} (hh:(hi=none∧h=len)∨∃ ik z,hi=some (.int ik z)∧0≤z∧h=z.toNat) (hl:(lo=none∧l=0)∨∃ ik z,lo=some (.int ik z)∧0≤z∧l=z.toNat)
  (hlh:l≤h) (hhc:hi≠none→h≤cap):(Instr.sliceBounds isS len cap lo hi none).run P w = .ok (l,h,cap) w:=by
 rcases hh with ⟨rfl,rfl⟩ | ⟨ik,z,rfl,hz,rfl⟩
 ·simp only [Instr.sliceBounds,Sem.run_bind,Sem.run_pure,Result.andThen_ok,Option.isSome_none,Bool.false_eq_true,if_false]
  rcases hl with ⟨rfl,rfl⟩ | ⟨ik',z',rfl,hz',rfl⟩
  ·simp
  ·simp only [Sem.run_bind,zEB hz' hlh,Result.andThen_ok,Sem.run_pure]
 ·simp only [Instr.sliceBounds,Sem.run_bind,Sem.run_pure,Result.andThen_ok,Option.isSome_none,Bool.false_eq_true,if_false]
  rw [zEB hz (hhc (by simp))]
  simp only [Result.andThen_ok]
  rcases hl with ⟨rfl,rfl⟩ | ⟨ik',z',rfl,hz',rfl⟩
  ·simp
  ·simp only [Sem.run_bind,zEB hz' hlh,Result.andThen_ok,Sem.run_pure]
theorem zSL (S : St w0 U Φ0 nt hv a w e Φ rv E L) (hb:zBk E) {d:Option Nat} (hd:∀ x,d=some x→x<nt) {t:TypeId} {x:Operand} {lo hi mx:Option Operand} (hx:zAL nt x=true) (kh:∀ y,lo=some y→zAL nt y=true) (hhi:∀ y,hi=some y→zAL nt y=true) (hmx:∀ y,mx=some y→zAL nt y=true)
  (h:(zIB P d t x lo hi mx).run o e=some e'):∃ v,(Instr.sliceAt t (a.eval x) (lo.map a.eval) (hi.map a.eval) (mx.map a.eval)).run P w = .ok v w∧Fr w0 U Φ0 nt hv (a.put d v) w e':=by
 cases mx with
 | some m =>
  simp only [zIB] at h
  obtain ⟨p,h1,hp⟩:=zBo S hx h
  split at h1
  ·rename_i r pre z a0 n el ht
   obtain ⟨s,hs,h2⟩:=zBz h1
   obtain ⟨ti,jM,yE⟩:=zCc hs
   obtain ⟨mm,h3,h4⟩:=zJH S hmx h2
   obtain ⟨_,hg,⟨b,cap,yD,yR,wS,kb⟩,wR⟩:=hp
   rcases h4 with ⟨h4,_⟩ | ⟨ym,ikm,zm,hym,hem,hzm,rfl⟩
   ·cases h4
   cases hym
   cases hi with
   | none=>cases h3
   | some hi =>
    obtain ⟨hm,h5,h6⟩:=zJH S hhi h3
    rcases h6 with ⟨h6,_⟩ | ⟨yh,ikh,zh,hyh,heh,hzh,rfl⟩
    ·cases h6
    cases hyh
    obtain ⟨lm,h7,h8⟩:=zJH S kh h5
    obtain ⟨hc,h9⟩:=zAF h7
    simp only [Bool.and_eq_true] at hc
    have c1:=Nat.le_of_ble_eq_true hc.1.1
    have c2:=Nat.le_of_ble_eq_true hc.1.2
    have c3:=Nat.le_of_ble_eq_true hc.2
    refine ⟨_,?_,zAu S hb hd h9 (p := .bad) (v := .slice (if zm.toNat=lm then b else b.map (·.add (lm*ti.size))) (zh.toNat-lm) (zm.toNat-lm)) rfl⟩
    rw [yD]
    simp only [Instr.sliceAt,Instr.slice,Sem.run_bind,run_underlying ht,Result.andThen_ok,Option.map_some,hem,heh,Instr.sliceBounds,zEB hzm (show zm.toNat≤cap by omega),zEB hzh c2]
    rcases h8 with ⟨rfl,rfl⟩ | ⟨yl,ikl,zl,rfl,yt,kS,rfl⟩
    ·simp only [Option.map_none,Sem.run_pure,Result.andThen_ok,zAV jM,Sem.run_bind]
    ·simp only [Option.map_some,yt,zEB kS c1,Sem.run_pure,Result.andThen_ok,zAV jM,Sem.run_bind]
  ·cases h1
 | none =>
  simp only [zIB] at h
  obtain ⟨p,h1,hp⟩:=zBo S hx h
  have low:∀ {m:Nat},((lo=none∧m=0)∨∃ y ik z,lo=some y∧a.eval y = .int ik z∧0≤z∧m=z.toNat)→(lo.map a.eval=none∧m=0)∨∃ ik z,lo.map a.eval=some (.int ik z)∧0≤z∧m=z.toNat:=by
   rintro m (⟨rfl,rfl⟩ | ⟨y,ik,z,rfl,h2,h3,h4⟩)
   ·exact .inl ⟨rfl,rfl⟩
   ·exact .inr ⟨ik,z,by simp [h2],h3,h4⟩
  have hgh:∀ {m n:Nat},((hi=none∧m=n)∨∃ y ik z,hi=some y∧a.eval y = .int ik z∧0≤z∧m=z.toNat)→(hi.map a.eval=none∧m=n)∨∃ ik z,hi.map a.eval=some (.int ik z)∧0≤z∧m=z.toNat:=by
   rintro m n (⟨rfl,rfl⟩ | ⟨y,ik,z,rfl,h2,h3,h4⟩)
   ·exact .inl ⟨rfl,rfl⟩
   ·exact .inr ⟨ik,z,by simp [h2],h3,h4⟩
  split at h1
  ·
   rename_i n el ht
   split at h1
   ·rename_i s sh hs j5
    obtain ⟨hm,h2,h3⟩:=zJH S hhi h1
    obtain ⟨lm,h4,h5⟩:=zJH S kh h2
    obtain ⟨hc,h6⟩:=zAF h4
    simp only [Bool.and_eq_true,Bool.or_eq_true] at hc
    obtain ⟨⟨c1,c2⟩,c3⟩:=hc
    have c1:=Nat.le_of_ble_eq_true c1
    have c2:=Nat.le_of_ble_eq_true c2
    obtain ⟨ti,jM,yE⟩:=zCc hs
    have hbnd:=zKi (P:=P) (w:=w) (isS:=false) (len:=n) (cap:=n) (hgh h3) (low h5) c1 (fun _=>c2)
    have ko:∀ b:Addr,b.spot=none→(if n=lm then b else b.add (lm*ti.size))=zAr b (lm*s):=by
     intro b y1
     split
     ·rename_i gl
      have vr:lm=0:=by
       rcases c3 with c3 | c3
       ·exact Nat.eq_of_beq_eq_true c3
       ·have:=zBW c3;omega
      rw [vr];cases b;simp_all [zAr]
     ·rw [zBN y1,yE]
    split at h6
    ·rename_i r pre i c s'
     obtain ⟨_,hg,b,y6,y1,hn⟩:=hp
     refine ⟨.slice (some (zAr b (lm*s))) (hm-lm) (n-lm),?_,zAu S hb hd h6 ⟨rfl,hg,zAr b (lm*s),n-lm,rfl,by omega,rfl,fun nv np hf a' kO=>?_⟩⟩
     ·rw [y6]
      simp only [Instr.sliceAt,Sem.run_bind,run_underlying ht,Result.andThen_ok,Instr.sureAddr,Sem.run_pure,Option.map_none]
      rw [hbnd]
      simp only [Result.andThen_ok,zAV jM,Sem.run_bind,Sem.run_pure]
      rw [ko b y1]
     ·have key:∃ a0,zA4 nv np i c=some a0∧a'=zAr a0 (lm*s):=by
       cases np<;>try (simp [zA4] at kO;done)
       ·cases nv with
        | slice x _ _ =>
         cases x with
         | none=>cases kO
         | some x=>simp only [zA4] at kO ⊢;cases kO;exact ⟨_,rfl,by simp [zAr,Nat.add_assoc]⟩
        | pointer x=>cases x<;>cases kO
        | _=>cases kO
       ·cases nv with
        | pointer x =>
         cases x with
         | none=>cases i<;>cases kO
         | some x=>cases i<;>simp only [zA4] at kO ⊢ <;> cases kO;exact ⟨_,rfl,by simp [zAr,Nat.add_assoc]⟩
        | slice x _ _=>cases x<;>cases kO
        | _=>cases kO
      obtain ⟨a0,k1,k2⟩:=key
      rw [k2,hn nv np hf a0 k1]
    ·rename_i cs
     obtain ⟨gq,h7⟩:=zAF h6
     simp only [Bool.and_eq_true,zCg] at gq
     obtain ⟨⟨c4,⟨c5,c6⟩⟩,c7⟩:=gq
     have c4:=Nat.le_of_ble_eq_true c4
     have c5:=Nat.eq_of_beq_eq_true c5
     obtain ⟨_,b,c,u,y6,y1,hΦ,yC,jB,⟨jA,j8⟩,hr⟩:=hp
     obtain ⟨vs,rfl,hr⟩:=hr
     have jy:=hr.length
     have vX:zAX w Φ zB6 cs vs.toList []:=hr.ways _ _ _ fun a v hw hx ha=>by
      have h0:zBn cs=[]:=by simpa using c7
      rw [h0] at hx
      have h1:=zI9 hw ha
      cases uj:a.ways with
      | nil=>exact absurd uj h1
      | cons z zs=>have:=hx z (by rw [uj];simp);cases this
     obtain ⟨us',q1,q2,q3,q4,q5⟩:=zFX (ag:=sh.isSome) (sz:=s) (fun a v _ h=>h.elim) (hm-lm) _ _ c5 (fun j8=>by
      simp only [j8,Bool.false_or,Bool.and_eq_true] at c6
      exact ⟨Nat.eq_of_beq_eq_true c6.1,fun q hq=>List.all_eq_true.1 c6.2 q hq⟩) (zBO vX (lm*s) ((hm-lm)*s))
     have yN:=zDR sh.isSome s (hm-lm) ((cs.drop (lm*s)).take ((hm-lm)*s))
     refine ⟨.slice (some (zAr b (lm*s))) (hm-lm) (n-lm),?_,zAu S hb hd h7 ?_⟩
     ·rw [y6]
      simp only [Instr.sliceAt,Sem.run_bind,run_underlying ht,Result.andThen_ok,Instr.sureAddr,Sem.run_pure,Option.map_none]
      rw [hbnd]
      simp only [Result.andThen_ok,zAV jM,Sem.run_bind,Sem.run_pure]
      rw [ko b y1]
     ·by_cases gI:hm-lm=0
      ·rw [gI];exact ⟨rfl,.inl ⟨rfl,_,_,rfl,fun h=>by cases h⟩⟩
      ·refine ⟨rfl,.inr ⟨zAr b (lm*s),n-lm,c,us',s,by rw [yN],rfl,by rw [yN];omega,hΦ,yC,q5,⟨q3,q4⟩,?_,q1⟩⟩
       rw [yN,q2]
       simp only [PV.cells,Value.cells] at jB jy
       refine zGC (by simp at c5 jy ⊢;omega) fun k y hk=>?_
       simp only [List.getElem?_take,List.getElem?_drop] at hk
       split at hk
       ·have:(seg c b.off cs.length)[lm*s+k]? = some y:=by rw [jB];exact hk
        have:=zDd this
        simp only [zAr,Nat.add_assoc];exact this
       ·cases hk
    ·cases h6
   ·cases h1
  ·
   rename_i el ht
   split at h1
   ·rename_i s n hs hn
    obtain ⟨hm,h2,h3⟩:=zJH S hhi h1
    obtain ⟨lm,h4,h5⟩:=zJH S kh h2
    obtain ⟨ti,jM,yE⟩:=zCc hs
    have yA:∀ (b:Option Addr) (cap:Nat),a.eval x = .slice b n cap→lm≤hm→hm≤cap→(Instr.sliceAt t (a.eval x) (lo.map a.eval) (hi.map a.eval) (Option.map a.eval none)).run P w = .ok (.slice (if cap=lm then b else b.map (·.add (lm*ti.size))) (hm-lm) (cap-lm)) w:=by
     intro b cap yD k1 k2
     rw [yD]
     simp only [Instr.sliceAt,Instr.slice,Sem.run_bind,run_underlying ht,Result.andThen_ok,Option.map_none]
     rw [zKi (hgh h3) (low h5) k1 (fun _=>k2)]
     simp only [Result.andThen_ok,zAV jM,Sem.run_bind,Sem.run_pure]
    cases p<;>simp only [zO8] at h4<;>try (cases h4;done)
    case sl xs =>
     simp only [lenOf,Option.some.injEq] at hn
     obtain ⟨hc,h6⟩:=zAF h4
     simp only [Bool.and_eq_true] at hc
     obtain ⟨⟨c1,c2⟩,c3⟩:=hc
     have c1:=Nat.le_of_ble_eq_true c1
     have c2:=Nat.le_of_ble_eq_true c2
     obtain ⟨_,⟨rfl,b,n',yD,wS⟩ | ⟨b,n',c,us,sz,yD,y1,yP,hΦ,yC,jX,⟨ka,w7⟩,jB,hr⟩⟩:=hp
     ·have gI:hm=0:=by simpa using c2
      have vr:lm=0:=by omega
      subst gI;subst vr
      refine ⟨_,yA b n' (by rw [yD,← hn];rfl) (Nat.le_refl _) (Nat.zero_le _),zAu S hb hd h6 ?_⟩
      simp only [List.drop_nil,List.take_nil]
      exact ⟨rfl,.inl ⟨rfl,_,_,rfl,fun h=>by
       have gG:b=none:=by cases b<;>first | rfl | (split at h<;>cases h)
       rw [wS gG]⟩⟩
     ·refine ⟨_,yA (some b) n' (by rw [yD,← hn]) c1 (by omega),zAu S hb hd h6 ?_⟩
      have hZ:((xs.drop lm).take (hm-lm)).length=hm-lm:=by simp;omega
      by_cases gI:hm-lm=0
      ·have:(xs.drop lm).take (hm-lm)=[]:=List.eq_nil_of_length_eq_zero (by rw [hZ,gI])
       rw [this,gI];exact ⟨rfl,.inl ⟨rfl,_,_,rfl,fun h=>by split at h<;>cases h⟩⟩
      ·have jA:us.length=xs.length:=by have:=congrArg List.length w7;simpa using this
       have hx0:∃ x,x∈xs:=by
        cases xs with
        | nil=>simp at c2;omega
        | cons x _=>exact ⟨x,by simp⟩
       obtain ⟨x0,hx0⟩:=hx0
       have wU:sz=s:=by
        have:=Nat.eq_of_beq_eq_true (List.all_eq_true.1 c3 x0 hx0)
        rw [← jX x0 hx0,this]
       subst wU
       rw [if_neg (by omega)]
       simp only [Option.map_some]
       rw [zBN y1,yE]
       refine ⟨rfl,.inr ⟨zAr b (lm*sz),n'-lm,c,(us.drop lm).take (hm-lm),sz,by rw [hZ],rfl,by rw [hZ];omega,hΦ,yC,fun y hy=>jX y (List.mem_of_mem_drop (List.mem_of_mem_take hy)),⟨fun u hu=>ka u (List.mem_of_mem_drop (List.mem_of_mem_take hu)),zAX.map_isAgg w7 lm (hm-lm)⟩,?_,zBO hr lm (hm-lm)⟩⟩
       rw [hZ];exact zIf ka jA jB (by omega)
    case bor r pre z a0 n0 =>
     simp only [lenOf,Option.some.injEq] at hn
     subst hn
     obtain ⟨hc,h6⟩:=zAF h4
     simp only [Bool.and_eq_true] at hc
     have uu:=Nat.eq_of_beq_eq_true hc.1
     have c1:=Nat.le_of_ble_eq_true hc.2
     subst uu
     obtain ⟨_,hg,⟨b,cap,yD,yR,wS,kb⟩,wR⟩:=hp
     have go : hm≤cap→(put d (bif Nat.beq lm 0||Nat.blt lm hm then .bor r pre z (a0+lm) (hm-lm) else .sl [])).run o e=some e'→∃ v,(Instr.sliceAt t (a.eval x) (lo.map a.eval) (hi.map a.eval) (Option.map a.eval none)).run P w = .ok v w∧Fr w0 U Φ0 nt hv (a.put d v) w e':=by
      intro k1 h6
      refine ⟨_,yA b cap yD c1 k1,zAu S hb hd h6 ?_⟩
      cases uZ:(Nat.beq lm 0||Nat.blt lm hm) with
      | false =>
       simp only [Bool.or_eq_false_iff] at uZ
       have:¬ lm<hm:=fun yF=>by rw [show Nat.blt lm hm=true from Nat.ble_eq_true_of_le yF] at uZ;exact absurd uZ.2 (by simp)
       have:hm-lm=0:=by omega
       rw [this];exact ⟨rfl,.inl ⟨rfl,_,_,rfl,fun h=>by
        have gG:b=none:=by cases b<;>first | rfl | (split at h<;>cases h)
        have:=wS gG;omega⟩⟩
      | true =>
       simp only [cond_true]
       have jj:lm=0∨lm<hm:=by
        simp only [Bool.or_eq_true] at uZ
        rcases uZ with h | h
        ·exact .inl (Nat.eq_of_beq_eq_true h)
        ·exact .inr (zBW h)
       have ko:(if cap=lm then b else b.map (·.add (lm*ti.size)))=b.map (fun y=>zAr y (lm*z)):=by
        cases b with
        | none=>simp
        | some y =>
         have hy:=kb y rfl
         simp only [Option.map_some]
         split
         ·have vr:lm=0:=by omega
          subst vr;cases y;simp_all [zAr]
         ·rw [zBN hy,yE]
       rw [ko]
       refine ⟨rfl,hg,⟨_,cap-lm,rfl,by omega,fun gG=>?_,fun y hy=>?_⟩,fun nv np hf hh=>?_⟩
       ·have:b=none:=by cases b<;>first | rfl | cases gG
        have:=wS this;omega
       ·cases b with
        | none=>cases hy
        | some y0=>simp only [Option.map_some,Option.some.injEq] at hy;rw [← hy];rfl
       ·obtain ⟨sz2,xs2,g1,g2,g3⟩:=wR nv np hf hh
        refine ⟨sz2,xs2,g1,g2,?_⟩
        subst g2
        rw [yD] at g3
        cases nv<;>simp only [zBH] at g3
        rename_i y l c
        cases y with
        | none =>
         simp only [zBH,Value.slice.injEq] at g3 ⊢
         obtain ⟨⟨k2,k3,k4⟩,k5⟩:=g3
         subst k2
         refine ⟨⟨rfl,by omega,by omega⟩,by omega⟩
        | some y =>
         simp only [zBH,Value.slice.injEq] at g3 ⊢
         obtain ⟨⟨k2,_,k4⟩,k5⟩:=g3
         subst k2
         refine ⟨⟨?_,trivial,by omega⟩,by omega⟩
         simp [zAr,Nat.add_mul,Nat.add_assoc]
     cases gJ:Nat.ble hm n0 with
     | true =>
      rw [gJ] at h6
      exact go (Nat.le_trans (Nat.le_of_ble_eq_true gJ) yR) h6
     | false =>
      rw [gJ] at h6;simp only [cond_false] at h6
      obtain ⟨q,hq,h7⟩:=zBB h6
      split at h7
      ·rename_i sz2 xs2
       obtain ⟨yP,h8⟩:=zAF h7
       have yP:=Nat.le_of_ble_eq_true yP
       refine go ?_ h8
       rw [← S.env r hg] at hq
       obtain ⟨nv,Li,hf,_,hX⟩:=zBG (zBT (S.conf.rep r)) hq
       obtain ⟨sz3,xs3,g1,g2,g3⟩:=wR nv _ hf rfl
       cases g1;subst g2
       rw [yD] at g3
       obtain ⟨q1,_,q3⟩ | ⟨y,m,c,us,M,_,q1,_,q3,_⟩:=hX
       ·subst q1;simp at yP;omega
       ·subst q1
        simp only [zBH,Value.slice.injEq] at g3
        omega
      ·cases h7
   ·cases h1
  ·cases h1
end
end Go.Eng
namespace Go.Eng
open Go
section
variable {w w':World} {Φ Φ':Nat→Prop}
mutual
theorem Rep.free {A A':Al}:∀ (p:PV) (v:Value) (L:List Nat),p.free=true→Rep w Φ A p v L→Rep w Φ' A' p v L
 | .int ..,_,_,_,h=>h
 | .bool _,_,_,_,h=>h
 | .nilp,_,_,_,h=>h
 | .nilf,_,_,_,h=>h
 | .nilm,_,_,_,h=>h
 | .nn,_,_,_,h=>h
 | .nils _,_,_,_,h=>h
 | .und,_,_,_,h=>h
 | .sl [],v,L,_,h=>by
  obtain ⟨h0,⟨_,a,n,h1⟩ | ⟨a,n,c,us,sz,h1,_⟩⟩:=h
  ·exact ⟨h0,.inl ⟨rfl,a,n,h1⟩⟩
  ·exact ⟨h0,.inl ⟨rfl,_,n,h1,fun h=>by cases h⟩⟩
 | .sl (_::_),_,_,hf,_=>by cases hf
 | .agg cs,v,L,hf,h=>by
  obtain ⟨vs,rfl,h⟩:=h
  exact ⟨vs,rfl,zAX.free cs _ L hf h⟩
 | .tup cs,v,L,hf,h=>by
  obtain ⟨vs,rfl,h⟩:=h
  exact ⟨vs,rfl,zAX.free cs _ L hf h⟩
 | .own sz xs,v,L,hf,h=>by
  obtain h | ⟨a,n,c,us,L',h0,h1,h2,h3,h4,h5,h6,h7,h8,h9⟩:=h
  ·exact .inl h
  ·exact .inr ⟨a,n,c,us,L',h0,h1,h2,h3,h4,h5,h6,h7,h8,zAX.free xs us L' hf h9⟩
 | .box q,v,L,hf,h=>by
  obtain ⟨a,c,u,L',h0,h1,h2,h4,h5,h6,h7⟩:=h
  exact ⟨a,c,u,L',h0,h1,h2,h4,h5,h6,Rep.free q u L' hf h7⟩
 | .omap es,v,L,hf,h=>by
  obtain ⟨b,ents,h0,h1,h3,h4⟩:=h
  exact ⟨b,ents,h0,h1,h3,zDN.free es _ 0 hf h4⟩
 | .bad,_,_,hf,_=>by cases hf
 | .ref _,_,_,hf,_=>by cases hf
 | .map _,_,_,hf,_=>by cases hf
 | .func ..,_,_,hf,_=>by cases hf
 | .addr ..,_,_,hf,_=>by cases hf
 | .bor ..,_,_,hf,_=>by cases hf
 | .bsl ..,_,_,hf,_=>by cases hf
 | .bmap ..,_,_,hf,_=>by cases hf
 | .lock _,_,_,hf,_=>by cases hf
 | .yld _,_,_,hf,_=>by cases hf
 | .log ..,_,_,hf,_=>by cases hf
theorem zAX.free {A A':Al}:∀ (ps:List PV) (vs:List Value) (L:List Nat),zEz ps=true→zAX w Φ A ps vs L→zAX w Φ' A' ps vs L
 | [],_,_,_,h=>h
 | p::ps,vs,L,hf,h=>by
  simp only [zEz,Bool.and_eq_true] at hf
  obtain ⟨v,vs',L1,L2,h0,h1,h2,h3⟩:=h
  exact ⟨v,vs',L1,L2,h0,h1,Rep.free p v L1 hf.1 h2,zAX.free ps vs' L2 hf.2 h3⟩
theorem zDN.free:∀ (es:List (PV×PV)) (ms:List MapEntry) (i:Nat),zOz es=true→zDN w Φ es ms i→zDN w Φ' es ms i
 | [],_,_,_,h=>h
 | (k,p)::es,ms,i,hf,h=>by
  simp only [zOz,Bool.and_eq_true] at hf
  obtain ⟨m,ms',h0,h1,h2,h3,h4⟩:=h
  exact ⟨m,ms',h0,h1,Rep.free k _ [] hf.1.1 h2,Rep.free p _ [] hf.1.2 h3,zDN.free es ms' (i+1) hf.2 h4⟩
end
end
theorem zCO (m:List (Nat×Nat)):Tame (zEm m):=by
 constructor
 ·intro p
  cases p<;>simp only [zEm]<;>first | rfl | (split<;>rfl)
 ·intro p hp
  cases p<;>first | (cases hp;done) | skip
  all_goals
   simp only [zEm]
   first | rfl | (split<;>rfl)
section
variable {w w':World} {rv rv':Nat→Value} {E E':Nat→PV}
theorem zMb {m:List (Nat×Nat)} {Φ:Nat→Prop} {a:PV} {v:Value} (ha:zA1 w rv E a v)
  (h:∀ r h',m.lookup r=some h'→r<zAb→h'<zAb∧∀ pre nv np,zAN w' (rv' h') (E' h').unlock pre=some (nv,np)→np.heavy0=true→∃ np0,zAN w (rv r) (E r).unlock pre=some (nv,np0)∧zB9 np0 np) :
  Rep w' Φ (zA1 w' rv' E') (zEm m a) v []:=by
 have hr:=zCM ha
 have key:∀ nv np i c a',zA4 nv np i c=some a'→np.heavy0=true:=by
  intro nv np i c a' h
  cases np<;>first | rfl | (simp [zA4] at h)
 cases a<;>simp only [zEm]<;>try (exact ha.elim)
 case addr r pre i c sh =>
  cases hm:m.lookup r with
  | none=>rfl
  | some h' =>
   obtain ⟨h1,h2⟩:=h r h' hm hr
   obtain ⟨_,b,h3,h4,h5⟩:=ha
   refine ⟨rfl,h1,b,h3,h4,fun nv np hn a' kO=>?_⟩
   obtain ⟨np0,h6,h7⟩:=h2 pre nv np hn (key _ _ _ _ _ kO)
   exact h5 nv np0 h6 a' (by rw [zEg h7];exact kO)
 case bor r pre z lo n =>
  cases hm:m.lookup r with
  | none=>rfl
  | some h' =>
   obtain ⟨h1,h2⟩:=h r h' hm hr
   obtain ⟨_,h3,h5⟩:=ha
   refine ⟨rfl,h1,h3,fun nv np hn hh=>?_⟩
   obtain ⟨np0,h6,h7⟩:=h2 pre nv np hn hh
   obtain ⟨sz,xs,g1,g2,g3⟩:=h5 nv np0 h6 (zDD h7)
   subst g1
   cases np<;>simp only [zB9] at h7
   subst h7
   exact ⟨_,_,rfl,g2,g3⟩
 case bsl r pre i c sz ag n =>
  cases hm:m.lookup r with
  | none=>rfl
  | some h' =>
   obtain ⟨h1,h2⟩:=h r h' hm hr
   obtain ⟨_,b,cap,h3,wM,h4,h5⟩:=ha
   refine ⟨rfl,h1,b,cap,h3,wM,h4,fun nv np hn a' kO=>?_⟩
   obtain ⟨np0,h6,h7⟩:=h2 pre nv np hn (key _ _ _ _ _ kO)
   exact h5 nv np0 h6 a' (by rw [zEg h7];exact kO)
 case bmap r pre =>
  cases hm:m.lookup r with
  | none=>rfl
  | some h' =>
   obtain ⟨h1,h2⟩:=h r h' hm hr
   obtain ⟨_,h3,h5⟩:=ha
   refine ⟨rfl,h1,h3,fun nv np hn es he=>?_⟩
   subst he
   obtain ⟨np0,h6,h7⟩:=h2 pre nv _ hn rfl
   cases np0<;>simp only [zB9] at h7
   exact h5 nv _ h6 _ rfl
end
theorem zHG {f:Nat→Nat→Nat×Nat}:∀ (R:List Nat) (k x y:Nat),((R.zipIdx k).map fun p=>f p.1 p.2).lookup x=some y→∃ j r,R[j]? = some r∧f r (k+j)=(x,y)
 | [],k,x,y,h=>by simp at h
 | r :: R,k,x,y,h=>by
  simp only [List.zipIdx_cons,List.map_cons] at h
  cases hf:f r k with
  | mk p1 p2 =>
   rw [hf,List.lookup_cons] at h
   by_cases hx:x=p1
   ·have:(x==p1)=true:=by simp [hx]
    rw [this] at h
    simp only [Option.some.injEq] at h
    exact ⟨0,r,rfl,by rw [Nat.add_zero,hf,hx,h]⟩
   ·have:(x==p1)=false:=by simp [hx]
    rw [this] at h
    obtain ⟨j,r',h1,h2⟩:=zHG R (k+1) x y h
    exact ⟨j+1,r',by simpa using h1,by rw [show k+(j+1)=k+1+j by omega];exact h2⟩
theorem zLN {R:List Nat} {r h:Nat} (hl:(zDk R).lookup r=some h):∃ j,R[j]? = some r∧h=zAm+j:=by
 obtain ⟨j,r',h1,h2⟩:=zHG (f:=fun r j=>(r,zAm+j)) R 0 r h hl
 simp only [Nat.zero_add,Prod.mk.injEq] at h2
 exact ⟨j,h2.1▸h1,h2.2.symm⟩
theorem zNA {R:List Nat} {h r:Nat} (hl:(zB4 R).lookup h=some r):∃ j,R[j]? = some r∧h=zAm+j:=by
 obtain ⟨j,r',h1,h2⟩:=zHG (f:=fun r j=>(zAm+j,r)) R 0 h r hl
 simp only [Nat.zero_add,Prod.mk.injEq] at h2
 exact ⟨j,h2.2▸h1,h2.1.symm⟩
theorem zGa:∀ {R:List Nat},zGV R=true→R.Nodup
 | [],_=>List.nodup_nil
 | r::R,h=>by
  simp only [zGV,Bool.and_eq_true,Bool.not_eq_true'] at h
  exact List.nodup_cons.2 ⟨fun hm=>by have:=List.contains_iff_mem.2 hm;rw [this] at h;exact absurd h.1 (by simp),zGa h.2⟩
section
variable {o:zAC} {e e':Env}
theorem zJg:∀ {R:List Nat} {k:List PV→PM},(zNV R k).run o e=some e'→(∀ r∈R,(e.get r).isLock=false)∧(k (R.map e.get)).run o e=some e'
 | [],k,h=>⟨by simp,h⟩
 | r :: R,k,h=>by
  simp only [zNV,PM.run] at h
  split at h
  ·cases h
  ·rename_i p hp
   obtain ⟨h1,h2⟩:=zJg h
   refine ⟨fun x hx=>?_,h2⟩
   rcases List.mem_cons.1 hx with rfl | hx
   ·cases hl:(e.get x)<;>first | rfl | exact absurd hl (hp _)
   ·exact h1 x hx
theorem zKu:∀ {n:Nat} {R:List Nat} {k:List Nat→PM},(zKx n R k).run o e=some e'→∃ R',(k R').run o e=some e'
 | 0,R,k,h=>⟨R,h⟩
 | n+1,R,k,h=>by
  simp only [zKx] at h
  obtain ⟨_,h1⟩:=zJg h
  revert h1
  cases Nat.beq _ _ with
  | true=>exact fun h=>⟨_,h⟩
  | false=>exact fun h=>zKu h
def zDB:List Nat→PV→PV
 | [],a=>a
 | r::R,a=>if (zBE r [] a).isWay=true then zDB R a else zBE r [] a
theorem zGJ (r:Nat) (p:PV):zBE r [] p=p∨(p.isWay=true∧zBE r [] p = .bad):=by
 cases p<;>first | exact .inl rfl | skip
 all_goals
  simp only [zBE,PV.isWay,true_and]
  cases (Nat.beq _ r&&_)<;>simp
theorem zIW:∀ (R:List Nat) (p:PV),zDB R p=p∨(p.isWay=true∧zDB R p = .bad)
 | [],p => .inl rfl
 | r::R,p=>by
  simp only [zDB]
  split
  ·exact zIW R p
  ·exact zGJ r p
theorem zKt {k:PM}:∀ {R:List Nat} {e:Env},(zJ9 R k).run o e=some e'→∃ e1,k.run o e1=some e'∧∀ s,e1.get s=(e.get s).mapW (zDB R)
 | [],e,h=>⟨e,h,fun s=>by rw [show zDB []=fun x=>x from rfl,zBb]⟩
 | r::R,e,h=>by
  simp only [zJ9,PM.run] at h
  obtain ⟨e1,h1,h2⟩:=zKt h
  refine ⟨e1,h1,fun s=>?_⟩
  rw [h2 s,Env.get_killEx,zED]
  refine zDp (fun a ha=>?_) _
  simp only [zDB]
  rcases zGJ r a with h3 | ⟨_,h3⟩
  ·rw [h3,if_pos ha,zFZ ha]
  ·rw [h3];rfl
theorem zWD {pre:zAO} {y:PV} (hI:PV.bad≠y) (h:(bif !pre.isEmpty then PV.bad else y)=y):pre=[]:=by
 cases pre with
 | nil=>rfl
 | cons x xs=>exact absurd h hI
theorem zJU:∀ {R:List Nat} {a:PV},a.isWay=true→zDB R a=a→(∀ k,a ≠ .yld k)→(∀ xs k,a ≠ .log xs k)→(zA3 a).1∈R→(zA3 a).2=[]
 | [],_,_,_,_,_,h=>by cases h
 | r :: R,a,ha,hk,hy,hl,hm=>by
  simp only [zDB] at hk
  by_cases hr:(zA3 a).1=r
  ·have kh:zBE r [] a=a:=by
    rcases zGJ r a with h3 | ⟨_,h3⟩
    ·exact h3
    ·rw [h3] at hk;simp only [PV.isWay,Bool.false_eq_true,if_false] at hk;rw [← hk] at ha;cases ha
   cases a<;>first | (cases ha;done) | (exact absurd rfl (hy _)) | (exact absurd rfl (hl _ _)) | skip
   all_goals
    simp only [zA3] at hr ⊢
    subst hr
    simp only [zBE,Nat.beq_refl,Bool.true_and,List.any_nil,Bool.or_false] at kh
    exact zWD (by simp) kh
  ·have hm':(zA3 a).1∈R:=(List.mem_cons.1 hm).resolve_left hr
   rcases zGJ r a with h3 | ⟨_,h3⟩
   ·rw [h3,if_pos ha] at hk;exact zJU ha hk hy hl hm'
   ·rw [h3] at hk;simp only [PV.isWay,Bool.false_eq_true,if_false] at hk;rw [← hk] at ha;cases ha
theorem zM2 {k:PM}:∀ {R:List Nat} {os ps:List PV} {e:Env},R.Nodup→(zNj R os ps k).run o e=some e'→∃ e1,k.run o e1=some e'∧ps.length=R.length∧os.length=R.length∧(∀ (j:Nat) (x y:PV),os[j]? = some x→ps[j]? = some y→zGb x y=true) ∧
   (∀ s,s∉R→e1.get s=e.get s)∧∀ (j r:Nat) (p:PV),R[j]? = some r→ps[j]? = some p→e1.get r=p
 | [],os,ps,e,hn,h=>by
  cases os<;>cases ps<;>simp only [zNj] at h<;>try (cases h;done)
  exact ⟨e,h,rfl,rfl,by simp,fun _ _=>rfl,by simp⟩
 | r :: R,os,ps,e,hn,h=>by
  cases os<;>cases ps<;>simp only [zNj] at h<;>try (cases h;done)
  rename_i x os y ps
  obtain ⟨h1,h2⟩:=zAF h
  obtain ⟨root,_,hm,h3⟩:=zBP h2
  simp only [zAv,Option.some.injEq] at hm;subst hm
  obtain ⟨hnr,hnR⟩:=List.nodup_cons.1 hn
  obtain ⟨e1,g1,g2,g3,g4,g5,g6⟩:=zM2 hnR h3
  refine ⟨e1,g1,by simp [g2],by simp [g3],fun j x' y' hx hy=>?_,fun s hs=>?_,fun j r' p hr hp=>?_⟩
  ·cases j with
   | zero=>simp at hx hy;subst hx;subst hy;exact h1
   | succ j=>exact g4 j x' y' (by simpa using hx) (by simpa using hy)
  ·simp only [List.mem_cons,not_or] at hs
   rw [g5 s hs.2,Env.get_set,if_neg hs.1]
  ·cases j with
   | zero =>
    simp at hr hp;subst hr;subst hp
    rw [g5 _ hnr,Env.get_set,if_pos rfl]
   | succ j=>exact g6 j r' p (by simpa using hr) (by simpa using hp)
theorem zNo (k:Nat):∀ (ps:List PV) (i:Nat) (s:Nat),Env.get ((ps.zipIdx i).map fun x=>(k+x.2,x.1)) s=if k+i≤s∧s<k+i+ps.length then ps.getD (s-k-i) .bad else .bad
 | [],i,s=>by simp [Env.get]
 | p :: ps,i,s=>by
  simp only [List.zipIdx_cons,List.map_cons,Env.get,zNo k ps (i+1) s]
  by_cases h:s=k+i
  ·subst h
   simp
  ·have:Nat.beq (k+i) s=false:=by
    cases hb:Nat.beq (k+i) s with
    | false=>rfl
    | true=>exact absurd (Nat.eq_of_beq_eq_true hb).symm h
   rw [this,cond_false]
   by_cases h2:k+i≤s∧s<k+i+(p::ps).length
   ·have h3:k+(i+1)≤s∧s<k+(i+1)+ps.length:=by simp at h2;omega
    rw [if_pos h2,if_pos h3]
    have e1:s-k-i=(s-k-(i+1))+1:=by omega
    rw [e1];simp
   ·have h3:¬ (k+(i+1)≤s∧s<k+(i+1)+ps.length):=by simp at h2 ⊢;omega
    rw [if_neg h2,if_neg h3]
theorem zPx (a b:Env) (s:Nat):Env.get (a++b) s=bif a.any (fun x=>Nat.beq x.1 s) then Env.get a s else Env.get b s:=by
 induction a with
 | nil=>rfl
 | cons x a ih =>
  obtain ⟨k,v⟩:=x
  simp only [List.cons_append,Env.get,ih,List.any_cons]
  cases Nat.beq k s<;>rfl
end
structure Gave (v:PV) (u:Value) (rv:Nat→Value) (E:Nat→PV):Prop where
 one:(∀ ps,v ≠ .tup ps)→E zAx=v∧rv zAx=u
 many:∀ ps,v = .tup ps→∃ us:Array Value,u = .tuple us∧us.size=ps.length∧∀ (j:Nat) (p:PV),ps[j]? = some p→E (zAx+j)=p∧us[j]? = some (rv (zAx+j))
def Means (P:Program) (f:FuncId) (args hid:List PV) (v:PV) (hO:List PV):Prop :=
 ∀ (w:World) (Φ:Nat→Prop) (rv:Nat→Value) (E:Nat→PV) (L:Nat→List Nat) (vs:Array Value),(∀ s,s<zAb→E s=(zA5 args hid).get s)→(∀ s,zAb≤s→E s = .bad)→Conf w (fun b=>∃ s,b∈L s) Φ w Φ rv E L→vs.size=args.length→(∀ i,i<args.length→vs[i]? = some (rv i))→(∀ s,args.length≤s→s<zAm→rv s=undef) →
  Calls P f vs w fun e w'=>∃ u Φ' rv' E' L',e = .returned u∧Conf w (fun b=>∃ s,b∈L s) Φ w' Φ' rv' E' L'∧hO.length=hid.length ∧
   (∀ j,j<hid.length→E' (zAm+j)=hO.getD j .bad∧rv' (zAm+j)=rv (zAm+j))∧Gave v u rv' E'
def Callable (P:Program) (f:FuncId):Prop:=∃ fn,P.funcs[f]? = some fn∧fn.body.isNone=false
def zF9 (P:Program) (o:zAC):Prop:=∀ f args hid v hO,o f args hid=some (v,hO)→Callable P f∧Means P f args hid v hO
theorem zC8 {args hid:List PV} (ha:args.length≤zAm) (s:Nat):(zA5 args hid).get s=if s<args.length then args.getD s .bad else if zAm≤s∧s<zAm+hid.length then hid.getD (s-zAm) .bad else .bad:=by
  have e1:(args.zipIdx.map fun (p,i)=>(i,p))=(args.zipIdx 0).map fun x=>(0+x.2,x.1):=by
    apply List.map_congr_left;intro x _;simp
  have e2:(hid.zipIdx.map fun (p,j)=>(zAm+j,p))=(hid.zipIdx 0).map fun x=>(zAm+x.2,x.1):=rfl
  have hany:∀ (ps:List PV) (i:Nat),((ps.zipIdx i).map fun x=>(0+x.2,x.1)).any (fun x=>Nat.beq x.1 s)=decide (i≤s∧s<i+ps.length):=by
    intro ps
    induction ps with
    | nil => intro i;have:¬ (i≤s∧s<i):=by omega
             simp [this]
    | cons p ps ih =>
      intro i
      simp only [List.zipIdx_cons,List.map_cons,List.any_cons,ih (i+1)]
      by_cases h:s=i
      · subst h;simp
      · have:Nat.beq (0+i) s=false:=by
          cases hb:Nat.beq (0+i) s with
          | false=>rfl
          | true=>exact absurd (Nat.eq_of_beq_eq_true hb) (by omega)
        rw [this,Bool.false_or]
        apply decide_eq_decide.2
        simp;omega
  simp only [zA5]
  rw [e1,e2,zPx,hany args 0,zNo,zNo]
  by_cases h:s<args.length
  · have h1:decide (0≤s∧s<0+args.length)=true:=decide_eq_true (by omega)
    rw [h1,cond_true,if_pos (by omega),if_pos h];simp
  · have h1:decide (0≤s∧s<0+args.length)=false:=decide_eq_false (by omega)
    rw [h1,cond_false,if_neg h];simp
section
variable {w0 w w':World} {U Φ0 Φ Φ1 Φ' Φ2:Nat→Prop} {rv rv':Nat→Value} {E E':Nat→PV} {L L':Nat→List Nat}
def zWZ (w:World) (rv:Nat→Value) (E:Nat→PV) (Φ1:Nat→Prop) (i:Nat) (x:Arg):Prop :=
 (x.byref=true∧x.p=E (zAb+i))∨(x.byref=false∧x.p=E (zAb+i)∧(E (zAb+i)).ways=[])∨(x.byref=false∧Rep w Φ1 zB6 x.p (rv (zAb+i)) [])
def zNv (R:List Nat) (x:Arg):PV:=if x.byref then zGn (zDk R) x.p else x.p
theorem zTO {A A':Al} {p:PV} {v:Value} {M:List Nat} (hp:p.ways=[]) (hA:∀ a v,a.isWay=true→A a v→a.ways≠[]) (h:Rep w Φ A p v M):Rep w Φ A' p v M :=
 h.ways _ _ _ fun a v hw hx ha=>by
  rw [hp] at hx
  have h1:=hA a v hw ha
  cases uj:a.ways with
  | nil=>exact absurd uj h1
  | cons z zs=>have:=hx z (by rw [uj];simp);cases this
open Classical in
theorem zPv (C:Conf w0 U Φ0 w Φ rv E L) {R:List Nat} (hR:R.Nodup) (gr:∀ r∈R,(E r).isLock=false) (vt:∀ r∈R,r<zAb) (hRn:R.length≤1000) {as:List Arg} (hAn:as.length≤1000) (hΦ:∀ b,Φ b→Φ1 b) (hΦs:∀ b,Φ1 b→b<w.heap.size)
  (hΦR:∀ r∈R,∀ b∈L r,¬ Φ1 b) (hΦa:∀ i,i<as.length→∀ b∈L (zAb+i),¬ Φ1 b) (hA:∀ i x,as[i]? = some x→zWZ w rv E Φ1 i x) :
  ∃ rvc Ec Lc,(∀ s,s<zAb→Ec s=(zA5 (as.map (zNv R)) (R.map fun r=>zGn (zDk R) (E r))).get s)∧(∀ s,zAb≤s→Ec s = .bad)∧Conf w (fun b=>∃ s,b∈Lc s) Φ1 w Φ1 rvc Ec Lc ∧
   (∀ i,i<as.length→rvc i=rv (zAb+i))∧(∀ (j r:Nat),R[j]? = some r→rvc (zAm+j)=rv r)∧(∀ s,as.length≤s→s<zAm→rvc s=undef)∧∀ b,(∃ s,b∈Lc s)→(∃ r∈R,b∈L r)∨∃ i,i<as.length∧b∈L (zAb+i):=by
 let K:Nat→Prop:=fun i=>∃ x,as[i]? = some x∧x.byref=false∧Rep w Φ1 zB6 x.p (rv (zAb+i)) []
 let src:Nat→Option Nat:=fun s=>if s<as.length then (if K s then none else some (zAb+s)) else if zAm≤s then R[s-zAm]? else none
 let rvc:Nat→Value:=fun s=>if s<as.length then rv (zAb+s) else match src s with | some t=>rv t | none=>undef
 let Lc:Nat→List Nat:=fun s=>match src s with | some t=>L t | none=>[]
 let Ec:Nat→PV:=fun s=>if s<zAb then (zA5 (as.map (zNv R)) (R.map fun r=>zGn (zDk R) (E r))).get s else .bad
 have hh:zAm=50000000:=rfl
 have wV:zAb=1000000000:=rfl
 have yT:∀ s,s<zAb→Ec s=if s<as.length then (as.map (zNv R)).getD s .bad else if zAm≤s∧s<zAm+R.length then (R.map fun r=>zGn (zDk R) (E r)).getD (s-zAm) .bad else .bad:=by
  intro s hs
  simp only [Ec,if_pos hs]
  rw [zC8 (by simp;omega)]
  simp
 have hEh:∀ (j r:Nat),R[j]? = some r→Ec (zAm+j)=(E r).mapW (zEm (zDk R)):=by
  intro j r hj
  have ja:j<R.length:=(List.getElem?_eq_some_iff.1 hj).1
  rw [yT _ (by omega),if_neg (by omega),if_pos (by omega)]
  simp [List.getD,hj,zGn]
 have hrh:∀ (j r:Nat),R[j]? = some r→rvc (zAm+j)=rv r:=by
  intro j r hj
  have ja:j<R.length:=(List.getElem?_eq_some_iff.1 hj).1
  have:src (zAm+j)=some r:=by
   simp only [src]
   rw [if_neg (by omega),if_pos (by omega),Nat.add_sub_cancel_left,hj]
  simp only [rvc,this]
  rw [if_neg (by omega)]
 have gK:∀ s t,src s=some t→(t∈R∧∃ j,s=zAm+j∧R[j]? = some t)∨(s<as.length∧t=zAb+s∧¬ K s):=by
  intro s t h
  simp only [src] at h
  split at h
  ·rename_i hs
   split at h
   ·cases h
   ·rename_i hk;cases h;exact .inr ⟨hs,rfl,hk⟩
  ·split at h
   ·rename_i hs
    exact .inl ⟨List.mem_of_getElem? h,s-zAm,by omega,h⟩
   ·cases h
 have gL:∀ s s' t,src s=some t→src s'=some t→s=s':=by
  intro s s' t h h'
  rcases gK s t h with ⟨h1,j,h2,h3⟩ | ⟨h1,h2,_⟩<;>rcases gK s' t h' with ⟨j1,j',jb,wM⟩ | ⟨j1,jb,_⟩
  ·have hj:j<R.length:=(List.getElem?_eq_some_iff.1 h3).1
   have:j=j':=(List.getElem?_inj hj hR).1 (h3.trans wM.symm)
   omega
  ·have:=vt t h1;omega
  ·have:=vt t j1;omega
  ·omega
 have uU:∀ a v,a.isWay=true→zA1 w rv E a v→Rep w Φ1 (zA1 w rvc Ec) (zEm (zDk R) a) v []:=by
  intro a v _ ha
  refine zMb ha fun r h' hl hr=>?_
  obtain ⟨j,hj,rfl⟩:=zLN hl
  have ja:j<R.length:=(List.getElem?_eq_some_iff.1 hj).1
  refine ⟨by omega,fun pre nv np hn hh=>?_⟩
  rw [hrh j r hj,hEh j r hj,zDo (zCO _)] at hn
  exact zCK (zCO _) hn hh
 have hS:zDf w w Φ Φ1:=fun b hb=>⟨hΦ b hb,rfl⟩
 have hLs:∀ s b,b∈Lc s→∃ t,src s=some t∧b∈L t:=by
  intro s b hb
  simp only [Lc] at hb
  cases h:src s with
  | none=>rw [h] at hb;cases hb
  | some t=>rw [h] at hb;exact ⟨t,rfl,hb⟩
 have hU:∀ b,(∃ s,b∈Lc s)→(∃ r∈R,b∈L r)∨∃ i,i<as.length∧b∈L (zAb+i):=by
  rintro b ⟨s,hb⟩
  obtain ⟨t,h1,h2⟩:=hLs s b hb
  rcases gK s t h1 with ⟨h3,_⟩ | ⟨h3,rfl,_⟩
  ·exact .inl ⟨t,h3,h2⟩
  ·exact .inr ⟨s,h3,h2⟩
 have hnΦ:∀ b,(∃ s,b∈Lc s)→¬ Φ1 b:=by
  intro b hb
  rcases hU b hb with ⟨r,h1,h2⟩ | ⟨i,h1,h2⟩
  ·exact hΦR r h1 b h2
  ·exact hΦa i h1 b h2
 refine ⟨rvc,Ec,Lc,fun s hs=>if_pos hs,fun s hs=>if_neg (by omega),⟨fun s=>?_,fun s=>?_,fun s s' hI b hb yH=>?_,fun s b hb=>?_,fun b hb=>⟨hΦs b hb,.inl hb⟩,fun b hb=>hb,Nat.le_refl _,fun _ _ _=>rfl,rfl,rfl,rfl⟩,fun i hi=>if_pos hi,hrh,fun s h1 h2=>by simp only [rvc,src,if_neg (by omega:¬ s<as.length),if_neg (by omega:¬ zAm≤s)],hU⟩
 ·by_cases hs:s<as.length
  ·have hx:as[s]? = some (as[s]):=List.getElem?_eq_getElem hs
   have hE:Ec s=zNv R as[s]:=by rw [yT s (by omega),if_pos hs];simp [List.getD,hx]
   have hrvs:rvc s=rv (zAb+s):=if_pos hs
   rw [hE,hrvs]
   by_cases hk:K s
   ·have hL:Lc s=[]:=by simp only [Lc,src,if_pos hs,if_pos hk]
    rw [hL]
    obtain ⟨x,h1,h2,h3⟩:=hk
    rw [hx] at h1;cases h1
    simp only [zNv,h2,Bool.false_eq_true,if_false]
    exact h3.mono zDf.refl (fun _ _ _ h=>h.elim) (by simp)
   ·have hL:Lc s=L (zAb+s):=by simp only [Lc,src,if_pos hs,if_neg hk]
    rw [hL]
    rcases hA s _ hx with ⟨h1,h2⟩ | ⟨h1,h2,h3⟩ | ⟨h1,h2⟩
    ·simp only [zNv,h1,if_true,h2]
     exact Rep.map (zCO _).agg hS uU _ _ _ (fun _ _=>rfl) (C.rep (zAb+s))
    ·simp only [zNv,h1,Bool.false_eq_true,if_false,h2]
     exact (zTO h3 (fun a v hw h=>zI9 hw h) (C.rep (zAb+s))).mono (A:=zB6) hS (fun _ _ _ h=>h.elim) (fun _ _=>rfl)
    ·exact absurd ⟨_,hx,h1,h2⟩ hk
  ·by_cases hhs:zAm≤s∧s<zAm+R.length
   ·obtain ⟨j,rfl⟩:∃ j,s=zAm+j:=⟨s-zAm,by omega⟩
    have ja:j<R.length:=by omega
    obtain ⟨r,hj⟩:∃ r,R[j]? = some r:=⟨_,List.getElem?_eq_getElem ja⟩
    have hL:Lc (zAm+j)=L r:=by simp only [Lc,src,if_neg hs,if_pos hhs.1,Nat.add_sub_cancel_left,hj]
    rw [hL,hEh j r hj,hrh j r hj]
    exact Rep.map (zCO _).agg hS uU _ _ _ (fun _ _=>rfl) (C.rep r)
   ·have hL:Lc s=[]:=by
     simp only [Lc,src,if_neg hs]
     by_cases hb:zAm≤s
     ·rw [if_pos hb,List.getElem?_eq_none (by omega)]
     ·rw [if_neg hb]
    have hE:Ec s = .bad:=by
     by_cases hg:s<zAb
     ·rw [yT s hg,if_neg hs,if_neg hhs]
     ·exact if_neg hg
    rw [hL,hE];rfl
 ·simp only [Lc]
  cases h:src s with
  | none=>exact List.nodup_nil
  | some t=>exact C.nodup t
 ·obtain ⟨t,h1,h2⟩:=hLs s b hb
  obtain ⟨t',j1,jb⟩:=hLs s' b yH
  have:t=t':=Classical.byContradiction fun h=>C.disj t t' h b h2 jb
  subst this
  exact hI (gL s s' t h1 j1)
 ·obtain ⟨t,h1,h2⟩:=hLs s b hb
  exact ⟨(C.own t b h2).1,hnΦ b ⟨s,hb⟩,.inl ⟨s,hb⟩⟩
theorem zM0 {x y:PV} (h:zGb x y=true) (hx:x.isLock=false) (hh:y.unlock.heavy0=true):y.unlock=y∧zB9 x.unlock y:=by
 cases y<;>simp only [PV.unlock,PV.heavy0] at hh<;>try (cases hh;done)
 ·cases x<;>simp only [zGb] at h<;>try (cases h;done)
  exact ⟨rfl,(Nat.eq_of_beq_eq_true h).symm⟩
 ·cases x<;>simp only [zGb] at h<;>try (cases h;done)
  exact ⟨rfl,trivial⟩
 ·cases x<;>simp only [zGb] at h<;>try (cases h;done)
  exact ⟨rfl,trivial⟩
 ·cases x<;>simp only [zGb] at h<;>cases h
theorem zKk (C:Conf w0 U Φ0 w Φ rv E L) {R:List Nat} (hR:R.Nodup) (gr:∀ r∈R,(E r).isLock=false) (vt:∀ r∈R,r<zAb) (hRn:R.length≤1000) {m:Nat} {Uc:Nat→Prop}
    (hUc:∀ b,Uc b→(∃ r∈R,b∈L r)∨∃ i,i<m∧b∈L (zAb+i)) (C':Conf w Uc Φ1 w' Φ' rv' E' L') (jH:∀ (j r:Nat),R[j]? = some r→rv' (zAm+j)=rv r)
    (yJ:∀ (j r:Nat),R[j]? = some r→zGb (E r) (zGn (zB4 R) (E' (zAm+j)))=true) {n:Nat} (hn:n≤1000)
    (hΦ2:∀ b,Φ b→Φ2 b) (hΦ2s:∀ b,Φ2 b→b<w'.heap.size∧(Φ0 b∨U b∨w0.heap.size≤b)) (hΦ2o:∀ s,s<zAb→s∉R→∀ b∈L s,¬ Φ2 b) (hΦ2n:∀ t b,b∈L' t→¬ Φ2 b)
    (hT:∀ t,((∃ j,j<R.length∧t=zAm+j)∨∃ j,j<n∧t=zAx+j)→Rep w' Φ2 (zA1 w' rv' E') (E' t) (rv' t) (L' t)) :
    ∃ rv2 E2 L2,Conf w0 U Φ0 w' Φ2 rv2 E2 L2∧(∀ s,s<zAb→rv2 s=rv s)∧(∀ s,s<zAb→s∉R→E2 s=(E s).mapW (zDB R))∧(∀ (j r:Nat),R[j]? = some r→E2 r=zGn (zB4 R) (E' (zAm+j))) ∧
      (∀ j,j<n→E2 (zAb+j)=zGn (zB4 R) (E' (zAx+j))∧rv2 (zAb+j)=rv' (zAx+j))∧∀ s,zAb+n≤s→E2 s = .bad:=by
  have hh:zAm=50000000:=rfl
  have ho:zAx=60000000:=rfl
  have wV:zAb=1000000000:=rfl
  let cal:Nat→Option Nat:=fun s=>if s<zAb then (match R.findIdx? (· == s) with | some j=>some (zAm+j) | none=>none) else if s<zAb+n then some (zAx+(s-zAb)) else none
  let rv2:Nat→Value:=fun s=>if s<zAb then rv s else match cal s with | some t=>rv' t | none=>undef
  let E2:Nat→PV:=fun s=>match cal s with | some t=>zGn (zB4 R) (E' t) | none=>if s<zAb then (E s).mapW (zDB R) else .bad
  let L2:Nat→List Nat:=fun s=>match cal s with | some t=>L' t | none=>if s<zAb then L s else []
  have uA:∀ (j r:Nat),R[j]? = some r→cal r=some (zAm+j):=by
    intro j r hj
    have hr:=vt r (List.mem_of_getElem? hj)
    have:R.findIdx? (· == r)=some j:=by
      rw [List.findIdx?_eq_some_iff_getElem]
      have ja:j<R.length:=(List.getElem?_eq_some_iff.1 hj).1
      have hjr:R[j]=r:=(List.getElem?_eq_some_iff.1 hj).2
      refine ⟨ja,by simp [hjr],fun k hk=>?_⟩
      simp only [beq_iff_eq,Bool.not_eq_true,beq_eq_false_iff_ne]
      intro hc
      have uM:k<R.length:=by omega
      have h1:R[k]? = R[j]?:=by rw [List.getElem?_eq_getElem uM,hc,hj]
      have:=(List.getElem?_inj uM hR).1 h1
      omega
    simp only [cal,if_pos hr,this]
  have vu:∀ s,s<zAb→s∉R→cal s=none:=by
    intro s hs jC
    have:R.findIdx? (· == s)=none:=by
      rw [List.findIdx?_eq_none_iff]
      intro x hx
      simp only [beq_eq_false_iff_ne]
      intro hc;subst hc;exact jC hx
    simp only [cal,if_pos hs,this]
  have yw:∀ s t,cal s=some t→(∃ j,R[j]? = some s∧t=zAm+j∧j<R.length∧s<zAb)∨∃ j,j<n∧s=zAb+j∧t=zAx+j:=by
    intro s t h
    by_cases hs:s<zAb
    · by_cases jC:s∈R
      · obtain ⟨j,hj⟩:=List.getElem?_of_mem jC
        rw [uA j s hj] at h;cases h
        exact .inl ⟨j,hj,rfl,(List.getElem?_eq_some_iff.1 hj).1,hs⟩
      · rw [vu s hs jC] at h;cases h
    · simp only [cal,if_neg hs] at h
      split at h
      · have h:=Option.some.inj h;exact .inr ⟨s-zAb,by omega,by omega,h.symm⟩
      · cases h
  have gL:∀ s s' t,cal s=some t→cal s'=some t→s=s':=by
    intro s s' t h h'
    rcases yw s t h with ⟨j,h1,h2,h3,_⟩ | ⟨j,h1,h2,h3⟩<;>rcases yw s' t h' with ⟨j',j1,jb,wM,_⟩ | ⟨j',j1,jb,wM⟩
    · have:j=j':=by omega
      subst this
      rw [h1] at j1;simpa using j1
    · omega
    · omega
    · omega
  have yX:∀ s,cal s=none→s<zAb→s∉R:=by
    intro s h hs jC
    obtain ⟨j,hj⟩:=List.getElem?_of_mem jC
    rw [uA j s hj] at h;cases h
  have qW:∀ s,s<zAb→s∉R→∀ b∈L s,¬ Uc b:=by
    intro s hs jC b hb hu
    rcases hUc b hu with ⟨r,h1,h2⟩ | ⟨i,h1,h2⟩
    · exact C.disj s r (fun hc=>jC (hc▸h1)) b hb h2
    · exact C.disj s (zAb+i) (by omega) b hb h2
  have yz:∀ s,s<zAb→s∉R→∀ b∈L s,w'.heap[b]? = w.heap[b]?:=fun s hs jC b hb=>C'.kept b (C.own s b hb).1 (qW s hs jC b hb)
  have hΦsame:zDf w w' Φ Φ2:=fun b hb=>⟨hΦ2 b hb,C'.kept b (C.frz b hb).1 fun hu=>by
    rcases hUc b hu with ⟨r,_,h2⟩ | ⟨i,_,h2⟩
    · exact (C.own r b h2).2.1 hb
    · exact (C.own _ b h2).2.1 hb⟩
  have gM:=zIW R
  have hown:∀ a v,a.isWay=true→zA1 w rv E a v→zDB R a=a→zA1 w' rv2 E2 a v:=by
    intro a v hw ha hk
    have hr:=zCM ha
    have hy:∀ k,a ≠ .yld k:=fun k hc=>by subst hc;exact ha.elim
    have hl:∀ xs k,a ≠ .log xs k:=fun xs k hc=>by subst hc;exact ha.elim
    by_cases hrR:(zA3 a).1∈R
    · have hp:=zJU hw hk hy hl hrR
      obtain ⟨j,hj⟩:=List.getElem?_of_mem hrR
      refine ha.mono fun nv np j7 qK=>?_
      rw [hp] at j7 ⊢
      simp only [zAN,Option.some.injEq,Prod.mk.injEq] at j7
      obtain ⟨h1,h2⟩:=j7
      have hE2:E2 (zA3 a).1=zGn (zB4 R) (E' (zAm+j)):=by simp only [E2,uA j _ hj]
      rw [hE2] at h2
      obtain ⟨g1,g2⟩:=zM0 (yJ j _ hj) (gr _ hrR) (by rw [h2];exact qK)
      refine ⟨(E (zA3 a).1).unlock,?_,by rw [← h2,g1];exact g2⟩
      simp only [zAN,Option.some.injEq,Prod.mk.injEq,and_true]
      rw [← h1];simp only [rv2,if_pos hr]
    · refine zCz C (zDt gM) ha ?_ ?_ (yz _ hr hrR)
      · simp only [E2,vu _ hr hrR,if_pos hr]
      · simp only [rv2,if_pos hr]
  have hown':∀ a v,a.isWay=true→zA1 w rv E a v→Rep w' Φ2 (zA1 w' rv2 E2) (zDB R a) v []:=by
    intro a v hw ha
    rcases gM a with hk | ⟨_,hk⟩
    · rw [hk];exact zCN hw (hown a v hw ha hk)
    · rw [hk];rfl
  have hback:∀ a v,a.isWay=true→zA1 w' rv' E' a v→Rep w' Φ2 (zA1 w' rv2 E2) (zEm (zB4 R) a) v []:=by
    intro a v _ ha
    refine zMb ha fun r h' hl hr=>?_
    obtain ⟨j,hj,rfl⟩:=zNA hl
    have j2:=vt h' (List.mem_of_getElem? hj)
    refine ⟨j2,fun pre nv np j7 qK=>?_⟩
    have e1:rv2 h'=rv' (zAm+j):=by simp only [rv2,if_pos j2];exact (jH j h' hj).symm
    have e2:E2 h'=(E' (zAm+j)).mapW (zEm (zB4 R)):=by simp only [E2,uA j h' hj];rfl
    rw [e1,e2,zDo (zCO _)] at j7
    exact zCK (zCO _) j7 qK
  have un:∀ s b,b∈L2 s→(∃ t,cal s=some t∧b∈L' t)∨(cal s=none∧s<zAb∧b∈L s):=by
    intro s b hb
    simp only [L2] at hb
    cases h:cal s with
    | some t=>rw [h] at hb;exact .inl ⟨t,rfl,hb⟩
    | none =>
      rw [h] at hb
      by_cases hs:s<zAb
      · simp only [if_pos hs] at hb;exact .inr ⟨rfl,hs,hb⟩
      · simp only [if_neg hs] at hb;cases hb
  have vw:∀ t s b,b∈L' t→s<zAb→s∉R→b∉L s:=by
    intro t s b hb hs jC kb
    rcases (C'.own t b hb).2.2 with h1 | h1
    · exact qW s hs jC b kb h1
    · have:=(C.own s b kb).1;omega
  refine ⟨rv2,E2,L2,⟨fun s=>?_,fun s=>?_,fun s s' hI b hb yH=>?_,fun s b hb=>?_,hΦ2s,fun b hb=>hΦ2 b (C.frz0 b hb),Nat.le_trans C.size C'.size,fun b hb hu=>?_,C'.os.trans C.os,C'.tape.trans C.tape,C'.output.trans C.output⟩,fun s hs=>if_pos hs,fun s hs jC=>?_,fun j r hj=>?_,fun j hj=>?_,fun s hs=>?_⟩
  · cases h:cal s with
    | some t =>
      have e1:E2 s=zGn (zB4 R) (E' t):=by simp only [E2,h]
      have e2:L2 s=L' t:=by simp only [L2,h]
      have e3:rv2 s=rv' t:=by
        rcases yw s t h with ⟨j,h1,h2,_,h4⟩ | ⟨j,h1,h2,h3⟩
        · simp only [rv2,if_pos h4];rw [h2];exact (jH j s h1).symm
        · simp only [rv2];rw [if_neg (by omega),h]
      rw [e1,e2,e3]
      refine Rep.map (zCO _).agg zDf.refl hback _ _ _ (fun _ _=>rfl) (hT t ?_)
      rcases yw s t h with ⟨j,_,h2,h3,_⟩ | ⟨j,h1,_,h3⟩
      · exact .inl ⟨j,h3,h2⟩
      · exact .inr ⟨j,h1,h3⟩
    | none =>
      by_cases hs:s<zAb
      · have e1:E2 s=(E s).mapW (zDB R):=by simp only [E2,h,if_pos hs]
        have e2:L2 s=L s:=by simp only [L2,h,if_pos hs]
        have e3:rv2 s=rv s:=if_pos hs
        rw [e1,e2,e3]
        exact Rep.map (zDt gM).agg hΦsame hown' _ _ _ (yz s hs (yX s h hs)) (C.rep s)
      · have e1:E2 s = .bad:=by simp only [E2,h,if_neg hs]
        have e2:L2 s=[]:=by simp only [L2,h,if_neg hs]
        rw [e1,e2];rfl
  · simp only [L2]
    cases h:cal s with
    | some t=>exact C'.nodup t
    | none => by_cases hs:s<zAb
              · simp only [if_pos hs];exact C.nodup s
              · simp only [if_neg hs];exact List.nodup_nil
  · rcases un s b hb with ⟨t,h1,h2⟩ | ⟨h1,h2,h3⟩<;>rcases un s' b yH with ⟨t',j1,jb⟩ | ⟨j1,jb,wM⟩
    · have:t=t':=Classical.byContradiction fun h=>C'.disj t t' h b h2 jb
      subst this;exact hI (gL s s' t h1 j1)
    · exact vw t s' b h2 jb (yX s' j1 jb) wM
    · exact vw t' s b jb h2 (yX s h1 h2) h3
    · exact C.disj s s' hI b h3 wM
  · rcases un s b hb with ⟨t,h1,h2⟩ | ⟨h1,h2,h3⟩
    · have:=C'.own t b h2
      refine ⟨this.1,hΦ2n t b h2,?_⟩
      rcases this.2.2 with h4 | h4
      · rcases hUc b h4 with ⟨r,_,h5⟩ | ⟨i,_,h5⟩
        · exact (C.own r b h5).2.2
        · exact (C.own _ b h5).2.2
      · exact .inr (Nat.le_trans C.size h4)
    · have:=C.own s b h3
      exact ⟨Nat.lt_of_lt_of_le this.1 C'.size,hΦ2o s h2 (yX s h1 h2) b h3,this.2.2⟩
  · rw [C'.kept b (Nat.lt_of_lt_of_le hb C.size) fun h=>?_]
    · exact C.kept b hb hu
    · have hx:∀ t,b∈L t→False:=fun t ht=>by
        rcases (C.own t b ht).2.2 with h1 | h1
        · exact hu h1
        · omega
      rcases hUc b h with ⟨r,_,h5⟩ | ⟨i,_,h5⟩
      · exact hx r h5
      · exact hx _ h5
  · simp only [E2,vu s hs jC,if_pos hs]
  · simp only [E2,uA j r hj]
  · have:cal (zAb+j)=some (zAx+j):=by
      simp only [cal];rw [if_neg (by omega),if_pos (by omega),Nat.add_sub_cancel_left]
    refine ⟨by simp only [E2,this],?_⟩
    simp only [rv2,this];rw [if_neg (by omega)]
  · have:cal s=none:=by simp only [cal];rw [if_neg (by omega),if_neg (by omega)]
    simp only [E2,this];rw [if_neg (by omega)]
end
theorem zEp {w:World}:∀ {pre:zAO} {v nv:Value} {p q:PV},zAN w v p pre=some (nv,q)→zAz p pre=some q
 | [],v,nv,p,q,h=>by simp only [zAN,Option.some.injEq,Prod.mk.injEq] at h;simp [zAz,h.2]
 | (i,c)::rest,v,nv,p,q,h=>by
  rw [zA2] at h
  rw [zBY]
  cases hc:Eng.child p i c with
  | none=>rw [hc] at h;cases h
  | some x =>
   rw [hc] at h;simp only [Option.bind_some] at h ⊢
   cases hk:kid w v p i c with
   | none=>rw [hk] at h;cases h
   | some u=>rw [hk] at h;exact zEp h
theorem zPX (R:List Nat) (p:PV) (hp:p.isWay=true):(zDB R p).isTup=false:=by
 rcases zIW R p with h | ⟨_,h⟩
 ·rw [h];cases p<;>first | rfl | cases hp
 ·rw [h];rfl
theorem zPD (m:List (Nat×Nat)) (p:PV) (hp:p.isWay=true):(zEm m p).isTup=false:=by
 cases p<;>first | (cases hp;done) | skip
 all_goals
  simp only [zEm]
  first | rfl | (split<;>rfl)
section
variable {P:Program} {w0 w:World} {U Φ0 Φ:Nat→Prop} {nt:Nat} {hv:Hid} {a:Act} {e e':Env} {rv:Nat→Value} {E:Nat→PV} {L:Nat→List Nat} {o:zAC}
def zNx (w:World) (Φ:Nat→Prop) (rv:Nat→Value) (E:Nat→PV) (i:Nat) (x:Arg):Prop :=
 (∀ y∈x.shared,y.1<zAb)∧((x.byref=true∧x.p=E (zAb+i))∨(x.byref=false∧x.p=E (zAb+i)∧(E (zAb+i)).ways=[]) ∨
  (x.byref=false∧∀ Φ1:Nat→Prop,(∀ b,Φ b→Φ1 b)→(∀ y∈x.shared,Cov w Φ rv E Φ1 y)→Rep w Φ1 zB6 x.p (rv (zAb+i)) []))
theorem zOI (jF:zF9 P o) (S:St w0 U Φ0 nt hv a w e Φ rv E L) {d:Option Nat} (hd:∀ x,d=some x→x<nt) {f:FuncId} {as:List Arg} {vs:Array Value} (yE:vs.size=as.length) (yf:∀ i,i<as.length→vs[i]? = some (rv (zAb+i)))
  (hA:∀ i x,as[i]? = some x→zNx w Φ rv E i x) {again:PM} (h:(zQT d f as again).run o e=some e') :
  again.run o e=some e'∨Callable P f∧Calls P f vs w fun en w''=>∃ u,en = .returned u∧Fr w0 U Φ0 nt hv (a.put d u) w'' e':=by
 have hh:zAm=50000000:=rfl
 have ho:zAx=60000000:=rfl
 have wV:zAb=1000000000:=rfl
 have jv:=S.small
 obtain ⟨R,h1⟩:=zKu h
 obtain ⟨hc,h2⟩:=zAF h1
 simp only [Bool.and_eq_true] at hc
 obtain ⟨⟨⟨⟨jS,jE⟩,uW⟩,gq⟩,hc5⟩:=hc
 have hR:=zGa jS
 have vt:∀ r∈R,r<zAb:=fun r hr=>zBW (List.all_eq_true.1 jE r hr)
 have hRn:=Nat.le_of_ble_eq_true uW
 have hAn:=Nat.le_of_ble_eq_true gq
 obtain ⟨hRl',h3⟩:=zJg h2
 have gr:∀ r∈R,(E r).isLock=false:=fun r hr=>by rw [S.env r (vt r hr)];exact hRl' r hr
 have u3:R.map e.get=R.map E:=List.map_congr_left fun r hr=>(S.env r (vt r hr)).symm
 rw [u3] at h3
 simp only [PM.run] at h3
 cases gu:o f (as.map fun a=>if a.byref then zGn (zDk R) a.p else a.p) ((R.map E).map (zGn (zDk R))) with
 | none=>rw [gu] at h3;cases h3
 | some r =>
  obtain ⟨v,hO⟩:=r
  rw [gu] at h3;simp only at h3
  cases hb:((as.flatMap (·.shared)).isEmpty||v.free&&zEz hO) with
  | false=>rw [hb] at h3;exact .inl h3
  | true =>
   rw [hb] at h3;simp only [cond_true] at h3
   refine .inr ⟨(jF f _ _ v hO gu).1,?_⟩
   let sh:=as.flatMap (·.shared)
   let Φ1:Nat→Prop:=fun b=>Φ b∨∃ y∈sh,∃ nv q Li A,zAN w (rv y.1) (E y.1).unlock y.2=some (nv,q)∧Rep w Φ A q nv Li∧b∈Li
   have yr:∀ y∈sh,y.1∉R:=fun y hy hyR=>by
    have:=List.all_eq_true.1 hc5 y hy
    rw [List.contains_iff_mem.2 hyR] at this;cases this
   have uS:∀ (y:Nat×zAO) nv q Li A,zAN w (rv y.1) (E y.1).unlock y.2=some (nv,q)→Rep w Φ A q nv Li→∀ b∈Li,b∈L y.1:=by
    intro y nv q Li A hf hr b jL
    obtain ⟨nv',Li',h4,h5,h6⟩:=zBG (zBT (S.conf.rep y.1)) (zEp hf)
    rw [hf] at h4;cases h4
    have:=Rep.uniq _ _ _ _ hr h6
    subst this;exact h5 b jL
   have hshg:∀ y∈sh,y.1<zAb:=by
    intro y hy
    obtain ⟨x,hx,hyx⟩:=List.mem_flatMap.1 hy
    obtain ⟨i,hi⟩:=List.getElem?_of_mem hx
    exact (hA i x hi).1 y hyx
   have hΦ:∀ b,Φ b→Φ1 b:=fun b hb => .inl hb
   have vD:∀ t,(∀ y∈sh,y.1≠t)→∀ b∈L t,¬ Φ1 b:=by
    intro t ht b kZ y6
    rcases y6 with h4 | ⟨y,hy,nv,q,Li,A,h4,h5,h6⟩
    ·exact (S.conf.own t b kZ).2.1 h4
    ·exact S.conf.disj y.1 t (ht y hy) b (uS y nv q Li A h4 h5 b h6) kZ
   have hΦs:∀ b,Φ1 b→b<w.heap.size:=by
    rintro b (y6 | ⟨y,hy,nv,q,Li,A,h4,h5,h6⟩)
    ·exact (S.conf.frz b y6).1
    ·exact (S.conf.own _ b (uS y nv q Li A h4 h5 b h6)).1
   have hA':∀ i x,as[i]? = some x→zWZ w rv E Φ1 i x:=by
    intro i x hx
    rcases (hA i x hx).2 with h4 | h4 | ⟨h4,h5⟩
    ·exact .inl h4
    ·exact .inr (.inl h4)
    ·refine .inr (.inr ⟨h4,h5 Φ1 hΦ fun y hy nv q Li A hf hr b jL => .inr ⟨y,List.mem_flatMap.2 ⟨x,List.mem_of_getElem? hx,hy⟩,nv,q,Li,A,hf,hr,jL⟩⟩)
   obtain ⟨rvc,Ec,Lc,q1,q2,q3,q4,q5,q5u,q6⟩:=zPv S.conf hR gr vt hRn hAn hΦ hΦs (fun r hr=>vD r fun y hy hc=>yr y hy (hc▸hr)) (fun i hi=>vD (zAb+i) fun y hy hc=>by have:=hshg y hy;omega) hA'
   have gN:=(jF f _ _ v hO gu).2 w Φ1 rvc Ec Lc vs (fun s hs=>by rw [q1 s hs,List.map_map];rfl) q2 q3 (by simpa using yE) (fun i hi=>by
    have qz:i<as.length:=by simpa using hi
    rw [q4 i qz];exact yf i qz) (fun s h1 h2=>q5u s (by simpa using h1) h2)
   refine gN.mono fun en w' vz=>?_
   obtain ⟨u,Φ',rv',E',L',rfl,C',hZ,u4,uv⟩:=vz
   refine ⟨u,rfl,?_⟩
   obtain ⟨e1,g1,g2⟩:=zKt h3
   obtain ⟨e2,g3,g4,g5,g6,g7,g8⟩:=zM2 hR g1
   simp only [List.length_map] at g4 hZ u4
   have hE'h:∀ (j r:Nat),R[j]? = some r→∃ p,hO[j]? = some p∧E' (zAm+j)=p:=by
    intro j r hj
    have ja:j<R.length:=(List.getElem?_eq_some_iff.1 hj).1
    have hjh:j<hO.length:=by omega
    refine ⟨hO[j],List.getElem?_eq_getElem hjh,?_⟩
    rw [(u4 j ja).1];simp [List.getD,List.getElem?_eq_getElem hjh]
   have jH:∀ (j r:Nat),R[j]? = some r→rv' (zAm+j)=rv r:=fun j r hj=>by
    rw [(u4 j (List.getElem?_eq_some_iff.1 hj).1).2,q5 j r hj]
   have yJ:∀ (j r:Nat),R[j]? = some r→zGb (E r) (zGn (zB4 R) (E' (zAm+j)))=true:=by
    intro j r hj
    obtain ⟨p,ve,w6⟩:=hE'h j r hj
    rw [w6]
    exact g6 j _ _ (by simp [hj]) (by simp [ve])
   have hΦ1sh:sh.isEmpty=true→∀ b,Φ1 b→Φ b:=by
    intro hs b y6
    rcases y6 with h4 | ⟨y,hy,_⟩
    ·exact h4
    ·rw [List.isEmpty_iff.1 hs] at hy;cases hy
   have yd:∀ s,s<zAb→s∉R→∀ b∈L s,¬ (∃ t,b∈Lc t):=by
    intro s hs jC b hb hu
    rcases q6 b hu with ⟨r,h4,h5⟩ | ⟨i,h4,h5⟩
    ·exact S.conf.disj s r (fun hc=>jC (hc▸h4)) b hb h5
    ·exact S.conf.disj s (zAb+i) (by omega) b hb h5
   have wA:zEz hO=true→∀ j,j<R.length→(E' (zAm+j)).free=true:=by
    intro hf j hj
    rw [(u4 j hj).1]
    have hjh:j<hO.length:=by omega
    have key:∀ (l:List PV),zEz l=true→∀ j,j<l.length→(l.getD j .bad).free=true:=by
     intro l
     induction l with
     | nil=>intro _ j hj;simp at hj
     | cons x l ih =>
      intro h j hj
      simp only [zEz,Bool.and_eq_true] at h
      cases j with
      | zero=>exact h.1
      | succ j=>simpa using ih h.2 j (by simpa using hj)
    exact key hO hf j hjh
   have back : ∀ n,n≤1000→(v.free=true→∀ j,j<n→(E' (zAx+j)).free=true) →
     ∃ Φ2 rv2 E2 L2,Conf w0 U Φ0 w' Φ2 rv2 E2 L2∧(∀ s,s<zAb→rv2 s=rv s)∧(∀ s,s<zAb→s∉R→E2 s=(E s).mapW (zDB R))∧(∀ (j r:Nat),R[j]? = some r→E2 r=zGn (zB4 R) (E' (zAm+j))) ∧
     (∀ j,j<n→E2 (zAb+j)=zGn (zB4 R) (E' (zAx+j))∧rv2 (zAb+j)=rv' (zAx+j))∧∀ s,zAb+n≤s→E2 s = .bad:=by
    intro n hn qn
    by_cases j9:sh.isEmpty=true
    ·obtain ⟨rv2,E2,L2,hl⟩:=zKk (Φ2:=Φ') S.conf hR gr vt hRn q6 C' jH yJ hn (fun b y6=>C'.frz0 b (hΦ b y6))
      (fun b y6=>by
       refine ⟨(C'.frz b y6).1,?_⟩
       rcases (C'.frz b y6).2 with h4 | h4 | h4
       ·exact (S.conf.frz b (hΦ1sh j9 b h4)).2
       ·rcases q6 b h4 with ⟨r,_,h5⟩ | ⟨i,_,h5⟩
        ·exact .inr (S.conf.own r b h5).2.2
        ·exact .inr (S.conf.own _ b h5).2.2
       ·exact .inr (.inr (Nat.le_trans S.conf.size h4)))
      (fun s hs jC b y6 hp=>by
       rcases (C'.frz b hp).2 with h4 | h4 | h4
       ·exact (S.conf.own s b y6).2.1 (hΦ1sh j9 b h4)
       ·exact yd s hs jC b y6 h4
       ·have:=(S.conf.own s b y6).1;omega)
      (fun t b y6=>(C'.own t b y6).2.1) (fun t _=>C'.rep t)
     exact ⟨Φ',rv2,E2,L2,hl⟩
    ·have hvf:v.free=true∧zEz hO=true:=by
      have hse':sh.isEmpty=false:=by simpa using j9
      rw [show (as.flatMap (·.shared)).isEmpty=false from hse'] at hb
      simpa using hb
     obtain ⟨rv2,E2,L2,hl⟩:=zKk (Φ2:=Φ) S.conf hR gr vt hRn q6 C' jH yJ hn (fun b y6=>y6)
      (fun b y6=>⟨Nat.lt_of_lt_of_le (S.conf.frz b y6).1 C'.size,(S.conf.frz b y6).2⟩)
      (fun s _ _ b y6=>(S.conf.own s b y6).2.1)
      (fun t b y6 hp=>(C'.own t b y6).2.1 (C'.frz0 b (hΦ b hp)))
      (fun t ht=>by
       refine Rep.free _ _ _ ?_ (C'.rep t)
       rcases ht with ⟨j,hj,rfl⟩ | ⟨j,hj,rfl⟩
       ·exact wA hvf.2 j hj
       ·exact qn hvf.1 j hj)
     exact ⟨Φ,rv2,E2,L2,hl⟩
   have st:∀ {Φ2:Nat→Prop} {rv2:Nat→Value} {E2:Nat→PV} {L2:Nat→List Nat},Conf w0 U Φ0 w' Φ2 rv2 E2 L2→(∀ s,s<zAb→rv2 s=rv s)→(∀ s,s<zAb→s∉R→E2 s=(E s).mapW (zDB R)) →
     (∀ (j r:Nat),R[j]? = some r→E2 r=zGn (zB4 R) (E' (zAm+j)))→St w0 U Φ0 nt hv a w' e2 Φ2 rv2 E2 L2:=by
    intro Φ2 rv2 E2 L2 C2 k1 k2 k3
    refine S.turn C2 (fun s hs=>?_) k1 (fun d ps hd hp=>?_)
    ·by_cases jC:s∈R
     ·obtain ⟨j,hj⟩:=List.getElem?_of_mem jC
      obtain ⟨p,ve,w6⟩:=hE'h j s hj
      rw [k3 j s hj,g8 j s (zGn (zB4 R) p) hj (by simp [ve]),w6]
     ·rw [k2 s hs jC,g7 s jC,g2 s,S.env s hs]
    ·have uf:d<zAb:=by omega
     by_cases hdR:d∈R
     ·obtain ⟨j,hj⟩:=List.getElem?_of_mem hdR
      have:=yJ j d hj
      rw [k3 j d hj] at hp
      rw [hp] at this
      cases E d<;>cases this
     ·rw [k2 d uf hdR] at hp
      exact zDV (zPX R) hp
   cases d with
   | none =>
    obtain ⟨Φ2,rv2,E2,L2,C2,k1,k2,k3,k4,k5⟩:=back 0 (by omega) (fun _ j hj=>by omega)
    have jz:(put none (zGn (zB4 R) v)).run o e2=some e':=by
     revert g3;cases zGn (zB4 R) v<;>exact fun h=>h
    simp only [put,PM.run,Option.some.injEq] at jz
    subst jz
    exact ⟨Φ2,rv2,E2,L2,st C2 k1 k2 k3,fun g hg=>k5 g hg⟩
   | some d =>
    have uK:=hd d rfl
    cases hvt:v.isTup with
    | false =>
     have u5:∀ ps,v ≠ .tup ps:=fun ps hc=>by rw [hc] at hvt;cases hvt
     obtain ⟨o1,o2⟩:=uv.one u5
     obtain ⟨Φ2,rv2,E2,L2,C2,k1,k2,k3,k4,k5⟩:=back 1 (by omega) (fun hf j hj=>by
      have:j=0:=by omega
      subst this;rw [Nat.add_zero,o1];exact hf)
     obtain ⟨m1,m2⟩:=k4 0 (by omega)
     simp only [Nat.add_zero] at m1 m2
     have jz:(put (some d) (zGn (zB4 R) v)).run o e2=some e':=by
      have hnt2:∀ ps,zGn (zB4 R) v ≠ .tup ps:=fun ps hc=>by
       obtain ⟨ps',jf,_⟩:=zDV (zPD _) hc
       exact u5 ps' jf
      revert g3
      simp only [zDg]
      split
      ·rename_i hc;exact absurd hc (hnt2 _)
      ·exact fun h=>h
     have:=zFw (st C2 k1 k2 k3) hd (g:=zAb) (Nat.le_refl _) (by rw [m1,o1];exact jz) (fun s hs hI=>k5 s (by omega))
     rw [m2,o2] at this;exact this
    | true =>
     cases uL:v<;>rw [uL] at hvt<;>try (cases hvt;done)
     rename_i ps
     subst uL
     obtain ⟨us,rfl,o2,o3⟩:=uv.many ps rfl
     have e1:zGn (zB4 R) (.tup ps) = .tup (zCC (zEm (zB4 R)) ps):=rfl
     rw [e1] at g3
     simp only [zDg] at g3
     obtain ⟨uZ,g9⟩:=zAF g3
     simp only [Bool.and_eq_true] at uZ
     have hl16:=Nat.le_of_ble_eq_true uZ.1
     rw [zCX] at hl16
     obtain ⟨Φ2,rv2,E2,L2,C2,k1,k2,k3,k4,k5⟩:=back ps.length (by omega) (fun hf j hj=>by
      obtain ⟨p,hp⟩:∃ p,ps[j]? = some p:=⟨_,List.getElem?_eq_getElem hj⟩
      rw [(o3 j p hp).1]
      have key:∀ (l:List PV),zEz l=true→∀ p∈l,p.free=true:=by
       intro l
       induction l with
       | nil=>intro _ p hp;cases hp
       | cons x l ih =>
        intro h p hp
        simp only [zEz,Bool.and_eq_true] at h
        rcases List.mem_cons.1 hp with rfl | hp
        ·exact h.1
        ·exact ih h.2 p hp
      exact key ps hf p (List.mem_of_getElem? hp))
     simp only [PM.run] at g9
     obtain ⟨L3,S3⟩:=(st C2 k1 k2 k3).empty uK
     have vF:∀ g,zAb≤g→g≠d:=fun g hg=>by omega
     refine zEW uK (vs:=us) (zCC (zEm (zB4 R)) ps) 0 S3 (fun ps hp=>by rw [zAj] at hp;cases hp) (by rw [zCX];omega) (by rw [zCX];omega) (fun j p hp=>?_) (fun g hg hI=>?_) (fun x hx=>?_) (fun j hj=>by omega) g9
     ·rw [zGZ] at hp
      cases vM:ps[j]? with
      | none=>rw [vM] at hp;cases hp
      | some p0 =>
       rw [vM] at hp;simp only [Option.map_some,Option.some.injEq] at hp
       have hj:j<ps.length:=(List.getElem?_eq_some_iff.1 vM).1
       obtain ⟨m1,m2⟩:=k4 j hj
       obtain ⟨m3,m4⟩:=o3 j p0 vM
       simp only [Nat.add_zero,Nat.zero_add]
       rw [zAg (vF _ (by omega)),m1,m3,m2]
       exact ⟨hp,m4⟩
     ·rw [zAg (vF g hg)]
      refine k5 g ?_
      refine Nat.le_of_not_lt fun yF=>hI (g-zAb) (by rw [zCX];omega) (by omega)
     ·have:=List.all_eq_true.1 uZ.2 x hx
      simpa using this
end
end Go.Eng
namespace Go.Eng
open Go
theorem zOR (off:Nat):∀ (vs:List Value) (k:Nat) (cells:Array Value),off+k+vs.length≤cells.size →
  ((vs.zipIdx k).foldl (fun cs x=>cs.setIfInBounds (off+x.2) x.1) cells).toList=cells.toList.take (off+k)++vs++cells.toList.drop (off+k+vs.length)
 | [],k,cells,h=>by simp
 | v :: vs,k,cells,h=>by
  simp only [List.length_cons] at h
  simp only [List.zipIdx_cons,List.foldl_cons]
  rw [zOR off vs (k+1) (cells.setIfInBounds (off+k) v) (by simp;omega)]
  apply List.ext_getElem?
  intro m
  rw [zCL (by simp;omega),zCL (by simp;omega)]
  simp only [Array.toList_setIfInBounds,List.getElem?_set,List.length_cons,Array.length_toList]
  by_cases h1:m<off+k
  ·have:¬ off+k=m:=by omega
   rw [if_pos (by omega),if_pos h1,if_neg this]
  ·by_cases h2:m=off+k
   ·subst h2
    have h5:off+k<off+(k+1):=by omega
    have h6:off+k<cells.size:=by omega
    have h7:off+k<off+k+(vs.length+1):=by omega
    simp [h5,h6,h7]
   ·have h3:¬ off+k=m:=by omega
    by_cases h4:m<off+k+(vs.length+1)
    ·rw [if_neg (by omega),if_pos (by omega),if_neg h1,if_pos h4]
     rw [show m-(off+k)=(m-(off+(k+1)))+1 by omega];simp
    ·rw [if_neg (by omega),if_neg (by omega),if_neg h1,if_neg h4,if_neg h3]
theorem zN5 (off:Nat) (v:Value) (cells:Array Value) (h:off+v.cells.size≤cells.size):v.cells.zipIdx.foldl (fun cs (c,j)=>cs.setIfInBounds (off+j) c) cells=zBa cells off v.cells.toList:=by
 apply Array.ext'
 rw [← Array.foldl_toList,Array.toList_zipIdx]
 have:=zOR off v.cells.toList 0 cells (by simpa using h)
 simpa [zBa] using this
section
variable {P:Program} {w0 w:World} {U Φ0 Φ:Nat→Prop} {nt:Nat} {hv:Hid} {a:Act} {e e':Env} {rv:Nat→Value} {E:Nat→PV} {L:Nat→List Nat} {o:zAC} {A:Al}
theorem zOl:∀ (xs:List Operand) (i:Nat) {k:List PV→PM} {e:Env} {rv:Nat→Value} {E:Nat→PV} {L:Nat→List Nat},St w0 U Φ0 nt hv a w e Φ rv E L→(∀ x∈xs,zAL nt x=true)→(zTE xs k).run o e=some e' →
  ∃ e1 rv1 E1 L1 ps,(k ps).run o e1=some e'∧St w0 U Φ0 nt hv a w e1 Φ rv1 E1 L1∧ps.length=xs.length∧(∀ (j:Nat) (p:PV) (x:Operand),ps[j]? = some p→xs[j]? = some x→E1 (zAb+i+j)=p∧rv1 (zAb+i+j)=a.eval x) ∧
   ∀ s,zAb≤s→(s<zAb+i∨zAb+i+xs.length≤s)→E1 s=E s∧rv1 s=rv s
 | [],i,k,e,rv,E,L,S,hx,h=>⟨e,rv,E,L,[],h,S,rfl,by simp,fun _ _ _=>⟨rfl,rfl⟩⟩
 | x :: xs,i,k,e,rv,E,L,S,hx,h=>by
  simp only [zTE] at h
  obtain ⟨e1,rv1,E1,L1,h1,S1,h2,h3⟩:=zGm S (hx x (by simp)) (g:=zAb+i) (by omega) h
  obtain ⟨e2,rv2,E2,L2,ps,h4,S2,h5,h6,h7⟩:=zOl xs (i+1) S1 (fun y hy=>hx y (by simp [hy])) h1
  refine ⟨e2,rv2,E2,L2,E1 (zAb+i)::ps,h4,S2,by simp [h5],fun j p y hp hy=>?_,fun s hs jq=>?_⟩
  ·cases j with
   | zero =>
    simp at hp hy;subst hp;subst hy
    obtain ⟨k1,k2⟩:=h7 (zAb+i) (by omega) (.inl (by omega))
    simp only [Nat.add_zero]
    rw [k1,k2];exact ⟨rfl,h2⟩
   | succ j =>
    have:=h6 j p y (by simpa using hp) (by simpa using hy)
    rwa [show zAb+i+(j+1)=zAb+(i+1)+j by omega]
  ·obtain ⟨k1,k2⟩:=h7 s hs (by simp at jq;omega)
   obtain ⟨k3,k4,_⟩:=h3 s hs (by simp at jq;omega)
   exact ⟨k1.trans k3,k2.trans k4⟩
theorem zUL (S:St w0 U Φ0 nt hv a w e Φ rv E L) {nz:Option Nat} {x:Operand} (hx:zAL nt x=true) {g:Nat} (hg:zAb≤g) {k:PV→PM} (h:(zXb nz x k).run o e=some e') :
  ∃ e1 rv1 E1 L1,(k (E1 g)).run o e1=some e'∧St w0 U Φ0 nt hv a w e1 Φ rv1 E1 L1∧rv1 g=a.eval x∧zV1 g rv rv1 E E1 L L1:=by
 unfold zXb at h
 split at h
 ·rename_i s
  have hr:Rep w Φ (zA1 w rv E) (.own s []) (a.eval (.const (.slice none 0 0))) [] := .inl ⟨rfl,rfl,rfl⟩
  refine ⟨e,_,_,_,?_,S.hold hg hr,zAj,fun s _ hI=>⟨zAg hI,zAg hI,zAg hI⟩⟩
  rw [zAj];exact h
 ·exact zGm S hx hg h
theorem zO0 {nz:Option Nat}:∀ (xs:List Operand) (i:Nat) {k:List PV→PM} {e:Env} {rv:Nat→Value} {E:Nat→PV} {L:Nat→List Nat},St w0 U Φ0 nt hv a w e Φ rv E L→(∀ x∈xs,zAL nt x=true)→(zPZ nz xs k).run o e=some e' →
  ∃ e1 rv1 E1 L1 ps,(k ps).run o e1=some e'∧St w0 U Φ0 nt hv a w e1 Φ rv1 E1 L1∧ps.length=xs.length∧(∀ (j:Nat) (p:PV) (x:Operand),ps[j]? = some p→xs[j]? = some x→E1 (zAb+i+j)=p∧rv1 (zAb+i+j)=a.eval x) ∧
   ∀ s,zAb≤s→(s<zAb+i∨zAb+i+xs.length≤s)→E1 s=E s∧rv1 s=rv s
 | [],i,k,e,rv,E,L,S,hx,h=>⟨e,rv,E,L,[],h,S,rfl,by simp,fun _ _ _=>⟨rfl,rfl⟩⟩
 | x :: xs,i,k,e,rv,E,L,S,hx,h=>by
  simp only [zPZ] at h
  obtain ⟨e1,rv1,E1,L1,h1,S1,h2,h3⟩:=zUL S (hx x (by simp)) (g:=zAb+i) (by omega) h
  obtain ⟨e2,rv2,E2,L2,ps,h4,S2,h5,h6,h7⟩:=zO0 xs (i+1) S1 (fun y hy=>hx y (by simp [hy])) h1
  refine ⟨e2,rv2,E2,L2,E1 (zAb+i)::ps,h4,S2,by simp [h5],fun j p y hp hy=>?_,fun s hs jq=>?_⟩
  ·cases j with
   | zero =>
    simp at hp hy;subst hp;subst hy
    obtain ⟨k1,k2⟩:=h7 (zAb+i) (by omega) (.inl (by omega))
    simp only [Nat.add_zero]
    rw [k1,k2];exact ⟨rfl,h2⟩
   | succ j =>
    have:=h6 j p y (by simpa using hp) (by simpa using hy)
    rwa [show zAb+i+(j+1)=zAb+(i+1)+j by omega]
  ·obtain ⟨k1,k2⟩:=h7 s hs (by simp at jq;omega)
   obtain ⟨k3,k4,_⟩:=h3 s hs (by simp at jq;omega)
   exact ⟨k1.trans k3,k2.trans k4⟩
theorem zJf (hA:∀ a v,a.isWay=true→A a v→v.oneCell'=true) {p:PV} {v:Value} {M:List Nat} (h:Rep w Φ A p v M) (hw:p.whole=true):zCa v=p.isAgg∧v.cells.size=p.cells.length:=by
 simp only [PV.whole,Bool.or_eq_true] at hw
 have ha:zCa v=p.isAgg:=by
  rcases hw with hw | hw
  ·cases p<;>simp [PV.isAgg] at hw
   obtain ⟨vs,rfl,_⟩:=h;rfl
  ·rw [(zBA (zB1 hA h hw)).2,(zBf hw).2]
 have:=(h.cellsAll ha).length
 exact ⟨ha,by simpa using this⟩
theorem zRV (C:Conf w0 U Φ0 w Φ rv E L) {place place':Nat→Option (Nat×Nat)} (uq:∀ i x,place i=some x→place' i=some x):∀ (ps:List (Nat×PV)) (vs:List (Nat×Value)) (k:Nat) (z cs:List PV) (zc:Array Value) (Lz:List Nat),
  zFj place z ps=some cs→vs.length=ps.length→(∀ (j:Nat) (x:Nat×PV) (y:Nat×Value),ps[j]? = some x→vs[j]? = some y→x.1=y.1∧E (zAb+k+j)=x.2∧rv (zAb+k+j)=y.2) →
  zAX w Φ (zA1 w rv E) z zc.toList Lz→Lz.Nodup→(∀ b∈Lz,∃ t,zAb≤t∧t<zAb+k∧b∈L t) →
  ∃ cells Lc,Instr.fill place' zc vs=some cells∧zAX w Φ (zA1 w rv E) cs cells.toList Lc∧Lc.Nodup∧∀ b∈Lc,∃ t,zAb≤t∧t<zAb+k+ps.length∧b∈L t
 | [],vs,k,z,cs,zc,Lz,h,hl,_,hr,hn,hm=>by
  have:vs=[]:=List.eq_nil_of_length_eq_zero (by simpa using hl)
  subst this
  simp only [zFj,Option.some.injEq] at h;subst h
  exact ⟨zc,Lz,rfl,hr,hn,by simpa using hm⟩
 | (i, p) :: ps,vs,k,z,cs,zc,Lz,h,hl,hj,hr,hn,hm=>by
  match vs,hl,hj with
  | (i', v) :: vs,hl,hj =>
   obtain ⟨h1,h2,h3⟩:=hj 0 (i,p) (i',v) rfl rfl
   simp only [Nat.add_zero] at h1 h2 h3
   subst h1
   simp only [zFj] at h
   cases hp:place i with
   | none=>rw [hp] at h;cases h
   | some x =>
    obtain ⟨off,n⟩:=x
    rw [hp] at h;simp only at h
    split at h
    ·rename_i hc
     obtain ⟨c1,c2,c3⟩:=hc
     have hX:=C.rep (zAb+k)
     rw [h2,h3] at hX
     obtain ⟨q1,q2⟩:=zJf (fun a v hw h=>zCV hw h) hX c3
     have kS:zc.size=z.length:=by have:=hr.length;simpa using this
     obtain ⟨L1,L2,L3,hL,hk⟩:=hr.replace off n
     subst hL
     have jT:=hk (w':=w) (Φ':=Φ) (A':=zA1 w rv E) (fun _ _ _ h=>h) zDf.refl (fun _ _=>rfl) (hX.cellsAll q1)
     have jy:v.cells.toList.length=n:=by simp;omega
     have y1:(zBa zc off v.cells.toList).toList=zc.toList.take off++v.cells.toList++zc.toList.drop (off+n):=by
      simp only [zBa];rw [jy]
     simp only [List.nodup_append] at hn
     have uB:∀ b∈L (zAb+k),b∉L1++L2++L3:=by
      intro b hb j4
      obtain ⟨t,k1,k2,k3⟩:=hm b j4
      exact C.disj t (zAb+k) (by omega) b k3 hb
     obtain ⟨cells,Lc,g1,g2,g3,g4⟩:=zRV C uq ps vs (k+1) _ cs (zBa zc off v.cells.toList) (L1++L (zAb+k)++L3) h (by simpa using hl) (fun j x y hx hy=>by
      rw [show zAb+(k+1)+j=zAb+k+(j+1) by omega];exact hj (j+1) x y (by simpa using hx) (by simpa using hy)) (by rw [y1];exact jT)
      (by
       simp only [List.nodup_append]
       refine ⟨⟨hn.1.1,C.nodup _,fun x hx y hy e=>uB y hy (by rw [← e];simp [hx])⟩,hn.2.1,fun x hx y hy e=>?_⟩
       rcases List.mem_append.1 hx with hx | hx
       ·exact hn.2.2 x (by simp [hx]) y hy e
       ·exact uB x hx (by rw [e];simp [hy]))
      (fun b hb=>by
       simp only [List.mem_append] at hb
       rcases hb with (hb | hb) | hb
       ·obtain ⟨t,k1,k2,k3⟩:=hm b (by simp [hb]);exact ⟨t,k1,by omega,k3⟩
       ·exact ⟨zAb+k,by omega,by omega,hb⟩
       ·obtain ⟨t,k1,k2,k3⟩:=hm b (by simp [hb]);exact ⟨t,k1,by omega,k3⟩)
     refine ⟨cells,Lc,?_,g2,g3,fun b hb=>?_⟩
     ·simp only [Instr.fill,uq i _ hp]
      rw [if_neg (by simp;omega),zN5 off v zc (by omega)]
      exact g1
     ·obtain ⟨t,k1,k2,k3⟩:=g4 b hb
      exact ⟨t,k1,by simp;omega,k3⟩
    ·cases h
theorem St.madeN (S:St w0 U Φ0 nt hv a w e Φ rv E L) (N:Nat) (hb:∀ s,zAb+N≤s→E s = .bad) {d:Option Nat} (hd:∀ x,d=some x→x<nt) {w':World} {p:PV} {v:Value} {Lp:List Nat} (hr:∀ A:Al,(∀ a u,a.isWay=true→zA1 w rv E a u→A a u)→Rep w' Φ A p v Lp) (uK:Lp.Nodup)
  (ho:∀ b∈Lp,(∃ t,zAb≤t∧t<zAb+N∧b∈L t)∨(w.heap.size≤b∧b<w'.heap.size)) (hw:w.heap.size≤w'.heap.size)
  (hk:∀ b,b<w.heap.size→(∀ t,zAb≤t→t<zAb+N→b∉L t)→w'.heap[b]? = w.heap[b]?) (uH:w'.os=w.os∧w'.tape=w.tape∧w'.output=w.output) (h:(put d p).run o e=some e') :
  Fr w0 U Φ0 nt hv (a.put d v) w' e':=by
 have hG:∀ s,decide (zAb≤s∧s<zAb+N)=true↔zAb≤s∧s<zAb+N:=fun s=>decide_eq_true_iff
 have hc:=S.conf.make (w':=w') (fun s=>decide (zAb≤s∧s<zAb+N)) (fun s hs=>((hG s).1 hs).1) (g:=zAb+N) (by omega) (fun A hA=>hr A hA) uK
  (fun b hb=>(ho b hb).imp (fun ⟨t,h1,h2,h3⟩=>⟨t,h3,(hG t).2 ⟨h1,h2⟩⟩) id) hw
  (fun b hb hn=>hk b hb fun t h1 h2 h3=>by have:=hn t h3;rw [(hG t).2 ⟨h1,h2⟩] at this;cases this) uH
 have S1:=S.turn (e':=e) hc (fun s hs=>by
  rw [zAg (by omega)]
  have:decide (zAb≤s∧s<zAb+N)=false:=decide_eq_false (by omega)
  simp only [this,Bool.false_eq_true,if_false];exact S.env s hs) (fun s hs=>zAg (by omega)) (fun d ps hd hp=>by
  rw [zAg (by simp only [zAb];omega)] at hp
  have:decide (zAb≤d∧d<zAb+N)=false:=decide_eq_false (by simp only [zAb];omega)
  simp only [this,Bool.false_eq_true,if_false] at hp;exact ⟨ps,hp,rfl⟩)
 have:=zFw S1 hd (g:=zAb+N) (by omega) (by rw [zAj];exact h) (fun s hs hI=>by
  rw [zAg hI]
  by_cases h3:s<zAb+N
  ·have:decide (zAb≤s∧s<zAb+N)=true:=(hG s).2 ⟨hs,h3⟩
   simp [this]
  ·have:decide (zAb≤s∧s<zAb+N)=false:=decide_eq_false (by omega)
   simp only [this,Bool.false_eq_true,if_false];exact hb s (by omega))
 rwa [zAj] at this
theorem zOT (S:St w0 U Φ0 nt hv a w e Φ rv E L) (hb:zBk E) {d:Option Nat} (hd:∀ x,d=some x→x<nt) {place place':Nat→Option (Nat×Nat)} (uq:∀ i x,place i=some x→place' i=some x) {t:TypeId} {z:PV} (hz:zCx P t=some z) {ps:List (Nat×Operand)} (y5:∀ x∈ps,zAL nt x.2=true)
  (h:(zOC place z.cells ps fun cs=>put d (.agg cs)).run o e=some e'):∃ v cells,(∀ w:World,(zeroValue t).run P w = .ok v w)∧Instr.fill place' v.cells (ps.map fun x=>(x.1,a.eval x.2))=some cells∧Fr w0 U Φ0 nt hv (a.put d (.agg cells)) w e':=by
 obtain ⟨i,zv,hi,hzv,yA,kM⟩:=zDH hz
 simp only [zOC] at h
 obtain ⟨e1,rv1,E1,L1,vs,h1,S1,h2,h3,h4⟩:=zOl (ps.map (·.2)) 0 S (fun x hx=>by
  obtain ⟨y,hy,rfl⟩:=List.mem_map.1 hx;exact y5 y hy) h
 simp only [List.length_map] at h2 h4
 split at h1
 ·rename_i cs hf
  obtain ⟨hr,vH,kd,_⟩:=zB8 (w:=w) (Φ:=Φ) (A:=zA1 w rv1 E1) kM
  obtain ⟨cells,Lc,g1,g2,g3,g4⟩:=zRV S1.conf uq ((ps.map (·.1)).zip vs) (ps.map fun x=>(x.1,a.eval x.2)) 0 z.cells cs zv.cells [] hf (by simp [h2]) (fun j x y hx hy=>by
   obtain ⟨j6,jW⟩:=List.getElem?_zip_eq_some.1 hx
   rw [List.getElem?_map] at j6 hy
   cases vM:ps[j]? with
   | none=>rw [vM] at hy;cases hy
   | some q =>
    rw [vM] at j6 hy
    simp only [Option.map_some,Option.some.injEq] at j6 hy
    obtain ⟨k1,k2⟩:=h3 j x.2 q.2 jW (by rw [List.getElem?_map,vM];rfl)
    exact ⟨by rw [← j6,← hy],k1,by rw [k2,← hy]⟩) (hr.cellsAll kd) List.nodup_nil (by simp)
  refine ⟨zv,cells,yA,g1,S1.madeN ps.length (fun s hs=>?_) hd (p := .agg cs) (v := .agg cells) (w':=w) (Lp:=Lc) (fun A hA=>⟨cells,rfl,g2.mono zDf.refl hA (fun _ _=>rfl)⟩) g3 (fun b hb => .inl ?_) (Nat.le_refl _) (fun _ _ _=>rfl) ⟨rfl,rfl,rfl⟩ h1⟩
  ·rw [(h4 s (by omega) (.inr (by omega))).1];exact hb s (by omega)
  ·obtain ⟨t,k1,k2,k3⟩:=g4 b hb
   have hl:((ps.map (·.1)).zip vs).length=ps.length:=by simp [h2]
   exact ⟨t,k1,by omega,k3⟩
 ·cases h1
theorem zQn {α β:Type} {f:α→Sem β} {g:α→β} (l:List α) (h:∀ x∈l,∀ w:World,(f x).run P w = .ok (g x) w) (w:World):(l.mapM f).run P w = .ok (l.map g) w:=by
 induction l with
 | nil=>rfl
 | cons x l ih=>simp only [List.mapM_cons,Sem.run_bind,h x (by simp),Result.andThen_ok,ih (fun y hy=>h y (by simp [hy])),Sem.run_pure,List.map_cons]
theorem zSO (S:St w0 U Φ0 nt hv a w e Φ rv E L) (hb:zBk E) {d:Option Nat} (hd:∀ x,d=some x→x<nt) {t:TypeId} {ps:Array (Nat×Operand)} (y5:∀ x∈ps.toList,zAL nt x.2=true) (h:(zNd P d t ps.toList).run o e=some e') :
  ∃ v,(Instr.build t (ps.map fun x=>(x.1,a.eval x.2))).run P w = .ok v w∧Fr w0 U Φ0 nt hv (a.put d v) w e':=by
 have u3:(ps.map fun x=>(x.1,a.eval x.2)).toList=ps.toList.map fun x=>(x.1,a.eval x.2):=by simp
 simp only [zNd] at h
 split at h
 ·rename_i fs z ht hz
  obtain ⟨wg,h1⟩:=zAF h
  simp only [Option.map_eq_some_iff] at hz
  obtain ⟨zp,hz,rfl⟩:=hz
  let sz:Field→Nat:=fun f=>(szT P f.type).getD 0
  have vq:∀ f∈fs.toList,∀ w:World,(sizeOf f.type).run P w = .ok (sz f) w:=by
   intro f hf w
   rw [← Array.all_toList] at wg
   have:=List.all_eq_true.1 wg f hf
   obtain ⟨n,hn⟩:=Option.isSome_iff_exists.1 this
   obtain ⟨i,hi,wT⟩:=zCc hn
   simp only [sz,hn,Option.getD_some]
   rw [zAV hi,wT]
  obtain ⟨zv,cells,k1,k2,k3⟩:=zOT (P:=P) S hb hd (place':=fun i=>(fs.map fun f=>(f.offset,sz f))[i]?) (fun i x hx=>by
   cases gv:fs[i]? with
   | none=>rw [gv] at hx;cases hx
   | some f =>
    rw [gv] at hx;simp only [Option.bind_some] at hx
    cases hs:szT P f.type with
    | none=>rw [hs] at hx;cases hx
    | some n =>
     rw [hs] at hx;simp only [Option.map_some,Option.some.injEq] at hx
     subst hx
     simp [gv,sz,hs]) hz y5 h1
  refine ⟨.agg cells,?_,k3⟩
  have hm:∀ w:World,(fs.mapM fun f=>(do pure (f.offset,← sizeOf f.type):Sem (Nat×Nat))).run P w = .ok (fs.map fun f=>(f.offset,sz f)) w:=by
   intro w
   have:=zQn (P:=P) (f:=fun f=>(do pure (f.offset,← sizeOf f.type):Sem (Nat×Nat))) (g:=fun f=>(f.offset,sz f)) fs.toList (fun f hf w=>by
    simp only [Sem.run_bind,vq f hf w,Result.andThen_ok,Sem.run_pure]) w
   rw [Array.mapM_eq_mapM_toList]
   simp only [Sem.run_map,this,Result.andThen_ok]
   rw [← Array.toList_map,Array.toArray_toList]
  simp only [Instr.build,Sem.run_bind,k1,Result.andThen_ok,run_underlying ht,hm]
  rw [u3,k2]
  rfl
 ·rename_i len el z ht hz
  obtain ⟨n,hn,h1⟩:=zBz h
  simp only [Option.map_eq_some_iff] at hz
  obtain ⟨zp,hz,rfl⟩:=hz
  obtain ⟨i,hi,wT⟩:=zCc hn
  obtain ⟨zv,cells,k1,k2,k3⟩:=zOT (P:=P) S hb hd (place':=fun i=>some (i*n,n)) (fun i x hx=>hx) hz y5 h1
  refine ⟨.agg cells,?_,k3⟩
  simp only [Instr.build,Sem.run_bind,k1,Result.andThen_ok,run_underlying ht,zAV hi,wT]
  rw [u3,k2]
  rfl
 ·cases h
theorem zKp {tk:Bool}:∀ (ps:List PV) (i:Nat) {k:List PV→PM} {e:Env} {Φ:Nat→Prop} {rv:Nat→Value} {E:Nat→PV} {L:Nat→List Nat},St w0 U Φ0 nt hv a w e Φ rv E L→(∀ (j:Nat) (p:PV),ps[j]? = some p→E (zAb+i+j)=p)→(zF5 tk ps k).run o e=some e' →
  ∃ e1 Φ1 rv1 E1 L1 qs,(k qs).run o e1=some e'∧St w0 U Φ0 nt hv a w e1 Φ1 rv1 E1 L1∧qs.length=ps.length∧(∀ (j:Nat) (q:PV),qs[j]? = some q→E1 (zAb+i+j)=q∧rv1 (zAb+i+j)=rv (zAb+i+j)) ∧
   ∀ s,zAb≤s→(s<zAb+i∨zAb+i+ps.length≤s)→E1 s=E s∧rv1 s=rv s
 | [],i,k,e,Φ,rv,E,L,S,hp,h=>⟨e,Φ,rv,E,L,[],h,S,rfl,by simp,fun _ _ _=>⟨rfl,rfl⟩⟩
 | p :: ps,i,k,e,Φ,rv,E,L,S,hp,h=>by
  simp only [zF5] at h
  have hE:=hp 0 p rfl
  simp only [Nat.add_zero] at hE
  rw [← hE] at h
  obtain ⟨e1,rv1,E1,h1,W⟩:=zMU S (g:=zAb+i) (by omega) h
  obtain ⟨Φ1,L1,S1⟩:=W.st
  obtain ⟨e2,Φ2,rv2,E2,L2,qs,h2,S2,h3,h4,h5⟩:=zKp ps (i+1) S1 (fun j q hq=>by
   rw [(W.rest _ (by omega) (by omega)).1,show zAb+(i+1)+j=zAb+i+(j+1) by omega];exact hp (j+1) q (by simpa using hq)) h1
  refine ⟨e2,Φ2,rv2,E2,L2,E1 (zAb+i)::qs,h2,S2,by simp [h3],fun j q hq=>?_,fun s hs jq=>?_⟩
  ·cases j with
   | zero =>
    simp at hq;subst hq
    obtain ⟨k1,k2⟩:=h5 (zAb+i) (by omega) (.inl (by omega))
    simp only [Nat.add_zero]
    exact ⟨k1,k2.trans W.val⟩
   | succ j =>
    obtain ⟨k1,k2⟩:=h4 j q (by simpa using hq)
    rw [show zAb+(i+1)+j=zAb+i+(j+1) by omega] at k1 k2
    exact ⟨k1,k2.trans (W.rest _ (by omega) (by omega)).2⟩
  ·obtain ⟨k1,k2⟩:=h5 s hs (by simp at jq;omega)
   obtain ⟨k3,k4⟩:=W.rest s hs (by simp at jq;omega)
   exact ⟨k1.trans k3,k2.trans k4⟩
theorem zOk (C:Conf w0 U Φ0 w Φ rv E L) {s n:Nat}:∀ (ps:List (Nat×PV)) (vs:List (Nat×Value)) (k:Nat) (xs:List PV) (us:List Value) (cells:Array Value) (Lx:List Nat),vs.length=ps.length →
  (∀ (j:Nat) (x:Nat×PV) (y:Nat×Value),ps[j]? = some x→vs[j]? = some y→x.1=y.1∧x.1<n∧E (zAb+k+j)=x.2∧rv (zAb+k+j)=y.2∧x.2.ways=[]∧x.2.whole=true∧x.2.cells.length=s) →
  xs.length=n→us.length=n→cells.toList=flat us→(∀ x∈xs,x.cells.length=s)→(∀ u∈us,u.cells.size=s)→us.map zCa=xs.map PV.isAgg→zAX w Φ zB6 xs us Lx→Lx.Nodup→(∀ b∈Lx,∃ t,zAb≤t∧t<zAb+k∧b∈L t) →
  ∃ cells' us' Lc,Instr.fill (fun i=>some (i*s,s)) cells vs=some cells'∧cells'.toList=flat us'∧us'.length=n∧(∀ u∈us',u.cells.size=s)∧(∀ x∈ps.foldl (fun xs (i,v)=>xs.set i v) xs,x.cells.length=s)∧us'.map zCa=(ps.foldl (fun xs (i,v)=>xs.set i v) xs).map PV.isAgg ∧
   zAX w Φ zB6 (ps.foldl (fun xs (i,v)=>xs.set i v) xs) us' Lc∧Lc.Nodup∧∀ b∈Lc,∃ t,zAb≤t∧t<zAb+k+ps.length∧b∈L t
 | [],vs,k,xs,us,cells,Lx,hl,_,h1,h2,h3,h4,h5,h6,h7,h8,h9=>by
  have:vs=[]:=List.eq_nil_of_length_eq_zero (by simpa using hl)
  subst this
  exact ⟨cells,us,Lx,rfl,h3,h2,h5,h4,h6,h7,h8,by simpa using h9⟩
 | (i, p)::ps,vs,k,xs,us,cells,Lx,hl,hj,h1,h2,h3,h4,h5,h6,h7,h8,h9=>by
  match vs,hl,hj with
  | (i',v)::vs,hl,hj =>
   obtain ⟨q1,q2,q3,q4,q5,q6,q7⟩:=hj 0 (i,p) (i',v) rfl rfl
   simp only [Nat.add_zero] at q1 q2 q3 q4 q5 q6 q7
   subst q1
   have hX:=C.rep (zAb+k)
   rw [q3,q4] at hX
   obtain ⟨w1,w2⟩:=zJf (fun a v hw h=>zCV hw h) hX q6
   have yf:v.cells.size=s:=by omega
   have hrep0:Rep w Φ zB6 p v (L (zAb+k)):=zTO q5 (fun a v hw h=>zI9 hw h) hX
   obtain ⟨L1,L2,L3,hL,hk⟩:=h7.replace i 1
   subst hL
   have jT:=hk (w':=w) (Φ':=Φ) (A':=zB6) (fun _ _ _ h=>h) zDf.refl (fun _ _=>rfl) (show zAX w Φ zB6 [p] [v] (L (zAb+k)) from ⟨v,[],_,[],rfl,by simp,hrep0,rfl,rfl⟩)
   rw [← zEN (by omega),← zEN (by omega)] at jT
   have hci:cells.size=n*s:=by
    have:=congrArg List.length h3
    rw [zBj h5,h2] at this;simpa using this
   have wj:i*s+s≤n*s:=by rw [← Nat.succ_mul];exact Nat.mul_le_mul_right _ q2
   have vW:(zBa cells (i*s) v.cells.toList).toList=flat (us.set i v):=by
    simp only [zBa]
    rw [h3,zEN (by omega:i<us.length),zCQ,zCQ,show (v.cells.toList).length=s by simpa using yf,zJN h5]
    have:i*s+s=(i+1)*s:=by rw [Nat.succ_mul]
    rw [this,zJS h5]
    simp [flat]
   simp only [List.nodup_append] at h8
   have uB:∀ b∈L (zAb+k),b∉L1++L2++L3:=by
    intro b hb j4
    obtain ⟨t,k1,k2,k3⟩:=h9 b j4
    exact C.disj t (zAb+k) (by omega) b k3 hb
   have yq:(us.set i v).map zCa=(xs.set i p).map PV.isAgg:=by
    apply List.ext_getElem?
    intro m
    have hm:=congrArg (·[m]?) h6
    simp only [List.getElem?_map,List.getElem?_set] at hm ⊢
    by_cases hmi:i=m
    ·subst hmi
     have e1:i<us.length:=by omega
     have e2:i<xs.length:=by omega
     simp [e1,e2,w1]
    ·simp only [hmi,if_false];exact hm
   obtain ⟨cells',us',Lc,g1,g2,g3,g4,g5,g6,g7,g8,g9⟩:=zOk C ps vs (k+1) (xs.set i p) (us.set i v) (zBa cells (i*s) v.cells.toList) (L1++L (zAb+k)++L3) (by simpa using hl) (fun j x y hx hy=>by
    rw [show zAb+(k+1)+j=zAb+k+(j+1) by omega];exact hj (j+1) x y (by simpa using hx) (by simpa using hy)) (by simpa using h1) (by simpa using h2) vW
    (fun x hx=>(List.mem_or_eq_of_mem_set hx).elim (h4 x) (fun h=>h▸q7)) (fun u hu=>(List.mem_or_eq_of_mem_set hu).elim (h5 u) (fun h=>h▸yf)) yq jT
    (by
     simp only [List.nodup_append]
     refine ⟨⟨h8.1.1,C.nodup _,fun x hx y hy e=>uB y hy (by rw [← e];simp [hx])⟩,h8.2.1,fun x hx y hy e=>?_⟩
     rcases List.mem_append.1 hx with hx | hx
     ·exact h8.2.2 x (by simp [hx]) y hy e
     ·exact uB x hx (by rw [e];simp [hy]))
    (fun b hb=>by
     simp only [List.mem_append] at hb
     rcases hb with (hb | hb) | hb
     ·obtain ⟨t,k1,k2,k3⟩:=h9 b (by simp [hb]);exact ⟨t,k1,by omega,k3⟩
     ·exact ⟨zAb+k,by omega,by omega,hb⟩
     ·obtain ⟨t,k1,k2,k3⟩:=h9 b (by simp [hb]);exact ⟨t,k1,by omega,k3⟩)
   refine ⟨cells',us',Lc,?_,g2,g3,g4,g5,g6,g7,g8,fun b hb=>?_⟩
   ·simp only [Instr.fill]
    rw [if_neg (by simp;omega),zN5 (i*s) v cells (by omega)]
    exact g1
   ·obtain ⟨t,k1,k2,k3⟩:=g9 b hb
    exact ⟨t,k1,by simp;omega,k3⟩
theorem zMi:∀ {ps:List PV},zBn ps=[]→∀ p∈ps,p.ways=[]
 | [],_,_,h=>by cases h
 | q::qs,h,p,hp=>by
  simp only [zBn,List.append_eq_nil_iff] at h
  rcases List.mem_cons.1 hp with rfl | hp
  ·exact h.1
  ·exact zMi h.2 p hp
theorem zLo (S:St w0 U Φ0 nt hv a w e Φ rv E L) (hb:zBk E) {d:Option Nat} (hd:∀ x,d=some x→x<nt) {tk:Bool} {t:TypeId} {n:Nat} {ps:Array (Nat×Operand)} (y5:∀ x∈ps.toList,zAL nt x.2=true) (h:(zDA P tk d t n ps.toList).run o e=some e') :
  ∃ v w',(Instr.buildSlice t n (ps.map fun x=>(x.1,a.eval x.2))).run P w = .ok v w'∧Fr w0 U Φ0 nt hv (a.put d v) w' e':=by
 have u3:(ps.map fun x=>(x.1,a.eval x.2)).toList=ps.toList.map fun x=>(x.1,a.eval x.2):=by simp
 simp only [zDA] at h
 split at h
 ·rename_i el yt
  split at h
  ·rename_i s z hs hz
   obtain ⟨hc,h1⟩:=zDe h
   simp only [Bool.and_eq_true,decide_eq_true_eq,List.all_eq_true] at hc
   obtain ⟨⟨hns,kS⟩,hpn⟩:=hc
   have kS:=Nat.eq_of_beq_eq_true kS
   obtain ⟨i,zv,hi,hzv,yA,kM⟩:=zDH hz
   obtain ⟨i2,vR,wT⟩:=zCc hs
   rw [hi] at vR;cases vR
   have ht:=zCr yt
   obtain ⟨e1,rv1,E1,L1,vs,h2,S1,h3,h4,h5⟩:=zO0 (ps.toList.map (·.2)) 0 S (fun x hx=>by
    obtain ⟨y,hy,rfl⟩:=List.mem_map.1 hx;exact y5 y hy) h1
   obtain ⟨e2,Φ2,rv2,E2,L2,qs,h6,S2,h7,h8,h9⟩:=zKp vs 0 S1 (fun j p hp=>by
    have hj:j<(ps.toList.map (·.2)).length:=by
     have:=(List.getElem?_eq_some_iff.1 hp).1;omega
    exact (h4 j p _ hp (List.getElem?_eq_getElem hj)).1) h2
   obtain ⟨hq,jQ⟩:=zDe h6
   simp only [Bool.and_eq_true,List.all_eq_true,List.isEmpty_iff,decide_eq_true_eq] at hq
   obtain ⟨hw,hq⟩:=hq
   simp only [List.length_map] at h3 h5
   have hZ:((ps.toList.map (·.1)).zip qs).length=ps.toList.length:=by simp;simp at h3;omega
   obtain ⟨vX,vH,kd,_⟩:=zB8 (w:=w) (Φ:=Φ2) (A:=zB6) kM
   have uu:zv.cells.size=s:=by rw [vH,kS]
   have hzz:zAX w Φ2 zB6 (List.replicate n z) (List.replicate n zv) []:=by
    clear jQ hZ hq h6 h2 hns hpn h1 h kS
    induction n with
    | zero=>exact ⟨rfl,rfl⟩
    | succ n ih=>exact ⟨zv,_,[],[],rfl,rfl,(zB8 kM).1,ih⟩
   have hmade:(madeCells zv.cells (n*s)).toList=flat (List.replicate n zv):=by
    have hl:(flat (List.replicate n zv)).length=n*s:=by
     rw [zBj (sz:=s) (fun u hu=>by rw [List.eq_of_mem_replicate hu];exact uu)];simp
    apply List.ext_getElem?
    intro m
    by_cases hm:m<n*s
    ·have:=zGg uu (l:=n) (k:=m) (List.getElem?_eq_getElem (by omega))
     rw [Array.getElem?_toList,zOY (m:=m+1) hm (by omega),this,List.getElem?_eq_getElem (by omega)]
    ·rw [List.getElem?_eq_none (by simp [size_madeCells];omega),List.getElem?_eq_none (by omega)]
   obtain ⟨cells',us',Lc,g1,g2,g3,g4,g5,g6,g7,g8,g9⟩:=zOk S2.conf (s:=s) (n:=n) ((ps.toList.map (·.1)).zip qs) (ps.toList.map fun x=>(x.1,a.eval x.2)) 0 (List.replicate n z) (List.replicate n zv) (madeCells zv.cells (n*s)) [] (by simp;simp at h3;omega)
    (fun j x y hx hy=>by
     obtain ⟨j6,jW⟩:=List.getElem?_zip_eq_some.1 hx
     rw [List.getElem?_map] at j6 hy
     cases vM:ps.toList[j]? with
     | none=>rw [vM] at hy;cases hy
     | some q =>
      rw [vM] at j6 hy
      simp only [Option.map_some,Option.some.injEq] at j6 hy
      have yv:q∈ps.toList:=List.mem_of_getElem? vM
      obtain ⟨k1,k2⟩:=h8 j x.2 jW
      have hvj:j<vs.length:=by have:=(List.getElem?_eq_some_iff.1 jW).1;omega
      obtain ⟨k3,k4⟩:=h4 j _ q.2 (List.getElem?_eq_getElem hvj) (by rw [List.getElem?_map,vM];rfl)
      have hqx:=hq x.2 (List.mem_of_getElem? jW)
      refine ⟨by rw [← j6,← hy],by rw [← j6];exact hpn q yv,k1,?_,zMi hw _ (List.mem_of_getElem? jW),hqx.2,hqx.1.1⟩
      rw [Nat.add_zero] at k2 k4 ⊢
      rw [k2,k4,← hy])
    (by simp) (by simp) hmade (fun x hx=>by rw [List.eq_of_mem_replicate hx];exact kS) (fun u hu=>by rw [List.eq_of_mem_replicate hu];exact uu) (by simp [kd]) hzz List.nodup_nil (by simp)
   have j3:cells'.size=n*s:=by
    have:=congrArg List.length g2
    rw [zBj g4,g3] at this;simpa using this
   refine ⟨.slice (some ⟨w.heap.size,0,none⟩) n n,zGr w cells' el,?_,?_⟩
   ·subst wT
    have wW:∀ y:Array Value,(n*i.size=0∨y=zv.cells)→(Array.range (n*i.size)).map (fun k=>y[k % y.size]!)=madeCells zv.cells (n*i.size):=by
     rintro y (h0 | rfl)
     ·simp [h0,madeCells]
     ·rfl
    have yF:¬ n*i.size>2 ^ 24:=by omega
    simp only [Instr.buildSlice,Sem.run_bind,run_underlying ht,Result.andThen_ok,zAV hi]
    rw [if_neg yF]
    split
    ·rename_i h0
     simp only [Sem.run_pure,Result.andThen_ok,Sem.run_bind,wW #[] (.inl h0),u3,g1,zFb]
    ·simp only [Sem.run_pure,Result.andThen_ok,Sem.run_bind,yA,wW zv.cells (.inr rfl),u3,g1,zFb]
   ·have hold:∀ b,b<w.heap.size→(zGr w cells' el).heap[b]? = w.heap[b]?:=fun b hb=>zGY hb
    have hΦ:zDf w (zGr w cells' el) Φ2 Φ2:=fun b hb=>⟨hb,hold b (S2.conf.frz b hb).1⟩
    have jP:zAX (zGr w cells' el) Φ2 zB6 (zMh n z ((ps.toList.map (·.1)).zip qs)) us' Lc:=g7.mono hΦ (fun _ _ _ h=>h) fun b hb=>by
     obtain ⟨t,_,_,k3⟩:=g9 b hb
     exact hold b (S2.conf.own t b k3).1
    have jh:(zMh n z ((ps.toList.map (·.1)).zip qs)).length=n:=jP.length.symm.trans g3
    refine S2.madeN ps.toList.length (fun s hs=>?_) hd (p := .own s (zMh n z ((ps.toList.map (·.1)).zip qs))) (Lp:=w.heap.size::Lc) (fun A _=>?_) ?_ (fun b yH=>?_) (by rw [zF1];omega) (fun b yH _=>hold b yH) ⟨rfl,rfl,rfl⟩ jQ
    ·rw [(h9 s (by omega) (.inr (by omega))).1,(h5 s (by omega) (.inr (by omega))).1];exact hb s (by omega)
    ·refine .inr ⟨⟨w.heap.size,0,none⟩,n,cells',us',Lc,rfl,by rw [jh],rfl,by omega,zLU,by rw [j3];simp,g5,⟨g4,g6⟩,?_,jP⟩
     rw [jh]
     refine zGC (by rw [zBj g4,g3]) fun k u hk=>?_
     rw [Nat.zero_add,← hk,← g2,Array.getElem?_toList]
    ·refine List.nodup_cons.2 ⟨fun hm=>?_,g8⟩
     obtain ⟨t,_,_,k3⟩:=g9 _ hm
     exact absurd (S2.conf.own t _ k3).1 (Nat.lt_irrefl _)
    ·rcases List.mem_cons.1 yH with rfl | yH
     ·exact .inr ⟨Nat.le_refl _,by rw [zF1];omega⟩
     ·obtain ⟨t,k1,k2,k3⟩:=g9 b yH
      exact .inl ⟨t,k1,by omega,k3⟩
  ·cases h
 ·cases h
end
end Go.Eng
namespace Go.Eng
open Go
section
variable {P:Program} {w0 w:World} {U Φ0 Φ:Nat→Prop} {nt:Nat} {hv:Hid} {a:Act} {e e':Env} {rv:Nat→Value} {E:Nat→PV} {L:Nat→List Nat} {o:zAC} {A:Al}
theorem zU7 (S:St w0 U Φ0 nt hv a w e Φ rv E L) (hb:zBk E) {d:Option Nat} (hd:∀ x,d=some x→x<nt) {t t2 ty:TypeId} {x y:Operand} (hx:zAL nt x=true) (hy:zAL nt y=true)
  (h:(zBm P d .copy [t,t2] [x,y]).run o e=some e'):∃ v w',(Builtin.copy_ #[t,t2] ty #[a.eval x,a.eval y]).run P w = .ok v w'∧Fr w0 U Φ0 nt hv (a.put d v) w' e':=by
 simp only [zBm] at h
 obtain ⟨sz,yE,h1⟩:=zBz h
 obtain ⟨el,yt,j9⟩:=zVn (el:=0) yE
 have ht:=zCr yt
 obtain ⟨i,hi,yn⟩:=zCc j9
 obtain ⟨p,h2,hp⟩:=zBo S hx h1
 obtain ⟨q,h3,hq⟩:=zBo S hy h2
 obtain ⟨ys,us,Ly,h4,kT⟩:=zL1 S hq h3
 obtain ⟨⟨xb,xc,vJ,yQ⟩,jO,vq,kB⟩:=kT
 cases p<;>try (cases h4;done)
 rename_i r pre z lo n
 obtain ⟨hc,h5⟩:=zAF h4
 simp only [Bool.and_eq_true,List.all_eq_true] at hc
 obtain ⟨⟨⟨uu,kN⟩,gF⟩,kg⟩:=hc
 have uu:=Nat.eq_of_beq_eq_true uu
 have kN:=zBW kN
 have gF:=Nat.le_of_ble_eq_true gF
 subst uu
 have uw:∀ y∈ys,y.plain=true∧y.cells.length=z:=fun y hy=>⟨(kg y hy).1,Nat.eq_of_beq_eq_true (kg y hy).2⟩
 have qU:Ly=[]:=zFP (fun y hy=>(uw y hy).1) jO
 subst qU
 have yg:=vq z (fun y hy=>(uw y hy).2)
 have S1:=S.hold (g:=zAb+2) (by omega) hp
 obtain ⟨w1,e1,rv1,E1,L1,k1,S2,k3,_,k4⟩:=zKU (z:=z) (lo:=lo) (n:=n) (v:=a.eval x) kN ys us 0 S1 zAj zAj (fun s hs hI=>by rw [zAg hI];exact hb s hs) uw kB jO (by omega) (by simpa using h5)
 have yM:Fr w0 U Φ0 nt hv (a.put d (.int .i64 ys.length)) w1 e':=by
  obtain ⟨Φ2,rv2,E2,L2,S3,qX⟩:=S2.clear
  exact zAu S3 qX hd k1 (v := .int .i64 ys.length) ⟨rfl,rfl⟩
 have hf:=yQ z (fun y hy=>(uw y hy).2) P w (fun _=>rfl)
 have hmin:Nat.min ys.length n=ys.length:=Nat.min_eq_left gF
 obtain ⟨_,hg,⟨b,cap,w8,yR,yX,y4⟩,hn⟩:=hp
 rcases k4 with ⟨rfl,rfl⟩ | ⟨b',cap',row,yD,y1,yC,yB,yO,rfl⟩
 ·refine ⟨.int .i64 0,w1,?_,yM⟩
  have jA:us=[]:=List.eq_nil_of_length_eq_zero (by have:=jO.length;simpa using this)
  subst jA
  rw [w8,vJ]
  rw [vJ] at hf
  have hf0:(Builtin.firstCells z 0 (.slice xb 0 xc)).run P w1 = .ok #[] w1:=hf
  cases b with
  | none=>simp [Builtin.copy_,run_underlying ht,Builtin.lenOf,zAV hi,yn,hf0,goInt]
  | some b=>simp [Builtin.copy_,run_underlying ht,Builtin.lenOf,zAV hi,yn,hf0,goInt,storeCells]
 ·rw [yD] at w8
  simp only [Value.slice.injEq] at w8
  refine ⟨_,_,?_,yM⟩
  rw [yD,vJ]
  rw [vJ] at hf
  obtain ⟨et,jh⟩:=yC
  have yK:=run_storeCells_at (P:=P) b'.block b'.off et (flat us) 0 row w jh (by simpa using yB) yO
  simp only [Nat.add_zero] at yK
  have yH:b'=⟨b'.block,b'.off,none⟩:=by cases b';simp_all
  rw [← yH] at yK
  simp [Builtin.copy_,run_underlying ht,Builtin.lenOf,zAV hi,yn,hmin,hf,yK,goInt,zBa]
theorem zGd {z:Value} {n:Nat}:flat (List.replicate n z)=(Builtin.zeroCells z.cells n).toList:=by
 have hZ:(flat (List.replicate n z)).length=n*z.cells.size:=by
  rw [zBj (sz:=z.cells.size) (fun u hu=>by rw [List.eq_of_mem_replicate hu])];simp
 apply List.ext_getElem
 ·rw [hZ];simp [Builtin.zeroCells]
 ·intro k h1 h2
  rw [hZ] at h1
  have hs:0<z.cells.size:=Nat.pos_of_ne_zero fun h0=>by rw [h0] at h1;simp at h1
  have hdm:k / z.cells.size*z.cells.size+k % z.cells.size=k:=Nat.div_add_mod' k _
  have hq:k / z.cells.size<n:=Nat.div_lt_of_lt_mul (by rw [Nat.mul_comm];exact h1)
  have hr:k % z.cells.size<z.cells.size:=Nat.mod_lt _ hs
  have hzc : z.cells.toList[k % z.cells.size]? = some (z.cells[k % z.cells.size]'hr) := by simp
  have:=zDW (sz:=z.cells.size) (us:=List.replicate n z) (fun u hu=>by rw [List.eq_of_mem_replicate hu]) (i:=k / z.cells.size) (c:=k % z.cells.size) (x:=z) (by simp [hq]) hzc
  rw [hdm] at this
  have h3:=(List.getElem?_eq_some_iff.1 this).2
  rw [h3]
  simp [Builtin.zeroCells,getElem!_pos z.cells (k % z.cells.size) hr]
theorem zTj (S:St w0 U Φ0 nt hv a w e Φ rv E L) (hb:zBk E) {d:Option Nat} (hd:∀ x,d=some x→x<nt) {t ty:TypeId} {ts:List TypeId} {x:Operand} (hx:zAL nt x=true)
  (h:(zBm P d .clear (t::ts) [x]).run o e=some e'):∃ w',(Builtin.clear_ (t::ts).toArray ty #[a.eval x]).run P w = .ok (.tuple #[]) w'∧Fr w0 U Φ0 nt hv (a.put d (.tuple #[])) w' e':=by
 simp only [zBm] at h
 obtain ⟨p,h1,hp⟩:=zBo S hx h
 simp only [zQm] at h1
 have light:∀ {v:Value},a.eval x=v→d=none→PM.ok.run o e=some e'→(∃ el,P.underlying t=some (.slice el))→((∃ b c,v = .slice b 0 c))→∃ w',(Builtin.clear_ (t::ts).toArray ty #[a.eval x]).run P w = .ok (.tuple #[]) w'∧Fr w0 U Φ0 nt hv (a.put d (.tuple #[])) w' e':=by
  intro v yD uK yJ ⟨el,ht⟩ ⟨b,c,hvb⟩
  subst uK
  have qn:Fr w0 U Φ0 nt hv (a.put none (.tuple #[])) w e':=by
   simp only [PM.run,Option.some.injEq] at yJ
   subst yJ
   exact ⟨Φ,rv,E,L,S,hb⟩
  refine ⟨w,?_,qn⟩
  rw [yD,hvb]
  cases b<;>simp [Builtin.clear_,run_underlying ht]
 split at h1
 ·rename_i r pre z lo n q s vH kd
  obtain ⟨hc,h2⟩:=zAF h1
  simp only [Bool.and_eq_true] at hc
  obtain ⟨⟨⟨c1,c2⟩,c3⟩,c4⟩:=hc
  have c1:=zBW c1
  have c2:=Nat.eq_of_beq_eq_true c2
  have c3:=Nat.eq_of_beq_eq_true c3
  subst c2
  cases yt:zBM P t with
  | none=>rw [yt] at vH;cases vH
  | some el =>
  rw [yt] at vH kd
  simp only [Option.bind_some] at vH kd
  have ht:=zCr yt
  obtain ⟨i,z0,hi,_,kN,kM⟩:=zDH vH
  have hrz:=zB8 (w:=w) (Φ:=Φ) (A:=zB6) kM
  have ws:z0.cells.size=z:=by rw [hrz.2.1,c3]
  by_cases kL:n=0
  ·subst kL
   obtain ⟨_,_,⟨b,cap,w8,_⟩,_⟩:=hp
   exact light w8 rfl (by simpa [zGc] using h2) ⟨el,ht⟩ ⟨b,cap,rfl⟩
  have ue:∀ k,zAX w Φ zB6 (List.replicate k q) (List.replicate k z0) []:=by
   intro k
   induction k with
   | zero=>exact ⟨rfl,rfl⟩
   | succ k ih=>exact ⟨z0,_,[],[],rfl,rfl,hrz.1,ih⟩
  have S1:=S.hold (g:=zAb+2) (by omega) hp
  obtain ⟨w1,e1,rv1,E1,L1,k1,S2,k3,_,k4⟩:=zKU (z:=z) (lo:=lo) (n:=n) (v:=a.eval x) c1 (List.replicate n q) (List.replicate n z0) 0 S1 zAj zAj (fun s hs hI=>by rw [zAg hI];exact hb s hs) (fun y hy=>by rw [List.eq_of_mem_replicate hy];exact ⟨c4,c3⟩) (by simp [hrz.2.2.1]) (ue n) (by simp) (by simpa using h2)
  have yM:Fr w0 U Φ0 nt hv (a.put none (.tuple #[])) w1 e':=by
   obtain ⟨Φ2,rv2,E2,L2,S3,qX⟩:=S2.clear
   simp only [PM.run,Option.some.injEq] at k1
   subst k1
   exact ⟨_,_,_,_,S3,qX⟩
  obtain ⟨_,hg,⟨b,cap,w8,yR,yX,y4⟩,hn⟩:=hp
  refine ⟨w1,?_,yM⟩
  rcases k4 with ⟨vX,rfl⟩ | ⟨b',cap',row,yD,y1,yC,yB,yO,rfl⟩
  ·exact absurd (by simpa using vX) kL
  ·obtain ⟨et,jh⟩:=yC
   have yK:=run_storeCells_at (P:=P) b'.block b'.off et (flat (List.replicate n z0)) 0 row w jh (by simpa using yB) yO
   simp only [Nat.add_zero] at yK
   have yH:b'=⟨b'.block,b'.off,none⟩:=by cases b';simp_all
   rw [← yH,zGd] at yK
   rw [yD]
   obtain ⟨m,rfl⟩:∃ m,n=m+1:=⟨n-1,by omega⟩
   simp [Builtin.clear_,run_underlying ht,kN,yK,zBa,zGd]
 ·rename_i h3 h4
  obtain ⟨el,yt⟩:∃ el,zBM P t=some el:=by
   cases yt:zBM P t with
   | none=>rw [yt] at h3;cases h3
   | some el=>exact ⟨el,rfl⟩
  obtain ⟨_,⟨_,b,c,yD,_⟩ | ⟨b,n',c,us,sz,yD,_⟩⟩:=hp
  ·exact light yD rfl h1 ⟨el,zCr yt⟩ ⟨b,c,rfl⟩
  ·exact light yD rfl h1 ⟨el,zCr yt⟩ ⟨some b,n',rfl⟩
 ·rename_i h3 h4
  obtain ⟨el,yt⟩:∃ el,zBM P t=some el:=by
   cases yt:zBM P t with
   | none=>rw [yt] at h3;cases h3
   | some el=>exact ⟨el,rfl⟩
  exact light hp.1 rfl h1 ⟨el,zCr yt⟩ ⟨none,0,rfl⟩
 ·cases h1
end
end Go.Eng
