/- For all numbers, cries, which and when the law NewsSpared ends in true: without a cry that is told all yn hold the same, without another one some hold something else; without conditions. -/
import Derived.Test.YtppbomajegnkeaaGreatPa
import Derived.Laws.AppendOwn
set_option linter.unusedVariables false
set_option linter.unusedSimpArgs false
set_option linter.unusedSectionVars false
namespace Go.Eng
open Go
section
variable {P:Program} {w0 w w':World} {U Φ0 Φ:Nat→Prop} {nt:Nat} {hv:Hid} {a:Act} {e e':Env} {rv rv':Nat→Value} {E E':Nat→PV} {L L':Nat→List Nat} {o:zAF} {A:Al}
def Cov (w:World) (Φ:Nat→Prop) (rv:Nat→Value) (E:Nat→PV) (Φ1:Nat→Prop) (x:Nat×zAU):Prop :=
 ∀ nv q Li A,zAR w (rv x.1) (E x.1).unlock x.2=some (nv,q)→Rep w Φ A q nv Li→∀ b∈Li,Φ1 b
def zM7 (hb:Nat) (A:Al):Al:=fun a v=>A a v∧∀ x∈a.ways,hb≤x.1
structure Shown (w:World) (Φ:Nat→Prop) (rv:Nat→Value) (E:Nat→PV) (hb:Nat) (p:PV) (v:Value) (Lp:List Nat) (q:PV) (l:List (Nat×zAU)):Prop where
 low:∀ x∈l,x.1<zAb∧x.1<hb
 agg:q.isAgg=p.isAgg
 len:q.cells.length=p.cells.length
 rep:∀ Φ1:Nat→Prop,(∀ b,Φ b→Φ1 b)→(∀ x∈l,Cov w Φ rv E Φ1 x)→(∀ b∈Lp,Φ1 b)→Rep w Φ1 (zM7 hb (zA8 w rv E)) q v []
structure Showns (w:World) (Φ:Nat→Prop) (rv:Nat→Value) (E:Nat→PV) (hb:Nat) (ps:List PV) (vs:List Value) (Lp:List Nat) (qs:List PV) (l:List (Nat×zAU)):Prop where
 low:∀ x∈l,x.1<zAb∧x.1<hb
 len:qs.length=ps.length
 rep:∀ Φ1:Nat→Prop,(∀ b,Φ b→Φ1 b)→(∀ x∈l,Cov w Φ rv E Φ1 x)→(∀ b∈Lp,Φ1 b)→zA2 w Φ1 (zM7 hb (zA8 w rv E)) qs vs []
theorem zBL {r:Nat} {pre:zAU} {k:PV→PM} (h:(PM.deep r pre k).run o e=some e'):∃ q,zAz (e.get r).unlock pre=some q∧(k q).run o e=some e':=by
 simp only [PM.run] at h
 cases hq:zAz (e.get r).unlock pre with
 | none=>rw [hq] at h;cases h
 | some q=>rw [hq] at h;exact ⟨q,rfl,h⟩
theorem zFf {hb:Nat} {res:PV→(PV→List (Nat×zAU)→PM)→PM}
  (yc:∀ p v Lp k,Rep w Φ (zA8 w rv E) p v Lp→(res p k).run o e=some e'→∃ q l,(k q l).run o e=some e'∧Shown w Φ rv E hb p v Lp q l) :
  ∀ (ps:List PV) (vs:List Value) (Lp:List Nat) (k:List PV→List (Nat×zAU)→PM),zA2 w Φ (zA8 w rv E) ps vs Lp→(zEq res ps k).run o e=some e'→∃ qs l,(k qs l).run o e=some e'∧Showns w Φ rv E hb ps vs Lp qs l
 | [],vs,Lp,k,h,hr=>⟨[],[],hr,⟨by simp,rfl,fun _ _ _ _=>⟨h.1,rfl⟩⟩⟩
 | p::ps,vs,Lp,k,h,hr=>by
  obtain ⟨v,vs',L1,L2,rfl,rfl,h1,h2⟩:=h
  simp only [zEq] at hr
  obtain ⟨q,l,h3,h4⟩:=yc p v L1 _ h1 hr
  obtain ⟨qs,m,h5,h6⟩:=zFf yc ps vs' L2 _ h2 h3
  refine ⟨q::qs,l++m,h5,⟨fun x hx=>?_,by simp [h6.len],fun Φ1 g1 g2 g3=>⟨v,vs',[],[],rfl,rfl,h4.rep Φ1 g1 (fun x hx=>g2 x (by simp [hx])) (fun b hb=>g3 b (by simp [hb])),h6.rep Φ1 g1 (fun x hx=>g2 x (by simp [hx])) (fun b hb=>g3 b (by simp [hb]))⟩⟩⟩
  rcases List.mem_append.1 hx with hx | hx
  ·exact h4.low x hx
  ·exact h6.low x hx
theorem zNJ {hb:Nat} {p:PV} {v:Value} {Lp:List Nat} (hp:Rep w Φ (zA8 w rv E) p v Lp) (hw:∀ x∈p.ways,hb≤x.1):Shown w Φ rv E hb p v Lp (zAV p) [] :=
 ⟨by simp,zC6 p,zDa p,fun Φ1 g1 _ g3=>(zD7 g1 p v Lp g3 hp).ways _ _ _ fun a v _ hx ha=>⟨ha,fun x gH=>hw x (zGu p x (hx x gH))⟩⟩
theorem zHM {hb:Nat} {p:PV} {v:Value} (hp:Rep w Φ (zA8 w rv E) p v []) (hw:∀ x∈p.ways,hb≤x.1):Shown w Φ rv E hb p v [] p [] :=
 ⟨by simp,rfl,rfl,fun Φ1 g1 _ g3=>(hp.mono (fun b hb=>⟨g1 b hb,rfl⟩) (fun _ _ _ h=>h) (by simp)).ways _ _ _ fun a v _ hx ha=>⟨ha,fun x gH=>hw x (hx x gH)⟩⟩
theorem zHB {hb:Nat} {l:List (Nat×zAU)} (h:l.isEmpty=true):∀ x∈l,hb≤x.1:=by
 cases l with
 | nil=>simp
 | cons _ _=>cases h
theorem zKm (S:St w0 U Φ0 nt hv a w e Φ rv E L) {hb:Nat}:∀ (n:Nat) (p:PV) (v:Value) (Lp:List Nat) (k:PV→List (Nat×zAU)→PM),Rep w Φ (zA8 w rv E) p v Lp→(resolve hb n p k).run o e=some e' →
  ∃ q l,(k q l).run o e=some e'∧Shown w Φ rv E hb p v Lp q l
 | 0,p,v,Lp,k,hp,h=>by cases h
 | n + 1, p, v,Lp,k,hp,h=>by
  have ih:=zKm S (hb:=hb) n
  have node:∀ r pre x,r<zAb→zAz (e.get r).unlock pre=some x→∃ nv Li,zAR w (rv r) (E r).unlock pre=some (nv,x)∧Rep w Φ (zA8 w rv E) x nv Li∧∀ Φ1,Cov w Φ rv E Φ1 (r,pre)→∀ b∈Li,Φ1 b:=by
   intro r pre x hr hx
   rw [← S.env r hr] at hx
   obtain ⟨nv,Li,h1,_,h3⟩:=zBO (zB7 (S.conf.rep r)) hx
   exact ⟨nv,Li,h1,h3.mono zDc.refl (fun _ _ _ h=>zEx h) (fun _ _=>rfl),fun Φ1 hc b hb=>hc nv x Li _ h1 h3 b hb⟩
  have dflt:(∀ x∈p.ways,hb≤x.1)→(k (zAV p) []).run o e=some e'→∃ q l,(k q l).run o e=some e'∧Shown w Φ rv E hb p v Lp q l :=
   fun hw h=>⟨_,_,h,zNJ hp hw⟩
  have dflt2:(bif p.ways.all (fun w=>Nat.ble hb w.1) then k (zAV p) [] else .fail).run o e=some e'→∃ q l,(k q l).run o e=some e'∧Shown w Φ rv E hb p v Lp q l:=by
   intro h
   obtain ⟨h1,h2⟩:=zAJ h
   exact dflt (fun x hx=>Nat.le_of_ble_eq_true (List.all_eq_true.1 h1 x hx)) h2
  have keep:∀ r,(∀ x∈p.ways,x.1=r)→Lp=[]→(k p []).run o e=some e'→Nat.ble hb r=true→∃ q l,(k q l).run o e=some e'∧Shown w Φ rv E hb p v Lp q l:=by
   intro r hw hL hk hr
   subst hL
   exact ⟨_,_,hk,zHM hp fun x hx=>by rw [hw x hx];exact Nat.le_of_ble_eq_true hr⟩
  have yw:∀ r,Nat.ble hb r=false→r<hb:=by
   intro r hr
   exact Nat.lt_of_not_le fun yN=>by rw [Nat.ble_eq_true_of_le yN] at hr;cases hr
  cases p<;>simp only [resolve] at h<;>try (exact dflt2 h)
  case agg cs =>
   cases hw:(PV.agg cs).ways.isEmpty with
   | true=>rw [hw] at h;exact dflt (zHB hw) h
   | false =>
    rw [hw] at h;simp only [cond_false] at h
    obtain ⟨vs,rfl,hr⟩:=hp
    obtain ⟨qs,l,h1,h2⟩:=zFf ih cs _ Lp _ hr h
    exact ⟨_,_,h1,⟨h2.low,rfl,by simpa [PV.cells] using h2.len,fun Φ1 g1 g2 g3=>⟨vs,rfl,h2.rep Φ1 g1 g2 g3⟩⟩⟩
  case ref q =>
   have hL:=hp.1
   subst hL
   cases hw:q.ways.isEmpty with
   | true=>rw [hw] at h;exact ⟨_,_,h,zHM hp (zHB hw)⟩
   | false =>
    rw [hw] at h;simp only [cond_false] at h
    obtain ⟨_,b,c,u,h1,h2,h3,h4,h5,h6,h7⟩:=hp
    obtain ⟨q',l,h8,h9⟩:=ih q u [] _ h7 h
    refine ⟨_,_,h8,⟨h9.low,rfl,rfl,fun Φ1 g1 g2 g3=>⟨rfl,b,c,u,h1,h2,g1 _ h3,h4,by rw [h9.len];exact h5,by rw [h9.len,h9.agg];exact h6,h9.rep Φ1 g1 g2 (by simp)⟩⟩⟩
  case func f x y =>
   have hL:=hp.1
   subst hL
   cases hw:(PV.func f x y).ways.isEmpty with
   | true=>rw [hw] at h;exact ⟨_,_,h,zHM hp (zHB hw)⟩
   | false =>
    rw [hw] at h;simp only [cond_false] at h
    obtain ⟨_,fs,cs,h1,h2,h3⟩:=hp
    obtain ⟨qs,l,h4,h5⟩:=zFf ih x _ [] _ h2 h
    obtain ⟨qs',m,h6,h7⟩:=zFf ih y _ [] _ h3 h4
    refine ⟨_,_,h6,⟨fun z hz=>?_,rfl,rfl,fun Φ1 g1 g2 g3=>⟨rfl,fs,cs,h1,h5.rep Φ1 g1 (fun z hz=>g2 z (by simp [hz])) (by simp),h7.rep Φ1 g1 (fun z hz=>g2 z (by simp [hz])) (by simp)⟩⟩⟩
    rcases List.mem_append.1 hz with hz | hz
    ·exact h5.low z hz
    ·exact h7.low z hz
  case addr r pre i c sh =>
   have hL:=hp.1
   have ha:=hp.2
   cases jn:Nat.ble hb r with
   | true=>rw [jn] at h;exact keep r (by simp [PV.ways]) hL h jn
   | false =>
    rw [jn] at h;simp only [cond_false] at h
    obtain ⟨x,hx,h1⟩:=zBL h
    obtain ⟨hg,ad,rfl,y4,hn⟩:=ha
    obtain ⟨nv,Li,hf,vn,jr⟩:=node r pre x hg hx
    cases hh:zBg x with
    | none=>rw [hh] at h1;cases h1
    | some xs =>
     rw [hh] at h1;simp only at h1
     cases hi:xs[i]? with
     | none=>rw [hi] at h1;cases h1
     | some y =>
      rw [hi] at h1;simp only at h1
      obtain ⟨ux,row,ad0,Lx,k1,k2,k3,k4,k5,k6,k7,k8,k9⟩:=zLg vn hh hi
      have jH:=hn nv x hf _ (k5 c)
      subst jH
      have k9':=k9.mono (A':=zA8 w rv E) zDc.refl (fun _ _ _ h=>zFV h) (fun _ _=>rfl)
      cases sh with
      | some m =>
       simp only at h1
       obtain ⟨hc,h2⟩:=zAJ h1
       simp only [Bool.and_eq_true] at hc
       have yN:=Nat.le_of_ble_eq_true hc.1
       cases hya:y<;>rw [hya] at hc<;>try (simp [PV.isAgg] at hc;done)
       rename_i cs
       subst hya
       obtain ⟨vs,rfl,hr⟩:=k9'
       obtain ⟨Ly,hly,wq⟩:=zGs hr c m
       have hZ:=hr.length
       obtain ⟨q',l,h3,h4⟩:=ih (.agg ((cs.drop c).take m)) (.agg ((vs.toList.drop c).take m).toArray) Ly _ ⟨_,rfl,by simpa using wq⟩ h2
       have jf:q'.cells.length=m:=by rw [h4.len];simp [PV.cells] at yN ⊢;omega
       refine ⟨_,_,h3,⟨fun z hz=>?_,rfl,rfl,fun Φ1 g1 g2 g3=>?_⟩⟩
       ·rcases List.mem_cons.1 hz with rfl | hz
        ·exact ⟨hg,yw r jn⟩
        ·exact h4.low z hz
       ·have jV:=jr Φ1 (g2 _ (by simp))
        refine ⟨rfl,zAt ad0 c,row,_,rfl,rfl,jV _ k1,k3.any,?_,⟨?_,?_⟩,h4.rep Φ1 g1 (fun z hz=>g2 z (by simp [hz])) fun b hb=>jV b (k4 b (hly b hb))⟩
        ·rw [jf];simp only [zAt,Value.cells];rw [k6 c m yN];rfl
        ·rw [jf];simp [Value.cells,PV.cells] at yN hZ ⊢;omega
        ·rw [h4.agg];rfl
      | none =>
       simp only at h1
       cases hc:y.cells[c]? with
       | none=>rw [hc] at h1;cases h1
       | some z =>
        rw [hc] at h1;simp only at h1
        obtain ⟨vI,h2⟩:=zAJ h1
        obtain ⟨u,La,Lu,Lb,hu,vl,kh,_,_⟩:=k9'.cell hc k7
        obtain ⟨q',l,h3,h4⟩:=ih z u Lu _ kh h2
        have kb:=zBN (zCb (fun a v hw h=>zC8 hw h) kh vI)
        have vm:=zBp vI
        have yO:c<y.cells.length:=(List.getElem?_eq_some_iff.1 hc).1
        refine ⟨_,_,h3,⟨fun z hz=>?_,rfl,rfl,fun Φ1 g1 g2 g3=>?_⟩⟩
        ·rcases List.mem_cons.1 hz with rfl | hz
         ·exact ⟨hg,yw r jn⟩
         ·exact h4.low z hz
        ·have jV:=jr Φ1 (g2 _ (by simp))
         refine ⟨rfl,zAt ad0 c,row,u,rfl,rfl,jV _ k1,k3.any,?_,⟨?_,?_⟩,h4.rep Φ1 g1 (fun z hz=>g2 z (by simp [hz])) fun b hb=>jV b (k4 b (by rw [vl];simp [hb]))⟩
         ·rw [h4.len,vm.1,kb.1]
          have:=k6 c 1 (by omega)
          simp only [zAt,List.length_singleton]
          rw [this]
          have yK:c<ux.cells.toList.length:=by simpa [k8] using yO
          rw [List.drop_eq_getElem_cons yK]
          have:ux.cells.toList[c]=u:=by rw [List.getElem?_eq_getElem yK] at hu;simpa using hu
          simp [this]
         ·rw [h4.len,vm.1,kb.1];rfl
         ·rw [h4.agg,vm.2,kb.2]
  case bor r pre z lo m =>
   have hL:=hp.1
   have ha:=hp.2
   cases jn:Nat.ble hb r with
   | true=>rw [jn] at h;exact keep r (by simp [PV.ways]) hL h jn
   | false =>
    rw [jn] at h;simp only [cond_false] at h
    obtain ⟨x,hx,h1⟩:=zBL h
    obtain ⟨hg,_,hn⟩:=ha
    obtain ⟨nv,Li,hf,vn,jr⟩:=node r pre x hg hx
    split at h1
    ·rename_i sz xs
     obtain ⟨hc,h2⟩:=zAJ h1
     refine ⟨_,_,h2,⟨fun z hz=>?_,rfl,rfl,fun Φ1 g1 g2 g3=>?_⟩⟩
     ·simp only [List.mem_singleton] at hz;subst hz;exact ⟨hg,yw r jn⟩
     ·have:=zH9 (A':=zM7 hb (zA8 w rv E)) g1 vn (jr Φ1 (g2 _ (by simp))) (z:=z) (lo:=lo) (n:=m) (v:=v) fun sz' xs' uQ=>by
       obtain ⟨sz2,xs2,h7,h8,h9⟩:=hn nv _ hf rfl
       cases h7;cases uQ;exact ⟨h8,h9⟩
      simp only [zCH,hc,cond_true] at this
      exact this
    ·cases h1
  case bmap r pre =>
   have hL:=hp.1
   have ha:=hp.2
   cases jn:Nat.ble hb r with
   | true=>rw [jn] at h;exact keep r (by simp [PV.ways]) hL h jn
   | false =>
    rw [jn] at h;simp only [cond_false] at h
    obtain ⟨x,hx,h1⟩:=zBL h
    obtain ⟨hg,_,hn⟩:=ha
    obtain ⟨nv,Li,hf,vn,jr⟩:=node r pre x hg hx
    split at h1
    ·rename_i es
     refine ⟨_,_,h1,⟨fun z hz=>?_,rfl,rfl,fun Φ1 g1 g2 g3=>?_⟩⟩
     ·simp only [List.mem_singleton] at hz;subst hz;exact ⟨hg,yw r jn⟩
     ·exact zGP (A':=zM7 hb (zA8 w rv E)) g1 vn (jr Φ1 (g2 _ (by simp))) (v:=v) fun es' uQ=>hn nv _ hf _ uQ
    ·cases h1
  case bsl r pre i c sz ag m =>
   have hL:=hp.1
   have ha:=hp.2
   cases jn:Nat.ble hb r with
   | true=>rw [jn] at h;exact keep r (by simp [PV.ways]) hL h jn
   | false =>
    rw [jn] at h;simp only [cond_false] at h
    obtain ⟨x,hx,h1⟩:=zBL h
    obtain ⟨hg,ad,cap,rfl,yR,y4,hn⟩:=ha
    obtain ⟨nv,Li,hf,vn,jr⟩:=node r pre x hg hx
    cases hh:zBg x with
    | none=>rw [hh] at h1;cases h1
    | some xs =>
     rw [hh] at h1;simp only at h1
     cases hi:xs[i]? with
     | none=>rw [hi] at h1;cases h1
     | some y =>
      rw [hi] at h1;simp only at h1
      obtain ⟨hc,h2⟩:=zAJ h1
      refine ⟨_,_,h2,⟨fun z hz=>?_,rfl,rfl,fun Φ1 g1 g2 g3=>?_⟩⟩
      ·simp only [List.mem_singleton] at hz;subst hz;exact ⟨hg,yw r jn⟩
      ·have:=zG8 (A':=zM7 hb (zA8 w rv E)) (fun a v hw h=>zI0 hw h) g1 vn (jr Φ1 (g2 _ (by simp))) (i:=i) (c:=c) (sz:=sz) (ag:=ag) (m:=m) (v := .slice (some ad) m cap) rfl yR fun a' kN=>hn nv x hf a' kN
       simp only [zCA,hh,hi,hc,cond_true] at this
       exact this
theorem zO0 (S:St w0 U Φ0 nt hv a w e Φ rv E L) {p:PV} {v:Value} {Lp:List Nat} {k:PV→List (Nat×zAU)→PM} (hp:Rep w Φ (zA8 w rv E) p v Lp) (h:(zPp p k).run o e=some e') :
  ∃ q l,(k q l).run o e=some e'∧(∀ x∈l,x.1<zAb)∧∀ Φ1:Nat→Prop,(∀ b,Φ b→Φ1 b)→(∀ x∈l,Cov w Φ rv E Φ1 x)→(∀ b∈Lp,Φ1 b)→Rep w Φ1 zCe q v []:=by
 obtain ⟨q,l,h1,h2⟩:=zKm S (hb:=zAb) depth p v Lp k hp h
 refine ⟨q,l,h1,fun x hx=>(h2.low x hx).1,fun Φ1 g1 g2 g3=>(h2.rep Φ1 g1 g2 g3).mono zDc.refl (fun a v hw ha=>?_) (fun _ _=>rfl)⟩
 have hr:=zC3 ha.1
 have:=ha.2 (zA9 a)
 cases a<;>first | (cases hw;done) | (exact ha.1.elim) | skip
 all_goals
  have:=this (by simp [PV.ways,zA9])
  omega
theorem zMe {p q' p':PV} {i c:Nat} (hp:zB1 p i c q'=some p'):p'.unlock=p'∧p'.isTup=false:=by
 simp only [zB1] at hp
 cases p<;>simp only [zA0,Option.bind_none,Option.bind_some] at hp<;>try cases hp
 case own sz xs =>
  cases hx:xs[i]?<;>rw [hx] at hp<;>simp [zAC] at hp
  subst hp;exact ⟨rfl,rfl⟩
 case box q =>
  cases i with
  | zero=>simp [zAC] at hp;subst hp;exact ⟨rfl,rfl⟩
  | succ i=>simp at hp
 case agg cs =>
  cases i with
  | zero=>simp [zAC,zAx] at hp;subst hp;exact ⟨rfl,rfl⟩
  | succ i=>simp at hp
theorem zBR {q' p p':PV} (h1:q'.unlock=q') (h2:q'.isTup=false):∀ {pre:zAU},zAu (fun _=>some q') p pre=some p'→p'.unlock=p'∧p'.isTup=false
 | [],h=>by simp only [zAu,Option.some.injEq] at h;subst h;exact ⟨h1,h2⟩
 | (i,c)::rest,h=>by
  rw [zBt] at h
  cases hc:Eng.child p i c with
  | none=>rw [hc] at h;cases h
  | some q =>
   rw [hc] at h;simp only [Option.bind_some] at h
   cases hm:zAu (fun _=>some q') q rest with
   | none=>rw [hm] at h;cases h
   | some q1=>rw [hm] at h;exact zMe (by simpa using h)
theorem zFb (q:PV):(zAV q).unlock=zAV q∧(zAV q).isTup=false:=by cases q<;>exact ⟨rfl,rfl⟩
theorem zBC {p:PV} (h:p.isLock=false):p.unlock=p:=by cases p<;>first | rfl | cases h
theorem zQT (r:Nat) (pre:zAU) (q p:PV) (hp:p.isWay=true):(inl r pre q p).isTup=false:=by
 have h:=(zIy r pre q).dull p hp
 have h1 : ∀ i c sh x,(zDD i c sh x).isTup=false:=by
  intro i c sh x
  simp only [zDD]
  split
  ·split
   ·split
    ·cases (Nat.ble _ _&&PV.isAgg _)<;>rfl
    ·split
     ·rename_i q _;cases q.oneCell<;>rfl
     ·rfl
   ·rfl
  ·rfl
 have h2:∀ lo n x,(zCH lo n x).isTup=false:=by
  intro lo n x
  cases x<;>try rfl
  simp only [zCH];cases Nat.ble _ _<;>rfl
 have h5:∀ i c sz ag m x,(zCA i c sz ag m x).isTup=false:=by
  intro i c sz ag m x
  simp only [zCA]
  split
  ·split
   ·cases (zCm ag sz m _&&_)<;>rfl
   ·rfl
  ·rfl
 have h3:∀ x,(zEN x).isTup=false:=by intro x;cases x<;>rfl
 have h4:∀ (o:Option PV) (f:PV→PV),(∀ x,(f x).isTup=false)→(zGi o f).isTup=false:=by
  intro o f hf;cases o with
  | none=>rfl
  | some x=>exact hf x
 cases p<;>first | (cases hp;done) | skip
 all_goals
  simp only [inl]
  first | rfl | skip
 all_goals
  cases zAL r pre _ _<;>first | rfl | exact h4 _ _ (h1 _ _ _) | exact h4 _ _ (h2 _ _) | exact h4 _ _ h3 | exact h4 _ _ (h5 _ _ _ _ _)
theorem zXn (S:St w0 U Φ0 nt hv a w e Φ rv E L) (M:Nat→Bool) {r:Nat} {pre:zAU} {q:PV} (hr:r<zAb) (hq:zAz (e.get r).unlock pre=some q) {k:PM} (h:(PM.frz r pre k).run o e=some e') :
  ∃ e1 Φ1 E1 L1,k.run o e1=some e'∧St w0 U Φ0 nt hv a w e1 Φ1 rv E1 L1∧(∀ b,Φ b→Φ1 b)∧(∀ s,zAb≤s→E1 s=(if M s then (E s).mapW (inl r pre q) else E s)∧L1 s=L s):=by
 simp only [PM.run] at h
 cases hf:e.frz r pre with
 | none=>rw [hf] at h;cases h
 | some e1 =>
  rw [hf] at h;simp only at h
  obtain ⟨q0,root,hl,hn,hm,yW⟩:=Env.frz_eq hf
  have yF:=zBC hl
  rw [yF,hn] at hq;simp only [Option.some.injEq] at hq;subst hq
  have hE:=S.env r hr
  obtain ⟨k1,k2⟩:=zBR (zFb q0).1 (zFb q0).2 hm
  obtain ⟨nv,Li,L',h1,h2,h3,h4⟩:=S.conf.ice M hr (pre:=pre) (q:=q0) (root':=root) (by rw [hE];exact yF) (by rw [hE];exact hn) (by rw [hE];exact hm) k1
  refine ⟨e1,_,_,L',h,S.turn h4 (fun s hs=>?_) (fun _ _=>rfl) (fun d ps hd hp=>?_),fun b hb => .inl hb,fun s hs=>⟨?_,h3 s (by omega)⟩⟩
  ·simp only [hs,true_or,if_true]
   rw [yW s]
   by_cases yZ:s=r
   ·subst yZ;simp
   ·rw [if_neg yZ,if_neg yZ,S.env s hs]
  ·have ug:d<zAb:=by simp only [zAb];omega
   simp only [ug,true_or,if_true] at hp
   obtain ⟨ps',h5,h6⟩:=zD3 (zQT r pre q0) hp
   by_cases ji:d=r
   ·rw [if_pos ji] at h5;rw [h5] at k2;cases k2
   ·rw [if_neg ji] at h5;exact ⟨ps',h5,h6⟩
  ·have:¬ s<zAb:=by omega
   simp only [this,false_or]
   have yZ:s≠r:=by omega
   rw [if_neg yZ]
theorem zR1 {l:List (Nat×zAU)} {hb:Nat} (h:l.find? (fun w=>Nat.blt w.1 hb)=none):∀ x∈l,hb≤x.1:=by
 intro x hx
 have:=List.find?_eq_none.1 h x hx
 exact Nat.le_of_not_lt fun yK=>this (Nat.ble_eq_true_of_le yK)
theorem zIW {hb g:Nat} (hg:zAb≤g) (jn:hb≤zAb) {k:PV→PM}:∀ (n:Nat) {e:Env} {Φ:Nat→Prop} {E:Nat→PV} {L:Nat→List Nat},St w0 U Φ0 nt hv a w e Φ rv E L→(zLO hb n (E g) k).run o e=some e' →
  ∃ e1 Φ1 E1 L1,(k (E1 g)).run o e1=some e'∧St w0 U Φ0 nt hv a w e1 Φ1 rv E1 L1∧(∀ b,Φ b→Φ1 b)∧(∀ s,zAb≤s→s≠g→E1 s=E s)∧(∀ s,zAb≤s→L1 s=L s) ∧
   (∀ x∈(E1 g).ways,hb≤x.1)∧(E1 g).isAgg=(E g).isAgg∧(E1 g).cells.length=(E g).cells.length
 | 0,e,Φ,E,L,S,h=>by cases h
 | n + 1,e,Φ,E,L,S,h=>by
  simp only [zLO] at h
  split at h
  ·rename_i hf
   exact ⟨e,Φ,E,L,h,S,fun _ h=>h,fun _ _ _=>rfl,fun _ _=>rfl,zR1 hf,rfl,rfl⟩
  ·rename_i r pre hf
   have hr:r<zAb:=by
    have:=List.find?_some hf
    have:r<hb:=Nat.le_of_ble_eq_true this
    omega
   obtain ⟨q,hq,h1⟩:=zBL h
   obtain ⟨e1,Φ1,E1,L1,h2,S1,h3,h4⟩:=zXn S (fun s=>s==g) hr hq h1
   have uV:E1 g=(E g).mapW (inl r pre q):=by simpa using (h4 g hg).1
   rw [← uV] at h2
   obtain ⟨e2,Φ2,E2,L2,h5,S2,h6,h7,h8,h9,jS,vH⟩:=zIW hg jn n S1 h2
   refine ⟨e2,Φ2,E2,L2,h5,S2,fun b hb=>h6 b (h3 b hb),fun s hs hI=>?_,fun s hs=>(h8 s hs).trans (h4 s hs).2,h9,?_,?_⟩
   ·rw [h7 s hs hI,(h4 s hs).1];simp [hI]
   ·rw [jS,uV,zF2 (zIy r pre q).agg]
   ·rw [vH,uV,zHI (zIy r pre q).agg]
end
end Go.Eng
namespace Go.Eng
open Go
section
variable {w w':World} {Φ Φ':Nat→Prop} {A A':Al}
theorem zA2.append:∀ {ps qs:List PV} {us vs:List Value} {L M:List Nat},zA2 w Φ A ps us L→zA2 w Φ A qs vs M→zA2 w Φ A (ps++qs) (us++vs) (L++M)
 | [],qs,us,vs,L,M,h,h'=>by obtain ⟨rfl,rfl⟩:=h;simpa using h'
 | p::ps,qs,us,vs,L,M,h,h'=>by
  obtain ⟨v,us',L1,L2,rfl,rfl,h1,h2⟩:=h
  exact ⟨v,us'++vs,L1,L2++M,rfl,by simp,h1,h2.append h'⟩
theorem zA2.cut:∀ {ps:List PV} {us:List Value} {L:List Nat} (n:Nat),zA2 w Φ A ps us L→∃ L1 L2,L=L1++L2∧zA2 w Φ A (ps.take n) (us.take n) L1∧zA2 w Φ A (ps.drop n) (us.drop n) L2
 | ps,us,L,0,h=>⟨[],L,rfl,by simp [zA2],by simpa using h⟩
 | [],us,L,n+1,h=>by obtain ⟨rfl,rfl⟩:=h;exact ⟨[],[],rfl,by simp [zA2],by simp [zA2]⟩
 | p::ps,us,L,n+1,h=>by
  obtain ⟨v,us',L1,L2,rfl,rfl,h1,h2⟩:=h
  obtain ⟨M1,M2,rfl,h3,h4⟩:=h2.cut n
  exact ⟨L1++M1,M2,by simp,⟨v,_,L1,M1,rfl,rfl,h1,h3⟩,by simpa using h4⟩
theorem zA2.replace {ps:List PV} {us:List Value} {L:List Nat} (h:zA2 w Φ A ps us L) (c n:Nat):∃ L1 L2 L3,L=L1++L2++L3 ∧
  ∀ {w':World} {Φ':Nat→Prop} {A':Al} {qs:List PV} {vs:List Value} {Lq:List Nat},(∀ a v,a.isWay=true→A a v→A' a v)→zDc w w' Φ Φ'→(∀ b∈L1++L3,w'.heap[b]? = w.heap[b]?)→zA2 w' Φ' A' qs vs Lq →
   zA2 w' Φ' A' (ps.take c++qs++ps.drop (c+n)) (us.take c++vs++us.drop (c+n)) (L1++Lq++L3):=by
 obtain ⟨L1,L23,rfl,h1,h2⟩:=h.cut c
 obtain ⟨L2,L3,rfl,_,h3⟩:=h2.cut n
 rw [List.drop_drop,List.drop_drop] at h3
 refine ⟨L1,L2,L3,by simp,fun hA hs hb hq=>?_⟩
 exact ((h1.mono hs hA fun b h=>hb b (by simp [h])).append hq).append (h3.mono hs hA fun b h=>hb b (by simp [h]))
end
def zBi (c:Array Value) (o:Nat) (vs:List Value):Array Value:=(c.toList.take o++vs++c.toList.drop (o+vs.length)).toArray
theorem zGH {c:Array Value} {o:Nat} {vs:List Value} (h:o+vs.length≤c.size):(zBi c o vs).size=c.size:=by
 simp [zBi];omega
theorem zC0 {α:Type} {l:List α} {o:Nat} {vs:List α} (h:o+vs.length≤l.length) (k:Nat) :
  (l.take o++vs++l.drop (o+vs.length))[k]? = if k<o then l[k]? else if k<o+vs.length then vs[k-o]? else l[k]?:=by
 have ho:(l.take o).length=o:=by simp;omega
 have hov:(l.take o++vs).length=o+vs.length:=by simp;omega
 by_cases h1:k<o
 ·rw [if_pos h1,List.getElem?_append_left (by omega),List.getElem?_append_left (by omega),List.getElem?_take,if_pos h1]
 ·rw [if_neg h1]
  by_cases h2:k<o+vs.length
  ·rw [if_pos h2,List.getElem?_append_left (by omega),List.getElem?_append_right (by omega),ho]
  ·rw [if_neg h2,List.getElem?_append_right (by omega),hov,List.getElem?_drop,show o+vs.length+(k-(o+vs.length))=k by omega]
theorem zHL {c:Array Value} {o off m:Nat} {vs:List Value} (h1:off≤o) (h2:o+vs.length≤off+m) (h3:off+m≤c.size) :
  seg (zBi c o vs) off m=(seg c off m).take (o-off)++vs++(seg c off m).drop (o-off+vs.length):=by
 have jP:(seg c off m).length=m:=by simp [seg];omega
 apply List.ext_getElem?
 intro k
 rw [zC0 (by rw [jP];omega)]
 simp only [seg,zBi,List.getElem?_take,List.getElem?_drop]
 rw [zC0 (by simp;omega)]
 by_cases hk:k<m
 ·simp only [hk,if_true]
  by_cases h4:off+k<o
  ·have h6:k<o-off:=by omega
   simp only [h4,h6,if_true]
  ·have h6:¬ k<o-off:=by omega
   simp only [h4,h6,if_false]
   by_cases h5:off+k<o+vs.length
   ·have h7:k<o-off+vs.length:=by omega
    simp only [h5,h7,if_true]
    rw [show off+k-o=k-(o-off) by omega]
   ·have h7:¬ k<o-off+vs.length:=by omega
    simp only [h5,h7,if_false]
 ·have h6:¬ k<o-off:=by omega
  have h7:¬ k<o-off+vs.length:=by omega
  simp only [hk,h6,h7,if_false]
theorem zVD {c:Array Value} {off m:Nat} {l:List Value} (h:seg c off m=l) (hl:l.length=m) (hm:m≠0):off+m≤c.size:=by
 rw [← h] at hl
 simp [seg] at hl;omega
theorem zCY (us vs:List Value):flat (us++vs)=flat us++flat vs:=by simp [flat]
section
variable {w w':World} {Φ Φ':Nat→Prop} {A A':Al}
theorem zOU {x:PV} {u:Value} {L:List Nat} (h:Rep w Φ A x u L) (hn:zCi u=x.isAgg) {c:Nat} {qs:List PV} {vs:List Value} (hq:∀ q∈qs,q.oneCell=true) (ye:∀ v∈vs,v.oneCell'=true) (hZ:vs.length=qs.length) (hc:c+qs.length≤x.cells.length) :
  ∃ u' L1 L2 L3,u'.cells.toList=u.cells.toList.take c++vs++u.cells.toList.drop (c+vs.length)∧zCi u'=zCi u∧L=L1++L2++L3∧(zAx x c qs).isAgg=x.isAgg∧(zAx x c qs).cells.length=x.cells.length ∧
   ∀ {w':World} {Φ':Nat→Prop} {A':Al} {Lq:List Nat},(∀ a v,a.isWay=true→A a v→A' a v)→zDc w w' Φ Φ'→(∀ b∈L1++L3,w'.heap[b]? = w.heap[b]?)→zA2 w' Φ' A' qs vs Lq →
    Rep w' Φ' A' (zAx x c qs) u' (L1++Lq++L3):=by
 cases hx:x.isAgg with
 | true =>
  cases x<;>simp [PV.isAgg] at hx
  rename_i cs
  obtain ⟨us,rfl,hr⟩:=h
  obtain ⟨L1,L2,L3,rfl,hk⟩:=hr.replace c qs.length
  have jB:=hr.length
  refine ⟨.agg (us.toList.take c++vs++us.toList.drop (c+vs.length)).toArray,L1,L2,L3,by simp [Value.cells],rfl,rfl,rfl,?_,fun hA hs hb hq=>⟨_,rfl,?_⟩⟩
  ·simp [zAx,PV.cells] at hc ⊢;omega
  ·have:=hk hA hs hb hq
   rw [hZ];simpa using this
 | false =>
  have j7:x.cells=[x]:=by cases x<;>first | rfl | simp [PV.isAgg] at hx
  have hv:u.cells=#[u]:=by rw [hx] at hn;cases u<;>first | rfl | simp [zCi] at hn
  rw [j7] at hc ⊢
  match qs,vs,hZ,hq,ye with
  | [],[],_,_,_ =>
   have he:zAx x c []=x:=by cases x<;>first | rfl | simp [PV.isAgg] at hx
   refine ⟨u,L,[],[],by simp,rfl,by simp,by rw [he];exact hx,by rw [he,j7],fun hA hs hb hq=>?_⟩
   obtain ⟨_,rfl⟩:=hq
   rw [he];simpa using h.mono hs hA (fun b yG=>hb b (by simp [yG]))
  | [q],[v],_,hq,ye =>
   have v6:c=0:=by simp at hc;exact hc
   subst v6
   have he:zAx x 0 [q]=q:=by cases x<;>first | rfl | simp [PV.isAgg] at hx
   have h1:=zBp (hq q (by simp))
   have h2:=zBN (ye v (by simp))
   refine ⟨v,[],L,[],by simp [hv,h2.1],by rw [h2.2,hn,hx],by simp,by rw [he];exact h1.2,by rw [he,h1.1];rfl,fun hA hs hb hq=>?_⟩
   obtain ⟨v',vs',L1,L2,h3,h4,h5,h6⟩:=hq
   obtain ⟨h7,h8⟩:=h6
   cases h3;subst h8
   rw [he,h4];simpa using h5
  | _::_::_,_,_,_,_=>simp only [List.length_cons,List.length_nil] at hc;omega
theorem zED {α:Type} {l:List α} {i:Nat} {x:α} (h:i<l.length):l.set i x=l.take i++[x]++l.drop (i+1):=by
 rw [List.set_eq_take_append_cons_drop,if_pos h];simp
theorem zTL {np q':PV} {nv:Value} {Li:List Nat} (h:Rep w Φ A np nv Li) {xs:List PV} (hx:zBg np=some xs) {i c:Nat} {x:PV} (hi:xs[i]? = some x) {qs:List PV} {vs:List Value}
  (hq:∀ q∈qs,q.oneCell=true) (ye:∀ v∈vs,v.oneCell'=true) (hZ:vs.length=qs.length) (hI:qs.length≠0) (hc:c+qs.length≤x.cells.length) (hw:zAC np (xs.set i (zAx x c qs))=some q') :
  ∃ ad row La Lm Lb,zBa nv np i c=some ad∧ad.spot=none∧zEl w ad.block row∧ad.off+vs.length≤row.size∧Li=ad.block::(La++Lm++Lb) ∧
   ∀ {w':World} {Φ':Nat→Prop} {A':Al} {Lq:List Nat},(∀ a v,a.isWay=true→A a v→A' a v)→zDc w w' Φ Φ'→(∀ b∈La++Lb,w'.heap[b]? = w.heap[b]?)→zEl w' ad.block (zBi row ad.off vs)→zA2 w' Φ' (zGF A' np) qs vs Lq →
    Rep w' Φ' A' q' nv (ad.block::(La++Lq++Lb)):=by
 have yP:i<xs.length:=(List.getElem?_eq_some_iff.1 hi).1
 cases np<;>simp only [zBg] at hx<;>try cases hx
 case own sz =>
  obtain ⟨h1,h2,h3⟩ | ⟨a,n,r,us,L',rfl,h1,h2,h3,h4,h5,h6,⟨h7,uI⟩,h8,h9⟩:=h
  ·subst h1;simp at hi
  ·simp only [zAC,Option.some.injEq] at hw;subst hw
   have husl:us.length=xs.length:=by have:=congrArg List.length uI;simpa using this
   obtain ⟨Ka,K23,rfl,hA1,hB⟩:=h9.cut i
   have wv:i<us.length:=by omega
   have hxe:xs[i]=x:=by rw [List.getElem?_eq_getElem yP] at hi;simpa using hi
   rw [List.drop_eq_getElem_cons yP,List.drop_eq_getElem_cons wv,hxe] at hB
   obtain ⟨u,us2,Lx,Kb,hue,rfl,hr,hB⟩:=hB
   simp only [List.cons.injEq] at hue
   obtain ⟨hu0,rfl⟩:=hue
   have hu:us[i]? = some u:=by rw [List.getElem?_eq_getElem wv,hu0]
   have hg:zCi u=x.isAgg:=by
    have h1:(us.map zCi)[i]? = some (zCi u):=by simp [hu]
    have h2:(xs.map PV.isAgg)[i]? = some x.isAgg:=by simp [hi]
    rw [uI] at h1;rw [h1] at h2;simpa using h2
   have vZ:=h6 x (List.mem_of_getElem? hi)
   have jB:=h7 u (List.mem_of_getElem? hu)
   obtain ⟨u',L1,L2,L3,k1,k2,rfl,k4,k5,k6⟩:=zOU hr hg hq ye hZ hc
   have ww:i*sz+sz≤xs.length*sz:=by rw [← Nat.succ_mul];exact Nat.mul_le_mul_right _ yP
   have hnsz:xs.length*sz≤n*sz:=Nat.mul_le_mul_right _ h3
   have yB:a.off+(i*sz+c)+vs.length≤r.size:=by rw [hZ];omega
   refine ⟨zAt a (i*sz+c),r,Ka++L1,L2,L3++Kb,by rw [h1];rfl,rfl,h4,yB,by simp [zAt],@fun w' Φ' A' Lq hA hs hb yC qZ=>?_⟩
   have y9:xs.set i (zAx x c qs)=xs.take i++([zAx x c qs]++xs.drop (i+1)):=by rw [zED yP];simp
   have qa:us.set i u'=us.take i++([u']++us.drop (i+1)):=by rw [zED wv];simp
   refine .inr ⟨a,n,_,us.set i u',(Ka++(L1++Lq++L3)++Kb),by simp [zAt],by simpa using h1,h2,by simpa using h3,yC,?_,?_,⟨?_,?_⟩,?_,?_⟩
   ·show a.off+n*sz≤(zBi r (a.off+(i*sz+c)) vs).size
    rw [zGH yB];exact h5
   ·intro y hy
    rcases List.mem_or_eq_of_mem_set hy with hy | hy
    ·exact h6 y hy
    ·rw [hy,k5];exact vZ
   ·intro y hy
    rcases List.mem_or_eq_of_mem_set hy with hy | hy
    ·exact h7 y hy
    ·rw [hy]
     have:=congrArg List.length k1
     simp at this
     omega
   ·rw [zEt hi k4,zEt hu k2,uI]
   ·have v7:flat us=flat (us.take i)++(u.cells.toList++flat (us.drop (i+1))):=by
     conv=>lhs;rw [← List.take_append_drop i us,List.drop_eq_getElem_cons wv,hu0]
     rw [zCY,zCw]
    have jM:(flat (us.take i)).length=i*sz:=by
     rw [zBr (fun y hy=>h7 y (List.mem_of_mem_take hy)),List.length_take,Nat.min_eq_left (by omega)]
    have wx:u.cells.toList.length=sz:=by simpa using jB
    rw [List.length_set]
    show seg (zBi r (zAt a (i*sz+c)).off vs) a.off (xs.length*sz)=_
    simp only [zAt]
    rw [zHL (by omega) (by rw [hZ];omega) (by omega),h8,show a.off+(i*sz+c)-a.off=i*sz+c by omega]
    rw [qa,zCY,zCY,v7]
    have e1:(flat (us.take i)++(u.cells.toList++flat (us.drop (i+1)))).take (i*sz+c)=flat (us.take i)++u.cells.toList.take c:=by
     rw [List.take_append,jM,List.take_of_length_le (by omega),show i*sz+c-i*sz=c by omega,List.take_append_of_le_length (by omega)]
    have e2:(flat (us.take i)++(u.cells.toList++flat (us.drop (i+1)))).drop (i*sz+c+vs.length)=u.cells.toList.drop (c+vs.length)++flat (us.drop (i+1)):=by
     rw [List.drop_append,jM,List.drop_of_length_le (by omega),show i*sz+c+vs.length-i*sz=c+vs.length by omega,List.drop_append_of_le_length (by omega)];rfl
    rw [e1,e2]
    have e3:flat [u']=u'.cells.toList:=by simp [flat]
    rw [e3,k1];simp
   ·rw [y9,qa]
    have uQ:=k6 (fun a v _ h=>h) (Φ':=_) hs (fun b h=>hb b (by simp at h ⊢;rcases h with h | h<;>simp [h])) qZ
    have:=(hA1.mono hs (fun _ _ _ h=>h) (fun b h=>hb b (by simp [h]))).append ((show zA2 _ _ zCe [zAx x c qs] [u'] _ from ⟨u',[],_,[],rfl,rfl,uQ,rfl,rfl⟩).append (hB.mono hs (fun _ _ _ h=>h) (fun b h=>hb b (by simp [h]))))
    simpa using this
 case box q0 =>
  obtain ⟨a,r,u0,L',rfl,h1,h2,h4,h5,⟨h6,ue⟩,h7⟩:=h
  have jg:i=0:=by simpa using yP
  subst jg;simp at hi;subst hi
  simp only [List.set_cons_zero,zAC,Option.some.injEq] at hw;subst hw
  obtain ⟨u',L1,L2,L3,k1,k2,rfl,k4,k5,k6⟩:=zOU h7 ue hq ye hZ hc
  have jB:u0.cells.toList.length=q0.cells.length:=by simpa using h6
  have j6:a.off+q0.cells.length≤r.size:=zVD h5 jB (by omega)
  refine ⟨zAt a c,r,L1,L2,L3,by rw [h1];rfl,rfl,h4,by simp only [zAt];omega,by simp [zAt],fun hA hs hb yC qZ=>?_⟩
  refine ⟨a,_,u',_,rfl,h1,h2,yC,?_,⟨?_,?_⟩,k6 hA hs hb qZ⟩
  ·rw [k5]
   simp only [zAt]
   rw [zHL (by omega) (by omega) (by omega),h5,show a.off+c-a.off=c by omega,k1]
  ·rw [k5]
   have:=congrArg List.length k1
   simp at this jB
   omega
  ·rw [k2,k4,ue]
theorem zSp {np:PV} {nv:Value} {Li:List Nat} (h:Rep w Φ A np nv Li) {xs:List PV} (hx:zBg np=some xs) {i:Nat} {x:PV} (hi:xs[i]? = some x) :
  ∃ M ux Lx ad,Li=ad.block::M∧(∀ c,zBa nv np i c=some (zAt ad c))∧Rep w Φ (zGF A np) x ux Lx∧(∀ b∈Lx,b∈M)∧zCi ux=x.isAgg∧∀ k u,ux.cells.toList[k]? = some u→kid w nv np i k=some u:=by
 cases np<;>simp only [zBg] at hx<;>try cases hx
 case own sz =>
  obtain ⟨h1,h2,h3⟩ | ⟨a,n,r,us,L',rfl,h1,h2,h3,h4,h5,h6,⟨h7,uI⟩,h8,h9⟩:=h
  ·subst h1;simp at hi
  ·obtain ⟨ux,La,Lx,Lb,hu,rfl,hr,_,_⟩:=h9.split hi
   have hg:zCi ux=x.isAgg:=by
    have h1:(us.map zCi)[i]? = some (zCi ux):=by simp [hu]
    have h2:(xs.map PV.isAgg)[i]? = some x.isAgg:=by simp [hi]
    rw [uI] at h1;rw [h1] at h2;simpa using h2
   subst h1
   refine ⟨_,ux,Lx,zAt a (i*sz),rfl,fun c=>by simp [zBa,zAt,Nat.add_assoc],hr,fun b hb=>by simp [hb],hg,fun k u hk=>?_⟩
   have hf:=zDA h7 hu hk
   rw [← h8] at hf
   have:=zCR hf
   simp only [kid,zAt]
   rw [zCn h4.any];exact this
 case box q0 =>
  obtain ⟨a,r,u0,L',rfl,h1,h2,h4,h5,⟨h6,ue⟩,h7⟩:=h
  have jg:i=0:=by
   cases i with
   | zero=>rfl
   | succ i=>simp at hi
  subst jg;simp at hi;subst hi
  subst h1
  refine ⟨L',u0,L',a,rfl,fun c=>rfl,h7,fun b hb=>hb,ue,fun k u hk=>?_⟩
  have:=zCR (c:=r) (o:=a.off) (n:=q0.cells.length) (k:=k) (u:=u) (by rw [h5];exact hk)
  simp only [kid,zAt]
  rw [zCn h4.any];exact this
end
mutual
theorem zEQ {f g:PV→PV}:∀ p:PV,(p.mapW f).mapW g=p.mapW fun a=>(f a).mapW g
 | .agg cs=>by rw [PV.mapW,PV.mapW,PV.mapW,zEP]
 | .tup cs=>by rw [PV.mapW,PV.mapW,PV.mapW,zEP]
 | .func h a b=>by rw [PV.mapW,PV.mapW,PV.mapW,zEP,zEP]
 | .ref q=>by rw [PV.mapW,PV.mapW,PV.mapW,zEQ]
 | .box q=>by rw [PV.mapW,PV.mapW,PV.mapW,zEQ]
 | .lock q=>by rw [PV.mapW,PV.mapW,PV.mapW,zEQ]
 | .addr .. => rfl
 | .bor .. => rfl
 | .bsl .. => rfl
 | .bmap .. => rfl
 | .yld .. => rfl
 | .log .. => rfl
 | .bad=>rfl
 | .und=>rfl
 | .int .. => rfl
 | .bool .. => rfl
 | .nilp=>rfl
 | .nilf=>rfl
 | .nilm=>rfl
 | .nn=>rfl
 | .nils _=>rfl
 | .sl _=>rfl
 | .own .. => rfl
 | .map _=>rfl
 | .omap _=>rfl
theorem zEP {f g:PV→PV}:∀ ps:List PV,zCt g (zCt f ps)=zCt (fun a=>(f a).mapW g) ps
 | []=>rfl
 | p::ps=>by rw [zCt,zCt,zCt,zEQ,zEP]
end
mutual
theorem zDy {f g:PV→PV} (h:∀ a,a.isWay=true→f a=g a):∀ p:PV,p.mapW f=p.mapW g
 | .agg cs=>by rw [PV.mapW,PV.mapW,zEc h]
 | .tup cs=>by rw [PV.mapW,PV.mapW,zEc h]
 | .func k a b=>by rw [PV.mapW,PV.mapW,zEc h,zEc h b]
 | .ref q=>by rw [PV.mapW,PV.mapW,zDy h]
 | .box q=>by rw [PV.mapW,PV.mapW,zDy h]
 | .lock q=>by rw [PV.mapW,PV.mapW,zDy h]
 | .addr .. => h _ rfl
 | .bor .. => h _ rfl
 | .bsl .. => h _ rfl
 | .bmap .. => h _ rfl
 | .yld .. => rfl
 | .log .. => h _ rfl
 | .bad=>rfl
 | .und=>rfl
 | .int .. => rfl
 | .bool .. => rfl
 | .nilp=>rfl
 | .nilf=>rfl
 | .nilm=>rfl
 | .nn=>rfl
 | .nils _=>rfl
 | .sl _=>rfl
 | .own .. => rfl
 | .map _=>rfl
 | .omap _=>rfl
theorem zEc {f g:PV→PV} (h:∀ a,a.isWay=true→f a=g a):∀ ps:List PV,zCt f ps=zCt g ps
 | []=>rfl
 | p::ps=>by rw [zCt,zCt,zDy h,zEc h]
end
def zDL (r:Nat) (pre:zAU) (i:Nat):Nat→List PV→PV→PV
 | _,[],a=>a
 | c,q::qs,a=>bif q.heavy then (if (lose r (pre++[(i,c)]) a).isWay=true then zDL r pre i (c+1) qs a else lose r (pre++[(i,c)]) a) else zDL r pre i (c+1) qs a
theorem zKS (r:Nat) (pre:zAU) (i:Nat):∀ (qs:List PV) (c:Nat) (p:PV),zDL r pre i c qs p=p∨(p.isWay=true∧zDL r pre i c qs p = .bad)
 | [],c,p => .inl rfl
 | q :: qs,c,p=>by
  simp only [zDL]
  cases hq:q.heavy with
  | false=>exact zKS r pre i qs (c+1) p
  | true =>
   simp only [cond_true]
   split
   ·exact zKS r pre i qs (c+1) p
   ·exact zGw r (pre++[(i,c)]) p
theorem zGG {o:zAF} {r:Nat} {pre:zAU} {i:Nat} {k:PM} {e':Env}:∀ (qs:List PV) (c:Nat) {e:Env},(zDS r pre i c qs k).run o e=some e' →
  ∃ e1,k.run o e1=some e'∧∀ s,e1.get s=(e.get s).mapW (zDL r pre i c qs)
 | [],c,e,h=>⟨e,h,fun s=>by rw [show zDL r pre i c []=fun x=>x from rfl,zBk]⟩
 | q :: qs,c,e,h=>by
  simp only [zDS] at h
  cases hq:q.heavy with
  | false =>
   rw [hq] at h
   obtain ⟨e1,h1,h2⟩:=zGG qs (c+1) h
   refine ⟨e1,h1,fun s=>?_⟩
   rw [h2 s];exact zDy (fun a _=>by simp [zDL,hq]) _
  | true =>
   rw [hq] at h;simp only [cond_true,PM.run] at h
   obtain ⟨e1,h1,h2⟩:=zGG qs (c+1) h
   refine ⟨e1,h1,fun s=>?_⟩
   rw [h2 s,Env.get_kill,zEQ]
   refine zDy (fun a ha=>?_) _
   simp only [zDL,hq,cond_true]
   rcases zGw r (pre++[(i,c)]) a with h3 | ⟨_,h3⟩
   ·rw [h3,if_pos ha,zFZ ha]
   ·rw [h3];rfl
theorem zI1 {r:Nat} {pre:zAU} {i:Nat}:∀ (qs:List PV) (c j:Nat) {q:PV},qs[j]? = some q→q.heavy=true→∀ a,a.isWay=true→∀ rest,zA9 a=(r,pre++(i,c+j)::rest)→(∀ h,a ≠ .yld h)→(∀ xs k,a ≠ .log xs k)→zDL r pre i c qs a≠a
 | [],_,_,_,h,_,_,_,_,_,_,_=>by simp at h
 | q0::qs,c,0,q,h,hh,a,ha,rest,hr,hy,hl=>by
  simp at h;subst h
  simp only [zDL,hh,cond_true]
  have hlose:lose r (pre++[(i,c)]) a = .bad:=by
   have hp:(pre++[(i,c)]).isPrefixOf (pre++(i,c)::rest)=true:=by
    rw [List.isPrefixOf_iff_prefix];exact ⟨rest,by simp⟩
   cases a<;>first | (cases ha;done) | (exact absurd rfl (hy _)) | (exact absurd rfl (hl _ _)) | skip
   all_goals
    simp only [zA9,Nat.add_zero,Prod.mk.injEq] at hr
    obtain ⟨rfl,rfl⟩:=hr
    simp [lose,hp]
  rw [hlose];simp only [PV.isWay,Bool.false_eq_true,if_false]
  intro he;rw [← he] at ha;cases ha
 | q0::qs,c,j+1,q,h,hh,a,ha,rest,hr,hy,hl=>by
  have ih:=zI1 (r:=r) (pre:=pre) (i:=i) qs (c+1) j (by simpa using h) hh a ha rest (by rw [hr];congr 4;omega) hy hl
  simp only [zDL]
  cases hq:q0.heavy with
  | false=>exact ih
  | true =>
   simp only [cond_true]
   rcases zGw r (pre++[(i,c)]) a with h3 | ⟨_,h3⟩
   ·rw [h3,if_pos ha];exact ih
   ·rw [h3];simp only [PV.isWay,Bool.false_eq_true,if_false]
    intro he;rw [← he] at ha;cases ha
theorem zJD {r:Nat} {pre:zAU} {i:Nat}:∀ (qs:List PV) (c:Nat) {a:PV},(∀ x∈a.ways,zAL r pre x.1 x.2=false∨x.2.length≤pre.length)→zDL r pre i c qs a=a
 | [],_,_,_=>rfl
 | q :: qs,c,a,h=>by
  have ih:=zJD (r:=r) (pre:=pre) (i:=i) qs (c+1) h
  have hl : lose r (pre++[(i,c)]) a=a:=by
   have key:∀ r' p,(zAL r pre r' p=false∨p.length≤pre.length)→(Nat.beq r' r&&(pre++[(i,c)]).isPrefixOf p)=false:=by
    intro r' p hp
    cases hb:(Nat.beq r' r&&(pre++[(i,c)]).isPrefixOf p) with
    | false=>rfl
    | true =>
     simp only [Bool.and_eq_true,List.isPrefixOf_iff_prefix] at hb
     obtain ⟨h1,rest,h2⟩:=hb
     rcases hp with hp | hp
     ·have:zAL r pre r' p=true:=zEi.2 ⟨Nat.eq_of_beq_eq_true h1,(i,c)::rest,by rw [← h2];simp⟩
      rw [this] at hp;cases hp
     ·rw [← h2] at hp;simp at hp;omega
   cases a<;>first | rfl | skip
   all_goals
    simp only [lose]
    rw [key _ _ (h (_,_) (List.mem_singleton.2 rfl))];rfl
  simp only [zDL]
  cases hq:q.heavy with
  | false=>exact ih
  | true=>simp only [cond_true,hl];split<;>first | exact ih | rfl
theorem zMK {f:PV→Option PV}:∀ {pre:zAU} {p p':PV},zAu f p pre=some p'→∃ q q',zAz p pre=some q∧f q=some q'∧zAu (fun _=>some q') p pre=some p'
 | [],p,p',h=>⟨p,p',rfl,h,rfl⟩
 | (i, c)::rest,p,p',h=>by
  rw [zBt] at h
  cases hc:Eng.child p i c with
  | none=>rw [hc] at h;cases h
  | some q =>
   rw [hc] at h;simp only [Option.bind_some] at h
   cases hm:zAu f q rest with
   | none=>rw [hm] at h;cases h
   | some q1 =>
    rw [hm] at h;simp only [Option.bind_some] at h
    obtain ⟨x,x',h1,h2,h3⟩:=zMK hm
    exact ⟨x,x',by rw [zCa,hc];exact h1,h2,by rw [zBt,hc];simp only [Option.bind_some];rw [h3];exact h⟩
theorem zKd:∀ {pre:zAU} {p q:PV},zAz p pre=some q→q.unlock=q→p.unlock=p
 | [],p,q,h,hq=>by simp only [zAz,Option.some.injEq] at h;subst h;exact hq
 | (i,c)::rest,p,q,h,_=>by
  rw [zCa] at h
  cases p<;>first | rfl | (simp [Eng.child,zA0] at h;done)
theorem zI4 {r:Nat} {pre:zAU} {i:Nat} {p:PV} (hh:p.heavy=false→∀ q∈p.cells,q.heavy=false) (h:p.heavy=false) {c:Nat} (a:PV):zDL r pre i c p.cells a=a:=by
 have key:∀ (qs:List PV) (c:Nat),(∀ q∈qs,q.heavy=false)→zDL r pre i c qs a=a:=by
  intro qs
  induction qs with
  | nil=>intro c _;rfl
  | cons q qs ih=>intro c h;simp only [zDL,h q (by simp),cond_false];exact ih (c+1) fun x hx=>h x (by simp [hx])
 exact key _ _ (hh h)
theorem zPv {p:PV} {x:Nat×zAU} (h:x∈zBA p.cells):x∈p.ways:=by
 cases p<;>simp only [PV.cells,zBA,List.append_nil] at h<;>exact h
theorem zK3 (p:PV) (i c:Nat) (rest:zAU):zDB p ((i,c)::rest)=match p with
  | .own .. => true
  | p=>match Eng.child p i c with | some q=>zDB q rest | none=>false:=by
 cases p<;>simp only [zDB,Eng.child,zA0,Option.bind_none,Option.bind_some]
 ·cases i with
  | zero=>simp only [List.getElem?_cons_zero,Option.bind_some];split<;>simp_all
  | succ i=>simp
 ·cases i with
  | zero=>simp only [List.getElem?_cons_zero,Option.bind_some];split<;>simp_all
  | succ i=>simp
theorem zM9:∀ {pre:zAU} {p q:PV} {A:Al},zDB p pre=false→zAz p pre=some q→∀ a v,A a v→zGF (zIp A p pre) q a v
 | [],p,q,A,hc,hq,a,v,h=>by
  simp only [zAz,Option.some.injEq] at hq;subst hq
  simp only [zIp]
  cases p<;>first | exact h | (simp [zDB] at hc;done)
 | (i,c)::rest,p,q,A,hc,hq,a,v,h=>by
  rw [zCa] at hq
  rw [zK3] at hc
  cases yd:Eng.child p i c with
  | none=>rw [yd] at hq;cases hq
  | some q1 =>
   rw [yd] at hq;simp only [Option.bind_some] at hq
   simp only [zIp,yd]
   cases p<;>simp only [yd] at hc<;>first | (cases hc;done) | exact zM9 hc hq a v h
section
variable {P:Program} {w0 w:World} {U Φ0 Φ:Nat→Prop} {nt:Nat} {hv:Hid} {a:Act} {e e':Env} {rv:Nat→Value} {E:Nat→PV} {L:Nat→List Nat} {o:zAF}
theorem zKJ {p:PV} (h:p.heavy=false):∀ q∈p.cells,q.heavy=false:=by
 intro q hq
 cases p<;>simp only [PV.cells,List.mem_singleton] at hq<;>try (subst hq;exact h)
 obtain ⟨i,hi⟩:=List.getElem?_of_mem hq
 exact zEp h hi
theorem zGl {x:PV} {c:Nat} {qs:List PV} (hq:∀ q∈qs,q.oneCell=true) (hI:qs.length≠0) (yN:c+qs.length≤x.cells.length):(zAx x c qs).cells=x.cells.take c++qs++x.cells.drop (c+qs.length):=by
 cases hx:x.isAgg with
 | true=>cases x<;>simp [PV.isAgg] at hx;rfl
 | false =>
  have j7:x.cells=[x]:=by cases x<;>first | rfl | simp [PV.isAgg] at hx
  rw [j7] at yN ⊢
  match qs,hq,hI with
  | [],_,hI=>exact absurd rfl hI
  | [q],hq,_ =>
   have v6:c=0:=by simp at yN;exact yN
   subst v6
   have he:zAx x 0 [q]=q:=by cases x<;>first | rfl | simp [PV.isAgg] at hx
   rw [he,(zBp (hq q (by simp))).1];simp
  | _::_::_,_,_=>simp only [List.length_cons,List.length_nil] at yN;omega
theorem zJx {b o k:Nat} {row:Array Value} {vs:List Value} (yC:zEl w b row) (yB:o+vs.length≤row.size) (hk:k<o∨o+vs.length≤k):(w.setRow b (zBi row o vs)).cell? ⟨b,k,none⟩=w.cell? ⟨b,k,none⟩:=by
 obtain ⟨el,y5⟩:=yC
 have jG:zJq (w.setRow b (zBi row o vs)) b (zBi row o vs):=⟨el,_,setRow_heap w _ _ _ el _ y5⟩
 rw [zCn jG,zCn ⟨el,_,y5⟩]
 have:(zBi row o vs)[k]? = (row.toList.take o++vs++row.toList.drop (o+vs.length))[k]?:=by simp [zBi]
 rw [this,zC0 (by simpa using yB)]
 rcases hk with hk | hk
 ·rw [if_pos hk];simp
 ·rw [if_neg (by omega),if_neg (by omega)];simp
theorem zLX {A:Al} {np q':PV} {nv:Value} {Li:List Nat} (h:Rep w Φ A np nv Li) (yT:Li.Nodup) {xs:List PV} (hx:zBg np=some xs) {i c:Nat} {x:PV} (hi:xs[i]? = some x) {qs:List PV} {vs:List Value}
  (hq:∀ q∈qs,q.oneCell=true) (hZ:vs.length=qs.length) (hI:qs.length≠0) (hc:c+qs.length≤x.cells.length) (hw:zAC np (xs.set i (zAx x c qs))=some q') {ad:Addr} {row:Array Value}
  (jH:zBa nv np i c=some ad) (yC:zEl w ad.block row) (yB:ad.off+vs.length≤row.size) :
  ∀ (rest:zAU) (nv2:Value) (np2:PV),zAR (w.setRow ad.block (zBi row ad.off vs)) nv q' rest=some (nv2,np2)→np2.heavy0=true →
   (∃ j q rest',qs[j]? = some q∧q.heavy=true∧rest=(i,c+j)::rest')∨∃ np0,zAR w nv np rest=some (nv2,np0)∧zCl np0 np2:=by
 intro rest nv2 np2 hf hh
 have uW:zCl np q'∧zA0 q'=some (xs.set i (zAx x c qs)):=by
  cases np<;>simp only [zBg] at hx<;>try cases hx
  ·simp only [zAC,Option.some.injEq] at hw;subst hw;exact ⟨rfl,rfl⟩
  ·have jg:i=0:=by have:=(List.getElem?_eq_some_iff.1 hi).1;simpa using this
   subst jg
   simp only [List.set_cons_zero,zAC,Option.some.injEq] at hw ⊢;subst hw;exact ⟨trivial,rfl⟩
 cases rest with
 | nil =>
  simp only [zAR,Option.some.injEq,Prod.mk.injEq] at hf
  obtain ⟨rfl,rfl⟩:=hf
  exact .inr ⟨np,rfl,uW.1⟩
 | cons y rest =>
  obtain ⟨i2,c2⟩:=y
  rw [zA6] at hf
  cases yd:Eng.child q' i2 c2 with
  | none=>rw [yd] at hf;cases hf
  | some q2 =>
   rw [yd] at hf;simp only [Option.bind_some] at hf
   cases hk:kid (w.setRow ad.block (zBi row ad.off vs)) nv q' i2 c2 with
   | none=>rw [hk] at hf;cases hf
   | some u2 =>
    rw [hk] at hf;simp only [Option.bind_some] at hf
    have yP:i<xs.length:=(List.getElem?_eq_some_iff.1 hi).1
    simp only [Eng.child,uW.2,Option.bind_some] at yd
    by_cases hin:i2=i∧c≤c2∧c2<c+qs.length
    ·obtain ⟨rfl,h1,h2⟩:=hin
     rw [List.getElem?_set_self yP] at yd
     simp only [Option.bind_some] at yd
     rw [zGl hq hI hc,zC0 hc,if_neg (by omega),if_pos h2] at yd
     cases qb:q2.heavy with
     | true=>exact .inl ⟨c2-c,q2,rest,yd,qb,by rw [show c+(c2-c)=c2 by omega]⟩
     | false =>
      have:=zEr qb hf
      rw [zFs hh] at this;cases this
    ·
     have hold:∃ x2,xs[i2]? = some x2∧x2.cells[c2]? = some q2:=by
      by_cases kW:i2=i
      ·subst kW
       rw [List.getElem?_set_self yP] at yd
       simp only [Option.bind_some] at yd
       rw [zGl hq hI hc,zC0 hc] at yd
       refine ⟨x,hi,?_⟩
       by_cases h1:c2<c
       ·rw [if_pos h1] at yd;exact yd
       ·rw [if_neg h1,if_neg (fun h2=>hin ⟨rfl,by omega,h2⟩)] at yd;exact yd
      ·rw [List.getElem?_set_ne (Ne.symm kW)] at yd
       cases jY:xs[i2]? with
       | none=>rw [jY] at yd;cases yd
       | some x2=>rw [jY] at yd;exact ⟨x2,rfl,yd⟩
     obtain ⟨x2,jY,kY⟩:=hold
     obtain ⟨M,ux,Lx,ad2,g1,g2,g3,g4,g5,g6⟩:=zSp h hx jY
     obtain ⟨u,La,Lu,Lb,hu,hLx,kh,_,_⟩:=g3.cell kY g5
     have ja:=g6 c2 u hu
     have hblk:ad2.block=ad.block:=by
      have:=g2
      cases np<;>simp only [zBg] at hx<;>try cases hx
      ·cases nv<;>try (simp [zBa] at jH;done)
       rename_i sa _ _
       cases sa with
       | none=>cases jH
       | some sa =>
        simp only [zBa,Option.some.injEq] at jH
        have:=this 0
        simp only [zBa,Option.some.injEq] at this
        rw [← jH]
        exact (congrArg Addr.block this).symm
      ·cases nv<;>try (cases i<;>simp [zBa] at jH;done)
       rename_i sa
       cases sa with
       | none=>cases i<;>cases jH
       | some sa =>
        have jg:i=0:=by have:=(List.getElem?_eq_some_iff.1 hi).1;simpa using this
        have gI:i2=0:=by have:=(List.getElem?_eq_some_iff.1 jY).1;simpa using this
        subst jg;subst gI
        simp only [zBa,Option.some.injEq] at jH
        have:=this 0
        simp only [zBa,Option.some.injEq] at this
        rw [← jH]
        exact (congrArg Addr.block this).symm
     have yf:kid (w.setRow ad.block (zBi row ad.off vs)) nv q' i2 c2=kid w nv np i2 c2:=by
      have hc2l:c2<x2.cells.length:=(List.getElem?_eq_some_iff.1 kY).1
      cases np<;>simp only [zBg] at hx<;>try cases hx
      case own sz =>
       simp only [zAC,Option.some.injEq] at hw;subst hw
       cases nv<;>try (simp [zBa] at jH;done)
       rename_i sa _ _
       cases sa with
       | none=>cases jH
       | some sa =>
        simp only [zBa,Option.some.injEq] at jH;subst jH
        simp only [kid]
        refine zJx yC yB ?_
        obtain ⟨gJ,_⟩ | ⟨_,_,_,_,_,_,_,_,_,_,_,yD,_⟩:=h
        ·subst gJ;simp at hi
        ·have e1:=yD x (List.mem_of_getElem? hi)
         have e2:=yD x2 (List.mem_of_getElem? jY)
         simp only [zAt]
         rw [hZ]
         by_cases kW:i2=i
         ·subst kW
          have:¬ (c≤c2∧c2<c+qs.length):=fun h=>hin ⟨rfl,h⟩
          omega
         ·rcases Nat.lt_or_gt_of_ne kW with yK | hgt
          ·have:=Nat.mul_le_mul_right x.cells.length (Nat.succ_le_of_lt yK)
           rw [Nat.succ_mul,e1] at this;left;omega
          ·have:=Nat.mul_le_mul_right x.cells.length (Nat.succ_le_of_lt hgt)
           rw [Nat.succ_mul,e1] at this;right;omega
      case box q0 =>
       have jg:i=0:=by have:=(List.getElem?_eq_some_iff.1 hi).1;simpa using this
       have gI:i2=0:=by have:=(List.getElem?_eq_some_iff.1 jY).1;simpa using this
       subst jg;subst gI
       simp only [List.set_cons_zero,zAC,Option.some.injEq] at hw;subst hw
       cases nv<;>try (simp [zBa] at jH;done)
       rename_i sa
       cases sa with
       | none=>cases jH
       | some sa =>
        simp only [zBa,Option.some.injEq] at jH;subst jH
        simp only [kid]
        refine zJx yC yB ?_
        simp only [zAt]
        rw [hZ]
        have:¬ (c≤c2∧c2<c+qs.length):=fun h=>hin ⟨rfl,h⟩
        omega
     rw [yf,ja] at hk;cases hk
     have wt:=zEY (w':=w.setRow ad.block (zBi row ad.off vs)) (pre:=rest) kh fun t ht=>setRow_other w _ t _ fun hc=>by
      rw [g1,hblk] at yT
      exact (List.nodup_cons.1 yT).1 (g4 _ (by rw [hLx,← hc];simp [ht]))
     rw [wt] at hf
     refine .inr ⟨np2,?_,zCl.refl hh⟩
     rw [zA6]
     have:Eng.child np i2 c2=some q2:=by simp only [Eng.child,zG9 hx,Option.bind_some,jY,kY]
     rw [this];simp only [Option.bind_some];rw [ja];exact hf
theorem St.write (S:St w0 U Φ0 nt hv a w e Φ rv E L) {g r:Nat} {pre:zAU} {i c:Nat} {sh:Option Nat} (hg:zAb≤g) {va:Value} (ha:Rep w Φ (zA8 w rv E) (.addr r pre i c sh) va [])
  (jV:(E g).heavy=false∨∀ x∈(E g).ways,zAL r pre x.1 x.2=false∨x.2.length≤pre.length) (yM:∀ q∈(E g).cells,q.oneCell=true) (hI:(E g).cells.length≠0)
  (hva:zCi (rv g)=(E g).isAgg) {k:PM} (h:(zDS r pre i c (E g).cells (.wcells r pre i c (E g).cells k)).run o e=some e') :
  ∃ b row e1 E1 L1,va = .pointer (some b)∧b.spot=none∧zEl w b.block row∧b.off+(rv g).cells.size≤row.size∧(∀ v∈(rv g).cells.toList,v.oneCell'=true)∧k.run o e1=some e' ∧
   St w0 U Φ0 nt hv a (w.setRow b.block (zBi row b.off (rv g).cells.toList)) e1 Φ rv E1 L1∧E1 g = .bad∧(∀ s,zAb≤s→s≠g→E s = .bad→E1 s = .bad)∧(∀ s,zAb≤s→s≠g→E1 s=(E s).mapW (zDL r pre i c (E g).cells))∧b.block∈L r:=by
 obtain ⟨e1,h1,yW⟩:=zGG _ _ h
 have hf:=zKS r pre i (E g).cells c
 have km:=ha.2
 obtain ⟨hr,b,rfl,y4,hn⟩:=ha.2
 simp only [PM.run] at h1
 cases wy:zBF (e1.get r) pre i c (E g).cells with
 | none=>rw [wy] at h1;cases h1
 | some root =>
  rw [wy] at h1;simp only at h1
  have vr:e1.get r=(E r).mapW (zDL r pre i c (E g).cells):=by rw [yW r,S.env r hr]
  rw [vr] at wy
  simp only [zBF] at wy
  cases yO:(zDB ((E r).mapW (zDL r pre i c (E g).cells)) pre && !(zBA (E g).cells).isEmpty) with
  | true=>rw [yO] at wy;cases wy
  | false =>
   rw [yO] at wy;simp only [cond_false] at wy
   obtain ⟨np,q',hnp,kB,yx⟩:=zMK wy
   cases hx:zBg np with
   | none=>rw [hx] at kB;cases kB
   | some xs =>
    rw [hx] at kB;simp only at kB
    cases hi:xs[i]? with
    | none=>rw [hi] at kB;cases kB
    | some x =>
     rw [hi] at kB;simp only at kB
     cases yN:Nat.ble (c+(E g).cells.length) x.cells.length with
     | false=>rw [yN] at kB;cases kB
     | true =>
      rw [yN] at kB;simp only [cond_true] at kB
      have yN:=Nat.le_of_ble_eq_true yN
      have jU:((E r).mapW (zDL r pre i c (E g).cells)).unlock=(E r).mapW (zDL r pre i c (E g).cells):=zKd hnp (by cases np<;>first | rfl | cases hx)
      obtain ⟨nv,Li,uS,hX,gK,uo,vt⟩:=S.conf.mod hr hf jU hnp
      have jq:=(S.conf.rep g).cellsAll hva
      have js:(rv g).cells.toList.length=(E g).cells.length:=jq.length
      have qc:∀ v∈(rv g).cells.toList,v.oneCell'=true:=by
       intro v hv
       obtain ⟨j,hj⟩:=List.getElem?_of_mem hv
       have jQ:j<(E g).cells.length:=by rw [← js];exact (List.getElem?_eq_some_iff.1 hj).1
       obtain ⟨v',La,Li',Lb,yE,_,j6,_⟩:=jq.split (i:=j) (List.getElem?_eq_getElem jQ)
       rw [hj] at yE;cases yE
       exact zCb (fun a v hw h=>zC8 hw h) j6 (yM _ (List.getElem_mem jQ))
      have gL:=zKJ (p:=E g)
      have qA:q'.isAgg=false∧q'.unlock=q'∧q'.isTup=false∧np.isAgg=false∧zCl np q':=by
       cases np<;>simp only [zBg] at hx<;>try cases hx
       ·simp only [zAC,Option.some.injEq] at kB;subst kB;exact ⟨rfl,rfl,rfl,rfl,rfl⟩
       ·simp only [zAC] at kB
        split at kB<;>first | (cases kB;done) | skip
        ·simp_all
        ·cases kB;exact ⟨rfl,rfl,rfl,rfl,trivial⟩
        ·simp_all
      obtain ⟨ad,row,La,Lm,Lb,k1,k2,k3,k4,kj,jt⟩:=zTL hX hx hi yM qc js hI yN kB
      have hfo':∃ np0,zAR w (rv r) (E r).unlock pre=some (nv,np0)∧zCl np0 np:=by
       rw [← jU,zDv (zDr hf)] at uS
       exact zCX (zDr hf) uS (by cases np<;>first | rfl | cases hx)
      obtain ⟨np0,hfo0,uW⟩:=hfo'
      have vJ:=hn nv np0 hfo0 ad (by rw [zEm uW];exact k1)
      subst vJ
      have jL:b.block∈L r:=uo _ (by rw [kj];simp)
      have gM:r≠g:=by omega
      have yp:∀ t,t≠b.block→(w.setRow b.block (zBi row b.off (rv g).cells.toList)).heap[t]? = w.heap[t]?:=fun t ht=>setRow_other w _ t _ ht
      have jG:zEl (w.setRow b.block (zBi row b.off (rv g).cells.toList)) b.block (zBi row b.off (rv g).cells.toList):=by
       obtain ⟨el,y5⟩:=k3;exact ⟨el,setRow_heap w _ _ _ el _ y5⟩
      have hnotL:∀ t,t≠r→b.block∉L t:=fun t ht hm=>S.conf.disj t r ht _ hm jL
      have hΦ:zDc w (w.setRow b.block (zBi row b.off (rv g).cells.toList)) Φ Φ:=fun t ht=>⟨ht,yp t fun hc=>(S.conf.own r _ jL).2.1 (hc▸ht)⟩
      have vu:=gK
      rw [kj] at vu
      have gN:∀ t∈La++Lb,t≠b.block:=by
       intro t ht hc
       subst hc
       refine (List.nodup_cons.1 vu).1 ?_
       simp at ht ⊢;rcases ht with h | h<;>simp [h]
      have hstay:∀ a v,a.isWay=true→(∀ x∈a.ways,x∈(E g).ways)→zA8 w rv E a v→Eng.stays (zDL r pre i c (E g).cells) (zA8 w rv E) a v:=by
       intro a v hw hx ha
       refine ⟨ha,?_⟩
       rcases jV with jV | jV
       ·exact zI4 gL jV a
       ·exact zJD _ _ fun x gH=>jV x (hx x gH)
      have hcont:∀ A:Al,(∀ a u,a.isWay=true→Eng.stays (zDL r pre i c (E g).cells) (zA8 w rv E) a u→A a u) →
        zA2 (w.setRow b.block (zBi row b.off (rv g).cells.toList)) Φ (zGF (zIp A ((E r).mapW (zDL r pre i c (E g).cells)) pre) np) (E g).cells (rv g).cells.toList (L g):=by
       intro A hA
       have h1:zA2 (w.setRow b.block (zBi row b.off (rv g).cells.toList)) Φ (zA8 w rv E) (E g).cells (rv g).cells.toList (L g) :=
        jq.mono hΦ (fun _ _ _ h=>h) fun t ht=>yp t fun hc=>hnotL g (Ne.symm gM) (hc▸ht)
       refine h1.ways _ _ _ fun a v hw hx ha=>?_
       simp only [Bool.and_eq_false_iff] at yO
       rcases yO with yO | yO
       ·exact zM9 yO hnp a v (hA a v hw (hstay a v hw (fun y hy=>zPv (hx y hy)) ha))
       ·have h0:zBA (E g).cells=[]:=by simpa using yO
        rw [h0] at hx
        have h1:=zI0 hw ha
        cases uk:a.ways with
        | nil=>exact absurd uk h1
        | cons z zs=>have:=hx z (by rw [uk];simp);cases this
      obtain ⟨kk1,kk2⟩:=zBR qA.2.1 qA.2.2.1 yx
      obtain ⟨L1,hL1,hconf⟩:=vt (fun s=>s==g) (w.setRow b.block (zBi row b.off (rv g).cells.toList)) q' root (b.block::(La++L g++Lb)) (fun s hs=>by have:=eq_of_beq hs;omega)
       (fun _=>by rw [qA.1,qA.2.2.2.1]) yx kk1
       (fun A hA=>jt (zMF hA) hΦ (fun t ht=>yp t (gN t ht)) jG (hcont A hA))
       (by
        have ug:∀ t∈L g,t∉L r:=fun t ht=>S.conf.disj g r (Ne.symm gM) t ht
        have hin:∀ t,t=b.block∨t∈La++Lb→t∈L r:=by
         intro t ht
         rcases ht with rfl | ht
         ·exact jL
         ·exact uo t (by rw [kj];simp at ht ⊢;rcases ht with h | h<;>simp [h])
        have um:=(List.nodup_cons.1 vu).2
        simp only [List.nodup_append] at um
        refine List.nodup_cons.2 ⟨fun hm=>?_,?_⟩
        ·simp only [List.mem_append] at hm
         rcases hm with (hm | hm) | hm
         ·exact gN _ (by simp [hm]) rfl
         ·exact ug _ hm jL
         ·exact gN _ (by simp [hm]) rfl
        ·simp only [List.nodup_append]
         refine ⟨⟨um.1.1,S.conf.nodup g,fun x hx y hy e=>ug y hy (e▸hin x (.inr (by simp [hx])))⟩,um.2.1,fun x hx y hy e=>?_⟩
         simp only [List.mem_append] at hx
         rcases hx with hx | hx
         ·exact um.2.2 x (by simp [hx]) y hy e
         ·exact ug x hx (e▸hin y (.inr (by simp [hy]))))
       (fun t ht=>by
        simp only [List.mem_cons,List.mem_append] at ht
        rcases ht with rfl | (ht | ht) | ht
        ·exact .inl (by rw [kj];simp)
        ·exact .inl (by rw [kj];simp [ht])
        ·exact .inr (.inl ⟨g,ht,by simp⟩)
        ·exact .inl (by rw [kj];simp [ht]))
       (by rw [setRow_size];exact Nat.le_refl _)
       (fun t _ ht _=>yp t fun hc=>ht (by rw [kj,hc];simp))
       (fun rest nv2 np2 jp qb=>by
        rcases zLX hX gK hx hi yM js hI yN kB k1 k3 k4 rest nv2 np2 jp qb with ⟨j,q,rest',h1,h2,h3⟩ | h3
        ·refine .inl fun a ha uq=>?_
         subst h3
         refine zI1 _ _ _ h1 h2 a ha rest' uq (fun y hy=>?_) (fun ys k hy=>?_)
         ·subst hy;simp only [zA9,Prod.mk.injEq] at uq;have:=uq.2;simp at this
         ·subst hy;simp only [zA9,Prod.mk.injEq] at uq;have:=uq.2;simp at this
        ·exact .inr h3)
       ⟨rfl,rfl,rfl⟩
      refine ⟨b,row,e1.set r root,_,L1,rfl,y4,k3,by rw [show (rv g).cells.size=(rv g).cells.toList.length by simp];exact k4,qc,h1,S.turn hconf (fun s hs=>?_) (fun _ _=>rfl) (fun d ps hd hp=>?_),?_,?_⟩
      ·rw [Env.get_set]
       by_cases yZ:s=r
       ·subst yZ;simp
       ·have:(s==g)=false:=by simp;omega
        simp only [yZ,if_false,this,Bool.false_eq_true]
        rw [yW s,S.env s hs]
      ·by_cases ji:d=r
       ·simp only [ji,if_true] at hp;rw [hp] at kk2;cases kk2
       ·have:(d==g)=false:=by simp only [zAb] at hg;simp;omega
        simp only [ji,if_false,this,Bool.false_eq_true] at hp
        refine zD3 (fun p hp=>?_) hp
        rcases hf p with h | ⟨_,h⟩
        ·rw [h];cases p<;>first | rfl | cases hp
        ·rw [h];rfl
      ·simp [Ne.symm gM]
      ·refine ⟨fun s hs yg hb=>?_,fun s hs yg=>?_,jL⟩
       ·have:s≠r:=by omega
        simp [this,yg,hb,PV.mapW]
       ·have:s≠r:=by omega
        simp [this,yg]
end
end Go.Eng
namespace Go.Eng
open Go
section
variable {P:Program} {w0 w:World} {U Φ0 Φ:Nat→Prop} {nt:Nat} {hv:Hid} {a:Act} {e e':Env} {rv:Nat→Value} {E:Nat→PV} {L:Nat→List Nat} {o:zAF}
theorem zBY {r:Nat} {pre:zAU} {q:PV} {k:PM} (h:(PM.wnode r pre q k).run o e=some e'):∃ root,(e.get r).isLock=false∧zAu (fun _=>some q) (e.get r) pre=some root∧k.run o (e.set r root)=some e':=by
 simp only [PM.run] at h
 cases hl:(e.get r).isLock with
 | true=>rw [hl] at h;cases h
 | false =>
  rw [hl] at h;simp only [cond_false] at h
  cases hm:zAu (fun _=>some q) (e.get r) pre with
  | none=>rw [hm] at h;cases h
  | some root=>rw [hm] at h;exact ⟨root,rfl,rfl,h⟩
theorem zOh (S:St w0 U Φ0 nt hv a w e Φ rv E L) {p:PV} {v:Value} (hp:Rep w Φ (zA8 w rv E) p v []) {k:PV→PM} {k2:PM} (h:(zNO p k k2).run o e=some e') :
  k2.run o e=some e'∨(k p).run o e=some e'∨∃ r pre q root,r<zAb∧(E r).unlock=E r∧zAz (E r) pre=some q∧q.oneCell=true∧p.oneCell=true∧zAu (fun _=>some .bad) (E r) pre=some root∧root.unlock=root∧root.isTup=false ∧
   (k q).run o (e.set r root)=some e'∧∀ nv,zAR w (rv r) (E r) pre=some (nv,q)→nv=v:=by
 cases p<;>simp only [zNO] at h<;>try (exact .inr (.inl h))
 case bor r pre z lo n =>
  obtain ⟨q,hq,h1⟩:=zBL h
  obtain ⟨_,hr,⟨b,cap,yE,_⟩,hn⟩:=hp
  split at h1
  ·rename_i sz xs
   cases hc:(Nat.beq lo 0&&Nat.beq n xs.length) with
   | false=>rw [hc] at h1;exact .inl h1
   | true =>
    rw [hc] at h1;simp only [cond_true] at h1
    simp only [Bool.and_eq_true] at hc
    have ko:=Nat.eq_of_beq_eq_true hc.1
    have qB:=Nat.eq_of_beq_eq_true hc.2
    subst ko
    obtain ⟨root,hl,hm,h2⟩:=zBY h1
    have yF:=zBC hl
    rw [yF,← S.env r hr] at hq
    rw [← S.env r hr] at yF hm
    obtain ⟨k1,k2'⟩:=zBR (q' := .bad) rfl rfl hm
    refine .inr (.inr ⟨r,pre,_,root,hr,yF,hq,rfl,rfl,hm,k1,k2',h2,fun nv hf=>?_⟩)
    obtain ⟨sz2,xs2,g1,g2,g3⟩:=hn nv _ (by rw [yF];exact hf) rfl
    cases g1;subst g2
    obtain ⟨nv',Li,yq,_,hX⟩:=zBO (S.conf.rep r) hq
    rw [hf] at yq;cases yq
    obtain ⟨q1,q2,q3⟩ | ⟨x,m,c,us,M,q0,q1,q2,_⟩:=hX
    ·subst q3;exact g3.1.symm
    ·subst q1
     simp only [zBK] at g3
     rw [g3.1,qB]
     congr 2
     ·cases x;simp_all [zAt]
  ·exact .inl h1
 case bmap r pre =>
  obtain ⟨q,hq,h1⟩:=zBL h
  obtain ⟨_,hr,⟨b,yE⟩,hn⟩:=hp
  split at h1
  ·rename_i es
   obtain ⟨root,hl,hm,h2⟩:=zBY h1
   have yF:=zBC hl
   rw [yF,← S.env r hr] at hq
   rw [← S.env r hr] at yF hm
   obtain ⟨k1,k2'⟩:=zBR (q' := .bad) rfl rfl hm
   exact .inr (.inr ⟨r,pre,_,root,hr,yF,hq,rfl,rfl,hm,k1,k2',h2,fun nv hf=>(hn nv _ (by rw [yF];exact hf) _ rfl).symm⟩)
  ·exact .inl h1
theorem St.taken (S:St w0 U Φ0 nt hv a w e Φ rv E L) {g r:Nat} (hg:zAb≤g) (hr:r<zAb) {pre:zAU} {q root:PV} (yF:(E r).unlock=E r) (hq:zAz (E r) pre=some q) (h1:q.oneCell=true)
  (hm:zAu (fun _=>some .bad) (E r) pre=some root) (hk:root.unlock=root) (wn:root.isTup=false) :
  ∃ nv Li,zAR w (rv r) (E r) pre=some (nv,q)∧Rep w Φ (zA8 w rv E) q nv Li∧Li.Nodup∧(∀ b∈Li,b∉L g)∧∀ (p':PV) (v':Value) (Lg:List Nat),Rep w Φ (zA8 w rv E) p' v' Lg→Lg.Nodup→(∀ b∈Lg,b∈Li∨b∈L g) →
   ∃ L',St w0 U Φ0 nt hv a w (e.set r root) Φ (upd rv g v') (upd (upd E r root) g p') L'∧∀ s,zAb≤s→s≠g→L' s=L s:=by
 obtain ⟨nv,Li,g1,g2,g3,g4,g5⟩:=S.conf.takeNode hr hg yF hq (zBp h1).2 hm hk
 refine ⟨nv,Li,g1,g2,g3,fun b hb j1=>S.conf.disj r g (by omega) b (g4 b hb) j1,fun p' v' Lg q1 q2 q3=>?_⟩
 obtain ⟨L',hc,hL⟩:=g5 p' v' Lg q1 q2 q3
 refine ⟨L',S.turn hc (fun s hs=>?_) (fun s hs=>zAf (by omega)) (fun d ps hd hp=>?_),fun s hs yg=>hL s (by omega) yg⟩
 ·rw [zAf (by omega),Env.get_set]
  by_cases yZ:s=r
  ·subst yZ;rw [zAj,if_pos rfl]
  ·rw [zAf yZ,if_neg yZ];exact S.env s hs
 ·rw [zAf (by simp only [zAb] at hg;omega)] at hp
  by_cases ji:d=r
  ·subst ji;rw [zAj] at hp;rw [hp] at wn;cases wn
  ·rw [zAf ji] at hp;exact ⟨ps,hp,rfl⟩
structure Worked (w0:World) (U Φ0:Nat→Prop) (nt:Nat) (hv:Hid) (a:Act) (w:World) (rv:Nat→Value) (E:Nat→PV) (g:Nat) (e1:Env) (rv1:Nat→Value) (E1:Nat→PV):Prop where
 st:∃ Φ1 L1,St w0 U Φ0 nt hv a w e1 Φ1 rv1 E1 L1
 val:rv1 g=rv g
 low:∀ s,s<zAb→rv1 s=rv s
 rest:∀ s,zAb≤s→s≠g→E1 s=E s∧rv1 s=rv s
 agg:(E1 g).isAgg=(E g).isAgg
 len:(E1 g).cells.length=(E g).cells.length
theorem zMH {p:PV} (h:p.isWay=true):p.heavy=false:=by cases p<;>first | rfl | cases h
theorem zO2 (S:St w0 U Φ0 nt hv a w e Φ rv E L) {g:Nat} (hg:zAb≤g) {k:PV→PM} (h:(zMU (E g) k).run o e=some e'):∃ e1 rv1 E1,(k (E1 g)).run o e1=some e'∧Worked w0 U Φ0 nt hv a w rv E g e1 rv1 E1:=by
 have qd:Worked w0 U Φ0 nt hv a w rv E g e rv E:=⟨⟨Φ,L,S⟩,rfl,fun _ _=>rfl,fun _ _ _=>⟨rfl,rfl⟩,rfl,rfl⟩
 by_cases ju:(E g).isWay=true
 ·have hX:=S.conf.rep g
  have hL:L g=[]:=zDf _ _ _ (zMH ju) hX
  rw [hL] at hX
  rcases zOh S hX h with h1 | h1 | ⟨r,pre,q,root,c1,c2,c3,c4,c5,c6,c7,c8,c9,c10⟩
  ·obtain ⟨e1,Φ1,E1,L1,h2,S1,_,h3,_,_,h4,h5⟩:=zIW hg (Nat.le_refl _) zDw S h1
   exact ⟨e1,rv,E1,h2,⟨Φ1,L1,S1⟩,rfl,fun _ _=>rfl,fun s hs hI=>⟨h3 s hs hI,rfl⟩,h4,h5⟩
  ·exact ⟨e,rv,E,h1,qd⟩
  ·obtain ⟨nv,Li,g1,g2,g3,g4,g5⟩:=S.taken hg c1 c2 c3 c4 c6 c7 c8
   have hnv:=c10 nv g1
   obtain ⟨L',S',vl⟩:=g5 q nv Li g2 g3 (fun b hb => .inl hb)
   have jq:r≠g:=by omega
   refine ⟨_,_,_,by rw [zAj];exact c9,⟨Φ,L',S'⟩,by rw [zAj,hnv],fun s hs=>zAf (by omega),fun s hs hI=>?_,?_,?_⟩
   ·rw [zAf hI,zAf hI,zAf (by omega)];exact ⟨rfl,rfl⟩
   ·rw [zAj,(zBp c4).2,(zBp c5).2]
   ·rw [zAj,(zBp c4).1,(zBp c5).1];rfl
 ·have:(k (E g)).run o e=some e':=by
   revert h
   simp only [zMU,zNO]
   cases hE:E g<;>first | (rw [hE] at ju;exact absurd rfl ju) | exact fun h=>h
  exact ⟨e,rv,E,this,qd⟩
theorem Worked.self (S:St w0 U Φ0 nt hv a w e Φ rv E L) {g:Nat}:Worked w0 U Φ0 nt hv a w rv E g e rv E:=⟨⟨Φ,L,S⟩,rfl,fun _ _=>rfl,fun _ _ _=>⟨rfl,rfl⟩,rfl,rfl⟩
theorem Worked.trans {g:Nat} {e1 e2:Env} {rv1 rv2:Nat→Value} {E1 E2:Nat→PV} (h1:Worked w0 U Φ0 nt hv a w rv E g e1 rv1 E1) (h2:Worked w0 U Φ0 nt hv a w rv1 E1 g e2 rv2 E2):Worked w0 U Φ0 nt hv a w rv E g e2 rv2 E2 :=
 ⟨h2.st,h2.val.trans h1.val,fun s hs=>(h2.low s hs).trans (h1.low s hs),fun s hs hI=>⟨(h2.rest s hs hI).1.trans (h1.rest s hs hI).1,(h2.rest s hs hI).2.trans (h1.rest s hs hI).2⟩,h2.agg.trans h1.agg,h2.len.trans h1.len⟩
theorem zOr (S:St w0 U Φ0 nt hv a w e Φ rv E L) {g:Nat} (hg:zAb≤g) {k:PV→PM} (h:(zLO zAb zDw (E g) k).run o e=some e'):∃ e1 rv1 E1,(k (E1 g)).run o e1=some e'∧Worked w0 U Φ0 nt hv a w rv E g e1 rv1 E1:=by
 obtain ⟨e1,Φ1,E1,L1,h2,S1,_,h3,_,_,h4,h5⟩:=zIW hg (Nat.le_refl _) zDw S h
 exact ⟨e1,rv,E1,h2,⟨Φ1,L1,S1⟩,rfl,fun _ _=>rfl,fun s hs hI=>⟨h3 s hs hI,rfl⟩,h4,h5⟩
theorem zHg {g:Nat} (hg:zAb≤g) {k:PV→PM}:∀ (ps done:List PV) {e:Env} {Φ:Nat→Prop} {rv:Nat→Value} {E:Nat→PV} {L:Nat→List Nat},St w0 U Φ0 nt hv a w e Φ rv E L→E g = .agg (done++ps) →
  (zJP ps fun qs=>k (.agg (done++qs))).run o e=some e'→∃ e1 rv1 E1,(k (E1 g)).run o e1=some e'∧Worked w0 U Φ0 nt hv a w rv E g e1 rv1 E1
 | [],done,e,Φ,rv,E,L,S,hE,h=>by
  refine ⟨e,rv,E,?_,.self S⟩
  rw [hE];exact h
 | p :: ps,done,e,Φ,rv,E,L,S,hE,h=>by
  have hX:=S.conf.rep g
  rw [hE] at hX
  obtain ⟨vs,yE,hr⟩:=hX
  have hpi:(done++p::ps)[done.length]? = some p:=by simp
  obtain ⟨v,La,Lp,Lb,hvi,hL,uX,y9,_⟩:=hr.split hpi
  simp only [zJP] at h
  by_cases ju:p.isWay=true
  ·have hLp:=zDf _ _ _ (zMH ju) uX
   subst hLp
   rcases zOh S uX h with h1 | h1 | ⟨r,pre,q,root,c1,c2,c3,c4,c5,c6,c7,c8,c9,c10⟩
   ·cases h1
   ·exact zHg hg ps (done++[p]) S (by rw [hE];simp) (by simpa using h1)
   ·obtain ⟨nv,Li,g1,g2,g3,g4,g5⟩:=S.taken hg c1 c2 c3 c4 c6 c7 c8
    have hnv:=c10 nv g1
    subst hnv
    have yT:=S.conf.nodup g
    rw [hL] at yT
    simp only [List.append_nil,List.nodup_append] at yT
    have jG:=y9 w Φ (zA8 w rv E) q Li (fun _ _ _ h=>h) zDc.refl (fun _ _=>rfl) g2
    have yy:∀ b∈La++Lb,b∈L g:=fun b hb=>by rw [hL];simpa using hb
    obtain ⟨L',S',vl⟩:=g5 (.agg ((done++p::ps).set done.length q)) (rv g) (La++Li++Lb) ⟨vs,yE,jG⟩
     (by
      simp only [List.nodup_append]
      refine ⟨⟨yT.1,g3,fun x hx y hy e=>g4 y hy (yy y (by rw [← e];simp [hx]))⟩,yT.2.1,fun x hx y hy e=>?_⟩
      rcases List.mem_append.1 hx with hx | hx
      ·exact yT.2.2 x hx y hy e
      ·exact g4 x hx (yy x (by rw [e];simp [hy])))
     (fun b hb=>by
      simp only [List.mem_append] at hb
      rcases hb with (hb | hb) | hb
      ·exact .inr (yy b (by simp [hb]))
      ·exact .inl hb
      ·exact .inr (yy b (by simp [hb])))
    have jq:r≠g:=by omega
    have hEq:(done++p::ps).set done.length q=done++q::ps:=by simp
    obtain ⟨e1,rv1,E1,h2,W⟩:=zHg hg ps (done++[q]) S' (by rw [zAj,hEq];simp) (by simpa using c9)
    refine ⟨e1,rv1,E1,h2,?_⟩
    have W0:Worked w0 U Φ0 nt hv a w rv E g (e.set r root) (upd rv g (rv g)) (upd (upd E r root) g (.agg ((done++p::ps).set done.length q))):=by
     refine ⟨⟨Φ,L',S'⟩,zAj,fun s hs=>zAf (by omega),fun s hs hI=>?_,?_,?_⟩
     ·rw [zAf hI,zAf hI,zAf (by omega)];exact ⟨rfl,rfl⟩
     ·rw [zAj,hE];rfl
     ·rw [zAj,hE];simp [PV.cells]
    exact W0.trans W
  ·have:(zJP ps fun qs=>k (.agg (done++p::qs))).run o e=some e':=by
    revert h
    cases p<;>first | (exact absurd rfl ju) | exact fun h=>h
   exact zHg hg ps (done++[p]) S (by rw [hE];simp) (by simpa using this)
theorem zMt (S:St w0 U Φ0 nt hv a w e Φ rv E L) {g:Nat} (hg:zAb≤g) {tk:Bool} {k:PV→PM} (h:(zFy tk (E g) k).run o e=some e'):∃ e1 rv1 E1,(k (E1 g)).run o e1=some e'∧Worked w0 U Φ0 nt hv a w rv E g e1 rv1 E1:=by
 have plain:(k (E g)).run o e=some e'→∃ e1 rv1 E1,(k (E1 g)).run o e1=some e'∧Worked w0 U Φ0 nt hv a w rv E g e1 rv1 E1:=fun h=>⟨e,rv,E,h,.self S⟩
 have ice:(zLO zAb zDw (E g) k).run o e=some e'→∃ e1 rv1 E1,(k (E1 g)).run o e1=some e'∧Worked w0 U Φ0 nt hv a w rv E g e1 rv1 E1:=zOr S hg
 have take:(zMU (E g) k).run o e=some e'→∃ e1 rv1 E1,(k (E1 g)).run o e1=some e'∧Worked w0 U Φ0 nt hv a w rv E g e1 rv1 E1:=zO2 S hg
 cases hE:E g<;>rw [hE] at h plain ice take<;>simp only [zFy] at h<;>try (exact plain h)
 case agg cs =>
  cases tk with
  | true=>exact zHg hg cs [] S (by rw [hE];rfl) (by simpa using h)
  | false =>
   simp only [cond_false] at h
   revert h
   cases cs.any _ with
   | true=>exact ice
   | false=>exact plain
 case bor=>cases tk<;>first | exact take h | exact ice h
 case bmap=>cases tk<;>first | exact take h | exact ice h
 case bsl=>exact ice h
theorem St.iced (S:St w0 U Φ0 nt hv a w e Φ rv E L) {g:Nat} (hg:zAb≤g):∃ Φ1 L1,St w0 U Φ0 nt hv a w e Φ1 rv (upd E g (zAV (E g))) L1:=by
 have hA:∀ a u,a.isWay=true→zA8 w rv E a u→zA8 w rv (upd E g (zAV (E g))) a u:=by
  intro a u _ ha
  have:=zC3 ha
  exact zCM S.conf zCk ha (by rw [zAf (by omega),zBk]) rfl (fun _ _=>rfl)
 have hΦ:zDc w w Φ (fun b=>Φ b∨b∈L g):=fun b hb=>⟨.inl hb,rfl⟩
 have hc:Conf w0 U Φ0 w (fun b=>Φ b∨b∈L g) rv (upd E g (zAV (E g))) (upd L g []):=by
  refine ⟨fun s=>?_,fun s=>?_,fun s s' hI b hb yG=>?_,fun s b hb=>?_,fun b hb=>?_,fun b hb => .inl (S.conf.frz0 b hb),S.conf.size,S.conf.kept,S.conf.os,S.conf.tape,S.conf.output⟩
  ·by_cases hs:s=g
   ·subst hs;rw [zAj,zAj]
    exact (zD7 (fun b hb => .inl hb) _ _ _ (fun b hb => .inr hb) (S.conf.rep s)).mono zDc.refl hA (by simp)
   ·rw [zAf hs,zAf hs];exact (S.conf.rep s).mono hΦ hA (fun _ _=>rfl)
  ·by_cases hs:s=g
   ·subst hs;rw [zAj];exact List.nodup_nil
   ·rw [zAf hs];exact S.conf.nodup s
  ·by_cases hs:s=g
   ·subst hs;rw [zAj] at hb;cases hb
   ·rw [zAf hs] at hb
    by_cases yt:s'=g
    ·subst yt;rw [zAj] at yG;cases yG
    ·rw [zAf yt] at yG;exact S.conf.disj s s' hI b hb yG
  ·by_cases hs:s=g
   ·subst hs;rw [zAj] at hb;cases hb
   ·rw [zAf hs] at hb
    have:=S.conf.own s b hb
    exact ⟨this.1,fun hp=>hp.elim this.2.1 fun hbg=>S.conf.disj s g hs b hb hbg,this.2.2⟩
  ·rcases hb with hb | hb
   ·exact S.conf.frz b hb
   ·have:=S.conf.own g b hb;exact ⟨this.1,.inr this.2.2⟩
 exact ⟨_,_,S.turn hc (fun s hs=>by rw [zAf (by omega)];exact S.env s hs) (fun _ _=>rfl) fun d ps hd hp=>by
  rw [zAf (by simp only [zAb] at hg;omega)] at hp;exact ⟨ps,hp,rfl⟩⟩
theorem St.clear (S:St w0 U Φ0 nt hv a w e Φ rv E L):Fr w0 U Φ0 nt hv a w e:=by
 have hc:=S.conf.drop fun s=>decide (zAb≤s)
 refine ⟨_,_,_,_,S.turn hc (fun s hs=>?_) (fun _ _=>rfl) (fun d ps hd hp=>?_),fun s hs=>?_⟩
 ·have:decide (zAb≤s)=false:=by simp;omega
  simp only [this,Bool.false_eq_true,if_false];exact S.env s hs
 ·have:decide (zAb≤d)=false:=decide_eq_false (by simp only [zAb];omega)
  simp only [this,Bool.false_eq_true,if_false] at hp;exact ⟨ps,hp,rfl⟩
 ·simp [hs]
theorem zIg {A:Al} {sz lo n:Nat} {xs:List PV} {nv v:Value} {Li:List Nat} (h:Rep w Φ A (.own sz xs) nv Li) (yN:lo+n≤xs.length) (hs:zBK v nv sz lo n) :
  ∃ Lg,Rep w Φ A (.own sz ((xs.drop lo).take n)) v Lg∧(∀ b∈Lg,b∈Li)∧(Li.Nodup→Lg.Nodup):=by
 obtain ⟨h1,h2,h3⟩ | ⟨x,m,c,us,M,rfl,h1,h2,h3,h4,h5,h6,⟨h7,uI⟩,h8,h9⟩:=h
 ·subst h1;subst h3
  exact ⟨[],.inl ⟨by simp,rfl,hs.1⟩,by simp,fun _=>List.nodup_nil⟩
 ·subst h1
  simp only [zBK] at hs
  obtain ⟨rfl,yR⟩:=hs
  have jB:us.length=xs.length:=by have:=congrArg List.length uI;simpa using this
  obtain ⟨M1,M23,rfl,_,hB⟩:=h9.cut lo
  obtain ⟨M2,M3,rfl,hC,_⟩:=hB.cut n
  have hZ:((xs.drop lo).take n).length=n:=by simp;omega
  refine ⟨x.block::M2,.inr ⟨zAt x (lo*sz),m-lo,c,(us.drop lo).take n,M2,rfl,by rw [hZ],rfl,by rw [hZ];omega,h4,?_,fun y hy=>h6 y (List.mem_of_mem_drop (List.mem_of_mem_take hy)),⟨fun u hu=>h7 u (List.mem_of_mem_drop (List.mem_of_mem_take hu)),zA2.map_isAgg uI lo n⟩,?_,hC⟩,?_,?_⟩
  ·simp only [zAt]
   have:lo*sz+(m-lo)*sz=m*sz:=by rw [← Nat.add_mul];congr 1;omega
   omega
  ·rw [hZ];exact zIv h7 jB h8 yN
  ·intro b hb;simp only [List.mem_cons,List.mem_append] at hb ⊢;rcases hb with h | h<;>simp [h]
  ·intro hn
   simp only [List.nodup_cons,List.mem_append,not_or,List.nodup_append] at hn ⊢
   exact ⟨hn.1.2.1,hn.2.2.1.1⟩
theorem zMQ {t:TypeId} {n:Nat} (hn:szT P t=some n) {b:Addr} (y4:b.spot=none) {row:Array Value} (yC:zEl w b.block row) {v:Value} (hv:v.cells.size=n) (yB:b.off+v.cells.size≤row.size) (yM:∀ u∈v.cells.toList,u.oneCell'=true) :
  (Instr.storeAt t (.pointer (some b)) v).run P w = .ok () (w.setRow b.block (zBi row b.off v.cells.toList)):=by
 obtain ⟨ti,jM,yD⟩:=zCq hn
 obtain ⟨el,y5⟩:=yC
 have hb:b=⟨b.block,b.off,none⟩:=by cases b;simp_all
 simp only [Instr.storeAt,Instr.sureAddr,Sem.run_bind,Sem.run_pure,Result.andThen_ok,storeVar,zAY jM]
 rw [if_neg (by simp only [ne_eq,Decidable.not_not];omega)]
 have:=run_storeCells_at (P:=P) b.block b.off el v.cells.toList 0 row w y5 (by simpa using yB) yM
 rw [← hb] at this
 simp only [Nat.add_zero] at this
 exact this
theorem zLr (S:St w0 U Φ0 nt hv a w e Φ rv E L) {g r:Nat} (hg:zAb≤g) {pre:zAU} {i c:Nat} {sh:Option Nat} {t:TypeId} {va:Value} (ha:Rep w Φ (zA8 w rv E) (.addr r pre i c sh) va [])
  (hn:szT P t=some (E g).cells.length) (h:(zH4 r pre i c (E g)).run o e=some e') :
  ∃ w',(Instr.storeAt t va (rv g)).run P w = .ok () w'∧Fr w0 U Φ0 nt hv a w' e':=by
 simp only [zH4] at h
 obtain ⟨hc,h1⟩:=zAJ h
 simp only [Bool.and_eq_true,Bool.or_eq_true,Bool.not_eq_true'] at hc
 obtain ⟨⟨jV,jE⟩,uY⟩:=hc
 have yM:∀ q∈(E g).cells,q.oneCell=true:=fun q hq=>List.all_eq_true.1 jE q hq
 have hva:zCi (rv g)=(E g).isAgg:=by
  have hX:=S.conf.rep g
  cases hx:(E g).isAgg with
  | true =>
   cases hE:E g<;>rw [hE] at hx<;>simp [PV.isAgg] at hx
   rw [hE] at hX;obtain ⟨vs,yE,_⟩:=hX;rw [yE];rfl
  | false =>
   have j7:(E g).cells=[E g]:=by cases hE:E g<;>first | rfl | (rw [hE] at hx;simp [PV.isAgg] at hx)
   have:=yM (E g) (by rw [j7];simp)
   exact (zBN (zCb (fun a v hw h=>zC8 hw h) hX this)).2
 have yw:(E g).heavy=false∨∀ x∈(E g).ways,zAL r pre x.1 x.2=false∨x.2.length≤pre.length:=by
  rcases jV with h | h
  ·exact .inl h
  ·refine .inr fun x hx=>?_
   have:=List.all_eq_true.1 h x hx
   simp only [Bool.not_eq_true',Bool.and_eq_false_iff] at this
   rcases this with h | h
   ·exact .inl h
   ·refine .inr (Nat.le_of_not_lt fun yK=>?_)
    rw [show Nat.blt pre.length x.2.length=true from Nat.ble_eq_true_of_le yK] at h;cases h
 have hI:(E g).cells.length≠0:=by
  intro h0;rw [List.eq_nil_of_length_eq_zero h0] at uY;cases uY
 obtain ⟨b,row,e1,E1,L1,rfl,k1,k2,k3,k4,k5,k6,_,_⟩:=S.write hg ha yw yM hI hva h1
 simp only [PM.run,Option.some.injEq] at k5;subst k5
 have yD:(rv g).cells.size=(E g).cells.length:=by
  have:=((S.conf.rep g).cellsAll hva).length
  simpa using this
 exact ⟨_,zMQ hn k1 k2 yD k3 k4,k6.clear⟩
theorem zHj (S:St w0 U Φ0 nt hv a w e Φ rv E L) {g:Nat} (hg:zAb≤g) (hE2:E (g+1) = .bad) {r:Nat} {pre:zAU} {i c:Nat} {sh:Option Nat} {t:TypeId} {va:Value} (ha:Rep w Φ (zA8 w rv E) (.addr r pre i c sh) va [])
  (hn:szT P t=some (E g).cells.length) {tk:Bool} (h:(zHT tk r pre i c (E g)).run o e=some e') :
  ∃ w',(Instr.storeAt t va (rv g)).run P w = .ok () w'∧Fr w0 U Φ0 nt hv a w' e':=by
 have S1:=S.hold (g:=g+1) (by omega) ha
 have kO:g≠g+1:=by omega
 simp only [zHT] at h
 split at h
 ·rename_i m kP
  cases uV:E g<;>rw [uV] at kP<;>simp only [zQW] at kP<;>try (cases kP;done)
  rename_i r' q z lo n
  cases lo with
  | succ lo=>cases kP
  | zero =>
   simp only [zQW] at kP
   split at kP
   ·rename_i hrq
    simp only [Bool.and_eq_true,decide_eq_true_eq] at hrq
    obtain ⟨rfl,rfl⟩:=hrq
    simp only [Option.some.injEq] at kP;subst kP
    obtain ⟨x,hx,h1⟩:=zBL h
    split at h1
    ·rename_i s xs
     obtain ⟨yN,h2⟩:=zAJ h1
     have yN:=Nat.le_of_ble_eq_true yN
     obtain ⟨root,hl,hm,h3⟩:=zBY h2
     have hr:r'<zAb:=ha.2.1
     have yF:=zBC hl
     rw [yF,← S.env r' hr] at hx
     rw [← S.env r' hr] at yF hm
     have gO:r'≠g+1:=by omega
     obtain ⟨kk1,kk2⟩:=zBR (q' := .bad) rfl rfl hm
     have vr:upd E (g+1) (.addr r' pre i c sh) r'=E r':=zAf gO
     obtain ⟨nv,Li,g1,g2,g3,g4,g5⟩:=S1.taken (g:=g) hg hr (by rw [vr];exact yF) (by rw [vr];exact hx) rfl (by rw [vr];exact hm) kk1 kk2
     have qe:=S.conf.rep g
     rw [uV] at qe
     obtain ⟨_,_,_,v8⟩:=qe
     have jP:zBK (rv g) nv s 0 n:=by
      obtain ⟨s2,xs2,q1,q2,q3⟩:=v8 nv _ (by rw [yF];rw [vr,zAf gO] at g1;exact g1) rfl
      cases q1;subst q2;exact q3
     obtain ⟨Lg,p1,p2,p3⟩:=zIg g2 (by omega) jP
     obtain ⟨L',S2,_⟩:=g5 _ (rv g) Lg p1 (p3 g3) (fun b hb => .inl (p2 b hb))
     have jd:=S2.conf.rep (g+1)
     rw [zAf (Ne.symm kO),zAf (Ne.symm gO),zAj,zAf (Ne.symm kO),zAj] at jd
     have ur:L' (g+1)=[]:=jd.1
     rw [ur] at jd
     have:=zLr (P:=P) (t:=t) S2 hg jd (by rw [zAj];rw [uV] at hn;exact hn) (by rw [zAj];exact h3)
     rw [zAj] at this;exact this
    ·cases h1
   ·cases kP
 ·have key:(zFy tk (E g) fun v=>zH4 r pre i c v).run o e=some e'∨(zH4 r pre i c (E g)).run o e=some e':=by
   simp only [zIs] at h
   cases hb:(pre.isEmpty && !tk) with
   | false=>rw [hb] at h;exact .inl h
   | true =>
    rw [hb] at h;simp only [cond_true,PM.run] at h
    split at h
    ·exact .inr h
    ·exact .inl h
  rcases key with h | h
  ·have hEg1:upd E (g+1) (.addr r pre i c sh) g=E g:=zAf kO
   obtain ⟨e1,rv1,E1,h1,W⟩:=zMt S1 (g:=g) hg (by rw [hEg1];exact h)
   obtain ⟨Φ1,L1,S2⟩:=W.st
   have jd:=S2.conf.rep (g+1)
   obtain ⟨q1,q2⟩:=W.rest (g+1) (by omega) (Ne.symm kO)
   rw [q1,q2,zAj,zAj] at jd
   have ur:L1 (g+1)=[]:=jd.1
   rw [ur] at jd
   have hZ:=W.len
   rw [hEg1] at hZ
   have:=zLr (P:=P) (t:=t) S2 hg jd (by rw [hZ];exact hn) h1
   rw [W.val,zAf kO] at this;exact this
  ·exact zLr S hg ha hn h
theorem zV5 {t el:TypeId} {s:Nat} (h:(zBW P t).bind (szT P)=some s):∃ el,zBW P t=some el∧szT P el=some s:=by
 cases he:zBW P t with
 | none=>rw [he] at h;cases h
 | some el=>rw [he] at h;exact ⟨el,rfl,h⟩
theorem zCC {t:TypeId} {el:TypeId} (h:zBW P t=some el):P.underlying t=some (.slice el):=by
 simp only [zBW] at h
 split at h
 ·cases h;assumption
 ·cases h
theorem zSM (S:St w0 U Φ0 nt hv a w e Φ rv E L) (hb:zBs E) {fz tk:Bool} {t:TypeId} {x y:Operand} (hx:zAQ nt x=true) (hy:zAQ nt y=true) (h:(zOy P fz tk t x y).run o e=some e') :
  ∃ w',(Instr.storeAt t (a.eval x) (a.eval y)).run P w = .ok () w'∧Fr w0 U Φ0 nt hv a w' e':=by
 obtain ⟨pa,h1,vq⟩:=zBv S hx h
 have gen:(match pa,shT P t,szT P t with
   | .addr r pre i c _,some sh,some n=>(bif fz&&tk then opd y else zPa y) fun v=>bif Nat.beq v.cells.length n&&v.isAgg==sh.isSome then zHT (tk && !fz) r pre i c (bif fz && !tk then zAV v else v) else .fail
   | _,_,_ => .fail).run o e=some e'→∃ w',(Instr.storeAt t (a.eval x) (a.eval y)).run P w = .ok () w'∧Fr w0 U Φ0 nt hv a w' e':=by
  intro h2
  clear h1
  split at h2
  ·rename_i r pre i c s' sh n j8 hn
   have S1:=S.hold (g:=zAb+2) (by omega) vq
   cases hfk:(fz&&tk) with
   | true =>
    rw [Bool.and_eq_true] at hfk
    obtain ⟨rfl,rfl⟩:=hfk
    simp only [Bool.and_self,cond_true,Bool.not_true,Bool.and_false,cond_false] at h2
    obtain ⟨v,h2,hv⟩:=zBv S1 hy h2
    obtain ⟨hc,h5⟩:=zAJ h2
    simp only [Bool.and_eq_true] at hc
    have hZ:=Nat.eq_of_beq_eq_true hc.1
    have S2:=S1.hold (g:=zAb) (Nat.le_refl _) hv
    have jd:=S2.conf.rep (zAb+2)
    rw [zAf (show zAb+2≠zAb by omega),zAf (show zAb+2≠zAb by omega),zAf (show zAb+2≠zAb by omega),zAj,zAj,zAj] at jd
    have:=zHj (P:=P) (t:=t) S2 (Nat.le_refl zAb) (by rw [zAf (show zAb+1≠zAb by omega),zAf (show zAb+1≠zAb+2 by omega)];exact hb _ (by omega)) jd (by rw [zAj,hZ];exact hn) (by rw [zAj];exact h5)
    rwa [zAj] at this
   | false =>
   rw [hfk,cond_false] at h2
   obtain ⟨e1,rv1,E1,L1,h2,S2,h3,h4⟩:=zGx S1 hy (g:=zAb) (Nat.le_refl _) h2
   obtain ⟨hc,h5⟩:=zAJ h2
   simp only [Bool.and_eq_true] at hc
   have hZ:=Nat.eq_of_beq_eq_true hc.1
   have h6:=h4 (zAb+2) (by omega) (by omega)
   rw [zAj,zAj,zAj] at h6
   have h7:=h4 (zAb+1) (by omega) (by omega)
   rw [zAf (show zAb+1≠zAb+2 by omega)] at h7
   have vr:E1 (zAb+1) = .bad:=by rw [h7.1];exact hb _ (by omega)
   cases fz with
   | false =>
    simp only [Bool.false_and,cond_false] at h5
    have jd:=S2.conf.rep (zAb+2)
    rw [h6.1,h6.2.1,h6.2.2] at jd
    have:=zHj (P:=P) (t:=t) S2 (Nat.le_refl zAb) vr jd (by rw [hZ];exact hn) h5
    rwa [h3] at this
   | true =>
    simp only [Bool.true_and] at hfk
    subst hfk
    simp only [Bool.not_false,Bool.and_self,cond_true] at h5
    obtain ⟨Φ2,L2,S3⟩:=S2.iced (g:=zAb) (Nat.le_refl _)
    have jd:=S3.conf.rep (zAb+2)
    rw [zAf (show zAb+2≠zAb by omega),h6.1,h6.2.1] at jd
    have ur:L2 (zAb+2)=[]:=jd.1
    rw [ur] at jd
    have:=zHj (P:=P) (t:=t) S3 (Nat.le_refl zAb) (by rw [zAf (show zAb+1≠zAb by omega)];exact vr) jd (by rw [zAj,zDa,hZ];exact hn) (by rw [zAj];exact h5)
    rwa [h3] at this
  ·cases h2
 split at h1
 ·rename_i r pre i c s'
  obtain ⟨s,hs,je⟩:=zBG h1
  obtain ⟨jP,h2⟩:=zDk je
  have S1:=S.hold (g:=zAb) (p := .own s []) (v := .slice none 0 0) (Nat.le_refl _) (.inl ⟨rfl,rfl,rfl⟩)
  have hpa':Rep w Φ (zA8 w (upd rv zAb (.slice none 0 0)) (upd E zAb (.own s []))) (.addr r pre i c s') (a.eval x) []:=by
   have hr:=zC3 vq.2
   refine ⟨rfl,zCM S.conf zCk vq.2 ?_ ?_ (fun _ _=>rfl)⟩
   ·rw [zAf (Nat.ne_of_lt hr),zBk]
   ·rw [zAf (Nat.ne_of_lt hr)]
  have:=zHj (P:=P) (t:=t) S1 (Nat.le_refl zAb) (by rw [zAf (show zAb+1≠zAb by omega)];exact hb _ (by omega)) hpa' (by rw [zAj];exact jP) (by rw [zAj];exact h2)
  rwa [zAj] at this
 ·exact gen h1
theorem Fr.congr {e1 e2:Env} (h:∀ s,e1.get s=e2.get s) (hf:Fr w0 U Φ0 nt hv a w e1):Fr w0 U Φ0 nt hv a w e2:=by
 obtain ⟨Φ,rv,E,L,S,hb⟩:=hf
 exact ⟨Φ,rv,E,L,{S with env:=fun s hs=>(S.env s hs).trans (h s)},hb⟩
theorem zKw (S:St w0 U Φ0 nt hv a w e Φ rv E L) {g:Nat} (hg:zAb≤g) {d:Option Nat} (hd:∀ x,d=some x→x<nt) (hb:∀ s,zAb≤s→s≠g→E s = .bad) (h:(zFS d (E g)).run o e=some e'):Fr w0 U Φ0 nt hv (a.put d (rv g)) w e':=by
 have plain:(put d (E g)).run o e=some e'→Fr w0 U Φ0 nt hv (a.put d (rv g)) w e':=fun h=>zFu S hd hg h hb
 have kA:=S.small
 simp only [zFS] at h
 split at h
 ·rename_i d' r z lo n uV
  split at h
  ·rename_i hrd
   subst hrd
   have hr:r<nt:=hd r rfl
   have jq:r<zAb:=by simp only [zAb];omega
   simp only [PM.run] at h
   split at h
   ·cases h
   ·rename_i root qB
    split at h
    ·rename_i sz xs kq
     obtain ⟨yN,h1⟩:=zAJ h
     have yN:=Nat.le_of_ble_eq_true yN
     simp only [PM.run,Option.some.injEq] at h1
     have hE:E r = .own sz xs:=by rw [S.env r jq,kq]
     obtain ⟨nv,Li,g1,g2,g3,g4,g5⟩:=S.taken (g:=g) hg jq (pre:=[]) (q := .own sz xs) (root := .bad) (by rw [hE];rfl) (by rw [hE];rfl) rfl rfl rfl rfl
     have hX:=S.conf.rep g
     rw [uV] at hX
     obtain ⟨_,_,_,hn⟩:=hX
     have jP:zBK (rv g) nv sz lo n:=by
      obtain ⟨s2,xs2,q1,q2,q3⟩:=hn nv _ (by rw [hE];rw [hE] at g1;exact g1) rfl
      cases q1;subst q2;exact q3
     obtain ⟨Lg,p1,p2,p3⟩:=zIg g2 yN jP
     obtain ⟨L',S2,_⟩:=g5 _ (rv g) Lg p1 (p3 g3) (fun b hb => .inl (p2 b hb))
     have jt:(put (some r) (upd (upd E r .bad) g (.own sz ((xs.drop lo).take n)) g)).run o (e.set r .bad)=some (((e.set r .bad).kill r []).set r (.own sz ((xs.drop lo).take n))):=by
      rw [zAj];rfl
     have:=zFu S2 hd hg jt (fun s hs hI=>by rw [zAf hI,zAf (by omega)];exact hb s hs hI)
     rw [zAj] at this
     refine this.congr fun s=>?_
     rw [← h1,Env.get_set,Env.get_set,Env.get_kill,Env.get_kill,Env.get_set]
     by_cases hs:s=r
     ·simp [hs]
     ·simp [hs]
    ·cases h
  ·exact plain h
 ·exact plain h
theorem zSg (S:St w0 U Φ0 nt hv a w e Φ rv E L) (hb:zBs E) {d:Option Nat} (hd:∀ x,d=some x→x<nt) {tk nl:Bool} {t:TypeId} {x:Operand} (hx:zAQ nt x=true) (h:(zF6 P tk nl d t x).run o e=some e'):Fr w0 U Φ0 nt hv (a.put d (a.eval x)) w e':=by
 have gen:(zPa x fun p=>bif tk then zMU p (zFS d) else zFS d p).run o e=some e'→Fr w0 U Φ0 nt hv (a.put d (a.eval x)) w e':=by
  intro h
  obtain ⟨e1,rv1,E1,L1,h1,S1,h2,h3⟩:=zGx S hx (g:=zAb) (Nat.le_refl _) h
  have y7:∀ s,zAb≤s→s≠zAb→E1 s = .bad:=fun s hs hI=>by rw [(h3 s hs hI).1];exact hb s hs
  cases tk with
  | false =>
   have:=zKw S1 (Nat.le_refl zAb) hd y7 h1
   rwa [h2] at this
  | true =>
   obtain ⟨e2,rv2,E2,h4,W⟩:=zO2 S1 (Nat.le_refl zAb) h1
   obtain ⟨Φ2,L2,S2⟩:=W.st
   have:=zKw S2 (Nat.le_refl zAb) hd (fun s hs hI=>by rw [(W.rest s hs hI).1];exact y7 s hs hI) h4
   rw [W.val,h2] at this;exact this
 simp only [zF6] at h
 split at h
 ·have nilR:∀ s,Rep w Φ (zA8 w rv E) (.own s []) (.slice none 0 0) []:=fun s => .inl ⟨rfl,rfl,rfl⟩
  cases nl with
  | true=>obtain ⟨s,_,h1⟩:=zBG h;exact zAw S hb hd h1 ⟨rfl,rfl⟩
  | false =>
   simp only [cond_false,zUc] at h
   split at h
   ·exact zAw S hb hd h (nilR _)
   ·cases h
 ·exact gen h
theorem zGO {d i d' i':Nat} (h:zBw d i=zBw d' i') (hi:i<16) (gP:i'<16):d=d'∧i=i':=by
 simp only [zBw] at h;omega
theorem zP9 (S:St w0 U Φ0 nt hv a w e Φ rv E L) (hb:zBs E) {d:Option Nat} (hd:∀ x,d=some x→x<nt) {s i:Nat} (hs:s<nt) (h:(zIN d s i).run o e=some e') :
  ∃ v,(Instr.extract (a.eval (.tmp s)) i).run P w = .ok v w∧Fr w0 U Φ0 nt hv (a.put d v) w e':=by
 have kA:=S.small
 have yg:s<zAb:=by simp only [zAb];omega
 simp only [zIN,PM.run] at h
 split at h
 ·cases h
 ·rename_i m qB
  split at h
  ·rename_i ps y1
   obtain ⟨hi,h1⟩:=zAJ h
   have hi:=zB3 hi
   have hE:E s = .tup ps:=by rw [S.env s yg,y1]
   obtain ⟨gQ,vs,kd,kf⟩:=S.parts s ps i hs hE hi
   have hvg:zBw s i<zAb:=by simp only [zBw,zAb];omega
   have uL:a.eval (.tmp s) = .tuple vs:=by rw [← kd];exact S.tmps s hs
   have yA:(Instr.extract (a.eval (.tmp s)) i).run P w = .ok (rv (zBw s i)) w:=by
    rw [uL];simp only [Instr.extract,kf];rfl
   refine ⟨_,yA,?_⟩
   simp only [PM.run] at h1
   split at h1
   ·cases h1
   ·rename_i p hnl2
    have hX:=S.conf.rep (zBw s i)
    rw [S.env _ hvg] at hX
    cases hh:(e.get (zBw s i)).heavy with
    | false =>
     rw [hh] at h1;simp only [cond_false] at h1
     rw [zDf _ _ _ hh hX] at hX
     exact zAw S hb hd h1 hX
    | true =>
     rw [hh] at h1;simp only [cond_true,PM.run] at h1
     have hc:=S.conf.take (s:=zBw s i) (g:=zAb) hvg (Nat.le_refl _)
     have S1:=S.turn (e':=e.set (zBw s i) .bad) hc (fun t ht=>by
      rw [zAf (by omega),Env.get_set]
      by_cases ut:t=zBw s i
      ·subst ut;rw [zAj,if_pos rfl]
      ·rw [zAf ut,if_neg ut];exact S.env t ht) (fun t ht=>zAf (by omega)) (fun d ps hd hp=>by
      rw [zAf (by simp only [zAb];omega),zAf (by simp only [zBw];omega)] at hp;exact ⟨ps,hp,rfl⟩)
     have:=zFu S1 hd (g:=zAb) (Nat.le_refl _) (by rw [zAj,S.env _ hvg];exact h1) (fun t ht hI=>by rw [zAf hI,zAf (by omega)];exact hb t ht)
     rwa [zAj] at this
  ·cases h
end
end Go.Eng
namespace Go.Eng
open Go
mutual
theorem zDM {f:PV→PV}:∀ p:PV,(∀ a,a.isWay=true→(∀ x∈a.ways,x∈p.ways)→(∀ xs k,a ≠ .log xs k)→f a=a)→(∀ xs k,f (.log xs k) = .log xs k)→p.mapW f=p
 | .agg cs,h,hl=>by rw [PV.mapW,zES cs h hl]
 | .tup cs,h,hl=>by rw [PV.mapW,zES cs h hl]
 | .func k a b,h,hl=>by rw [PV.mapW,zES a (fun x hx hw hn=>h x hx (fun y hy=>List.mem_append.2 (.inl (hw y hy))) hn) hl,zES b (fun x hx hw hn=>h x hx (fun y hy=>List.mem_append.2 (.inr (hw y hy))) hn) hl]
 | .ref q,h,hl=>by rw [PV.mapW,zDM q h hl]
 | .box q,h,hl=>by rw [PV.mapW,zDM q h hl]
 | .lock q,h,hl=>by rw [PV.mapW,zDM q h hl]
 | .addr ..,h,_=>h _ rfl (fun _ h=>h) (fun _ _=>by simp)
 | .bor ..,h,_=>h _ rfl (fun _ h=>h) (fun _ _=>by simp)
 | .bsl ..,h,_=>h _ rfl (fun _ h=>h) (fun _ _=>by simp)
 | .bmap ..,h,_=>h _ rfl (fun _ h=>h) (fun _ _=>by simp)
 | .yld ..,_,_=>rfl
 | .log ..,_,hl=>hl _ _
 | .bad,_,_=>rfl
 | .und,_,_=>rfl
 | .int ..,_,_=>rfl
 | .bool ..,_,_=>rfl
 | .nilp,_,_=>rfl
 | .nilf,_,_=>rfl
 | .nilm,_,_=>rfl
 | .nn,_,_=>rfl
 | .nils _,_,_=>rfl
 | .sl _,_,_=>rfl
 | .own ..,_,_=>rfl
 | .map _,_,_=>rfl
 | .omap _,_,_=>rfl
theorem zES {f:PV→PV}:∀ ps:List PV,(∀ a,a.isWay=true→(∀ x∈a.ways,x∈zBA ps)→(∀ xs k,a ≠ .log xs k)→f a=a)→(∀ xs k,f (.log xs k) = .log xs k)→zCt f ps=ps
 | [],_,_=>rfl
 | p::ps,h,hl=>by
  rw [zCt,zDM p (fun x hx hw hn=>h x hx (fun y hy=>List.mem_append.2 (.inl (hw y hy))) hn) hl,zES ps (fun x hx hw hn=>h x hx (fun y hy=>List.mem_append.2 (.inr (hw y hy))) hn) hl]
end
theorem zLZ {p:PV} {x:Nat×zAU}:∀ {ps:List PV},p∈ps→x∈p.ways→x∈zBA ps
 | y::ys,h,hx=>by
  simp only [zBA,List.mem_append]
  rcases List.mem_cons.1 h with rfl | hm
  ·exact .inl hx
  ·exact .inr (zLZ hm hx)
theorem zRC {r:Nat} {p:PV} (h:∀ x∈p.ways,x.1≠r):p.mapW (lose r [])=p:=by
 refine zDM p (fun a ha hw hn=>?_) (fun _ _=>rfl)
 have key:∀ r',(∀ x∈a.ways,x.1=r')→a.ways≠[]→Nat.beq r' r=false:=by
  intro r' h1 h2
  cases hb:Nat.beq r' r with
  | false=>rfl
  | true =>
   have hr:=Nat.eq_of_beq_eq_true hb
   cases hy:a.ways with
   | nil=>exact absurd hy h2
   | cons z zs =>
    have hz:z∈a.ways:=by rw [hy];simp
    exact absurd ((h1 z hz).trans hr) (h z (hw z hz))
 cases a<;>first | (cases ha;done) | (exact absurd rfl (hn _ _)) | skip
 all_goals
  simp only [lose]
  rw [key _ (by simp [PV.ways];done) (by simp [PV.ways])]
  rfl
section
variable {P:Program} {w0 w:World} {U Φ0 Φ:Nat→Prop} {nt:Nat} {hv:Hid} {a:Act} {e e':Env} {rv:Nat→Value} {E:Nat→PV} {L:Nat→List Nat} {o:zAF}
theorem zQK (S:St w0 U Φ0 nt hv a w e Φ rv E L) (hb:zBs E) {d:Option Nat} (hd:∀ x,d=some x→x<nt) {tk:Bool} {t:TypeId} {x:Operand} (hx:zAQ nt x=true) (h:(zO6 P tk d t x).run o e=some e') :
  ∃ v,(Instr.loadAt t (a.eval x)).run P w = .ok v w∧Fr w0 U Φ0 nt hv (a.put d v) w e':=by
 obtain ⟨sh,j8,h1⟩:=zBG h
 obtain ⟨p,h2,hp⟩:=zBv S hx h1
 cases tk with
 | false=>exact zOF S hb hd j8 hp h2
 | true =>
  simp only [cond_true] at h2
  split at h2
  ·rename_i r pre i c s'
   obtain ⟨b,u,q,yG,h3,h4,h5⟩:=zLj S j8 hp h2
   have S1:=S.hold (Nat.le_refl zAb) h5
   obtain ⟨e1,rv1,E1,h6,W⟩:=zOr S1 (g:=zAb) (Nat.le_refl _) (by rw [zAj];exact h4)
   obtain ⟨Φ1,L1,S2⟩:=W.st
   have:=zFu S2 hd (g:=zAb) (Nat.le_refl _) h6 (fun s hs hI=>by rw [(W.rest s hs hI).1,zAf hI];exact hb s hs)
   rw [W.val,zAj] at this
   refine ⟨u,?_,this⟩
   rw [yG]
   simp only [Instr.loadAt,Instr.sureAddr,Sem.run_bind,Sem.run_pure,Result.andThen_ok]
   exact h3
  ·exact zOF S hb hd j8 hp h2
theorem St.layPart (S:St w0 U Φ0 nt hv a w e Φ rv E L) {d i g:Nat} (hd:d<nt) (hi:i<16) (hg:zAb≤g) (hEd:∀ ps,E d ≠ .tup ps) {k:PM} (h:(lay (zBw d i) (E g) k).run o e=some e') :
  ∃ e1 E1 L1,k.run o e1=some e'∧St w0 U Φ0 nt hv a w e1 Φ (upd rv (zBw d i) (rv g)) E1 L1∧(∀ ps,E1 d ≠ .tup ps)∧E1 g = .bad∧∀ s,zAb≤s→s≠g→(∀ x∈(E s).ways,x.1≠zBw d i)→E1 s=E s:=by
 have kA:=S.small
 have ye:zBw d i<zAl:=by simp only [zBw,zAl];omega
 obtain ⟨e1,E1,L1,h1,h2,h3,h4,h5,h6,h7⟩:=zUx S ye hg h
 have qf:∀ d' ps,d'<2000000→E1 d' = .tup ps→∃ ps',E d' = .tup ps'∧ps'.length=ps.length:=by
  intro d' ps w5 hp
  have hI:d'≠zBw d i:=by simp only [zBw];omega
  rcases h4 d' hI (by simp only [zAb];omega) with h8 | h8
  ·exact ⟨ps,by rw [← h8];exact hp,rfl⟩
  ·rw [h8] at hp;exact zD3 (zIu _ _) hp
 refine ⟨e1,E1,L1,h1,⟨h2,h3,S.size,S.small,fun t ht=>?_,fun d' ps j w5 hp hj=>?_,fun s ui uU=>?_,S.dfr⟩,fun ps hp=>?_,h6,fun s hs hI hw=>?_⟩
 ·rw [zAf (by simp only [zBw];omega)];exact S.tmps t ht
 ·obtain ⟨ps',h8,h9⟩:=qf d' ps (by omega) hp
  obtain ⟨jS,vs,vH,h12⟩:=S.parts d' ps' j w5 h8 (by omega)
  have wY:d'≠d:=fun hc=>hEd ps' (hc▸h8)
  refine ⟨jS,vs,by rw [zAf (by simp only [zBw];omega)];exact vH,?_⟩
  rw [zAf fun hc=>wY (zGO hc jS hi).1];exact h12
 ·rw [zAf (by omega)];exact S.hid s ui uU
 ·obtain ⟨ps',h8,_⟩:=qf d ps (by omega) hp
  exact hEd ps' h8
 ·rcases h7 s hs hI with h8 | h8
  ·exact h8
  ·rw [h8];exact zRC hw
theorem St.empty (S:St w0 U Φ0 nt hv a w e Φ rv E L) {d:Nat} (hd:d<nt):∃ L',St w0 U Φ0 nt hv a w (e.set d .bad) Φ rv (upd E d .bad) L':=by
 have kA:=S.small
 have hc:=S.conf.drop fun s=>s==d
 have hE:(fun s=>if (s==d)=true then PV.bad else E s)=upd E d .bad:=by
  funext s;by_cases hs:s=d<;>simp [upd,hs]
 rw [hE] at hc
 refine ⟨_,S.turn hc (fun s hs=>?_) (fun _ _=>rfl) (fun d' ps w5 hp=>?_)⟩
 ·rw [Env.get_set]
  by_cases gR:s=d
  ·subst gR;rw [zAj,if_pos rfl]
  ·rw [zAf gR,if_neg gR];exact S.env s hs
 ·by_cases wY:d'=d
  ·subst wY;rw [zAj] at hp;cases hp
  ·rw [zAf wY] at hp;exact ⟨ps,hp,rfl⟩
theorem St.mark (S:St w0 U Φ0 nt hv a w e Φ rv E L) (hb:zBs E) {d n:Nat} (hd:d<nt) (hn:n≤16) {vs:Array Value} (hs:vs.size=n) (hp:∀ i,i<n→vs[i]? = some (rv (zBw d i))) :
  Fr w0 U Φ0 nt hv (a.put (some d) (.tuple vs)) w (e.set d (.tup (List.replicate n .bad))):=by
 have kA:=S.small
 have hX:Rep w Φ (zA8 w rv E) (.tup (List.replicate n .bad)) (.tuple vs) []:=by
  refine ⟨vs,rfl,?_⟩
  have key:∀ (n:Nat) (us:List Value),us.length=n→zA2 w Φ (zA8 w rv E) (List.replicate n .bad) us []:=by
   intro n
   induction n with
   | zero=>intro us h;rw [List.eq_nil_of_length_eq_zero h];exact ⟨rfl,rfl⟩
   | succ n ih =>
    intro us h
    match us,h with
    | u::us,h=>exact ⟨u,us,[],[],rfl,rfl,rfl,ih us (by simpa using h)⟩
  exact key n vs.toList (by simpa using hs)
 have kQ:(PV.tup (List.replicate n .bad)).heavy=false:=by
  have key:∀ n,zC5 (List.replicate n .bad)=false:=by
   intro n
   induction n with
   | zero=>rfl
   | succ n ih=>simp [List.replicate_succ,zC5,PV.heavy,ih]
  exact key n
 have hc:=S.conf.put (s:=d) kQ hX
 have hds:d<a.tmps.size:=by rw [S.size];exact hd
 refine ⟨_,_,_,_,⟨hc,fun s hs=>?_,by simp only [Act.put,Array.size_setIfInBounds];exact S.size,S.small,fun t ht=>?_,fun d' ps j w5 jh hj=>?_,fun s ui uU=>?_,S.dfr⟩,fun g hg=>?_⟩
 ·rw [Env.get_set]
  by_cases gR:s=d
  ·subst gR;rw [zAj,if_pos rfl]
  ·rw [zAf gR,if_neg gR];exact S.env s hs
 ·rw [Act.put_tmps a hds]
  by_cases vp:t=d
  ·subst vp;simp [zAj]
  ·rw [if_neg vp,zAf vp];exact S.tmps t ht
 ·by_cases wY:d'=d
  ·subst wY
   rw [zAj] at jh
   simp only [PV.tup.injEq] at jh
   rw [← jh] at hj
   simp only [List.length_replicate] at hj
   exact ⟨by omega,vs,zAj,by rw [zAf (by simp only [zBw];omega)];exact hp j hj⟩
  ·rw [zAf wY] at jh
   obtain ⟨jS,us,vH,h12⟩:=S.parts d' ps j w5 jh hj
   exact ⟨jS,us,by rw [zAf wY];exact vH,by rw [zAf (by simp only [zBw];omega)];exact h12⟩
 ·rw [zAf (by simp only [zAl] at ui;omega)];exact S.hid s ui uU
 ·rw [zAf (by simp only [zAb] at hg;omega)];exact hb g hg
theorem zHR {s d:Nat} (hd:d<nt) (hs:s<nt) {vs:Array Value}:∀ (n i:Nat) {e:Env} {rv:Nat→Value} {E:Nat→PV} {L:Nat→List Nat},St w0 U Φ0 nt hv a w e Φ rv E L→zBs E→(∀ ps,E d ≠ .tup ps)→i+n≤16→vs.size=i+n →
  (∀ j,j<i→vs[j]? = some (rv (zBw d j)))→(∀ j,i≤j→j<i+n→vs[j]? = some (rv (zBw s j)))→(zFK s d i n).run o e=some e'→Fr w0 U Φ0 nt hv (a.put (some d) (.tuple vs)) w e'
 | 0,i,e,rv,E,L,S,hb,hE,gQ,yD,h1,h2,h=>by
  simp only [zFK,PM.run,Option.some.injEq] at h;subst h
  exact S.mark hb hd (by omega) (by simpa using yD) h1
 | n + 1,i,e,rv,E,L,S,hb,hE,gQ,yD,h1,h2,h=>by
  have kA:=S.small
  have hvg:zBw s i<zAb:=by simp only [zBw,zAb];omega
  simp only [zFK,PM.run] at h
  split at h
  ·cases h
  ·have hc:=S.conf.take (s:=zBw s i) (g:=zAb) hvg (Nat.le_refl _)
   have S1:=S.turn (e':=e.set (zBw s i) .bad) hc (fun t ht=>by
    rw [zAf (by omega),Env.get_set]
    by_cases ut:t=zBw s i
    ·subst ut;rw [zAj,if_pos rfl]
    ·rw [zAf ut,if_neg ut];exact S.env t ht) (fun t ht=>zAf (by omega)) (fun d ps hd hp=>by
    rw [zAf (by simp only [zAb];omega),zAf (by simp only [zBw];omega)] at hp;exact ⟨ps,hp,rfl⟩)
   obtain ⟨e2,E2,L2,k1,S2,k2,k3,k4⟩:=S1.layPart (i:=i) (g:=zAb) hd (by omega) (Nat.le_refl _) (fun ps hp=>by
    rw [zAf (by simp only [zAb];omega),zAf (by simp only [zBw];omega)] at hp;exact hE ps hp) (by rw [zAj,S.env _ hvg];exact h)
   have j3:∀ t,t<zAb→upd (upd rv zAb (rv (zBw s i))) (zBw d i) (upd rv zAb (rv (zBw s i)) zAb) t=if t=zBw d i then rv (zBw s i) else rv t:=by
    intro t ht
    by_cases vp:t=zBw d i
    ·subst vp;rw [zAj,zAj,if_pos rfl]
    ·rw [zAf vp,zAf (by omega),if_neg vp]
   have yK:∀ x j,x<nt→j<16→zBw x j<zAb:=by intro x j hx hj;simp only [zBw,zAb];omega
   refine zHR hd hs n (i+1) S2 (fun t ht=>?_) k2 (by omega) (by omega) (fun j hj=>?_) (fun j hj1 hj2=>?_) k1
   ·by_cases yk:t=zAb
    ·subst yk;exact k3
    ·rw [k4 t ht yk (by rw [zAf yk,zAf (by omega),hb t ht];simp [PV.ways]),zAf yk,zAf (by omega)];exact hb t ht
   ·rw [j3 _ (yK d j hd (by omega))]
    by_cases vw:j=i
    ·subst vw;rw [if_pos rfl];exact h2 j (by omega) (by omega)
    ·rw [if_neg fun hc=>vw (zGO hc (by omega) (by omega)).2];exact h1 j (by omega)
   ·rw [j3 _ (yK s j hs (by omega)),if_neg fun hc=>by have:=(zGO hc (by omega) (by omega)).2;omega]
    exact h2 j (by omega) (by omega)
theorem zVQ (S:St w0 U Φ0 nt hv a w e Φ rv E L) (hb:zBs E) {d:Option Nat} (hd:∀ x,d=some x→x<nt) {t:TypeId} {x:Operand} (hx:zAQ nt x=true) (h:(zQ8 P d t x).run o e=some e'):Fr w0 U Φ0 nt hv (a.put d (a.eval x)) w e':=by
 have gen:(opd x (put d)).run o e=some e'→Fr w0 U Φ0 nt hv (a.put d (a.eval x)) w e':=by
  intro h
  obtain ⟨p,h1,h2⟩:=zBv S hx h
  exact zAw S hb hd h1 h2
 simp only [zQ8] at h
 split at h
 ·simp only [zUc] at h
  split at h
  ·exact zAw S hb hd h (.inl ⟨rfl,rfl,rfl⟩)
  ·cases h
 ·rename_i s
  have hs:s<nt:=zB3 hx
  have kA:=S.small
  have yg:(s:Nat)<zAb:=Nat.lt_of_lt_of_le hs (Nat.le_trans S.small (by decide))
  simp only [zL1] at h
  split at h
  ·rename_i ts d' _
   simp only [PM.run] at h
   split at h
   ·cases h
   ·split at h
    ·rename_i ps y1
     obtain ⟨⟨hZ,gQ⟩,h1⟩:=zDk h
     simp only [PM.run] at h1
     have hE:E s = .tup ps:=by rw [S.env s yg,y1]
     have hX:=S.conf.rep s
     rw [hE] at hX
     obtain ⟨vs,kd,hr⟩:=hX
     have js:vs.size=ps.length:=by have:=hr.length;simpa using this
     have uL:a.eval (.tmp s) = .tuple vs:=by rw [← kd];exact S.tmps s hs
     obtain ⟨L',S1⟩:=S.empty (hd d' rfl)
     rw [uL]
     refine zHR (vs:=vs) (hd d' rfl) hs ts.size 0 S1 (fun g hg=>?_) (fun ps hp=>by rw [zAj] at hp;cases hp) (by omega) (by omega) (fun j hj=>by omega) (fun j _ hj=>?_) h1
     ·rw [zAf (by have:=hd d' rfl;simp only [zAb] at hg;omega)];exact hb g hg
     ·obtain ⟨_,us,g1,g2⟩:=S.parts s ps j hs hE (by omega)
      rw [kd] at g1;cases g1;exact g2
    ·cases h
  ·exact gen h
 ·exact gen h
theorem zE0 {d:Nat} (hd:d<nt) {vs:Array Value}:∀ (ps:List PV) (i:Nat) {e:Env} {rv:Nat→Value} {E:Nat→PV} {L:Nat→List Nat},St w0 U Φ0 nt hv a w e Φ rv E L→(∀ ps,E d ≠ .tup ps)→i+ps.length≤16→vs.size=i+ps.length →
  (∀ j p,ps[j]? = some p→E (zAb+i+j)=p∧vs[i+j]? = some (rv (zAb+i+j)))→(∀ g,zAb≤g→(∀ j,j<ps.length→g≠zAb+i+j)→E g = .bad)→(∀ x∈zBA ps,zJH d x.1=false) →
  (∀ j,j<i→vs[j]? = some (rv (zBw d j)))→(zEU d i ps .ok).run o e=some e'→Fr w0 U Φ0 nt hv (a.put (some d) (.tuple vs)) w e'
 | [],i,e,rv,E,L,S,hE,gQ,yD,hp,hb,hw,h1,h=>by
  simp only [zEU,PM.run,Option.some.injEq] at h;subst h
  exact S.mark (fun g hg=>hb g hg (by simp)) hd (by simpa using gQ) (by simpa using yD) h1
 | p :: ps,i,e,rv,E,L,S,hE,gQ,yD,hp,hb,hw,h1,h=>by
  have kA:=S.small
  simp only [List.length_cons] at gQ yD
  obtain ⟨q1,q2⟩:=hp 0 p rfl
  simp only [Nat.add_zero] at q1 q2
  simp only [zEU] at h
  rw [← q1] at h
  obtain ⟨e2,E2,L2,k1,S2,k2,k3,k4⟩:=S.layPart (i:=i) (g:=zAb+i) hd (by omega) (by omega) hE h
  have hvd:zBw d i<zAb:=by simp only [zBw,zAb];omega
  have hinp:∀ j,j<16→zJH d (zBw d j)=true:=by
   intro j hj
   simp only [zJH,Bool.and_eq_true]
   exact ⟨Nat.ble_eq_true_of_le (by simp only [zBw];omega),Nat.ble_eq_true_of_le (by simp only [zBw];omega)⟩
  have hkeep:∀ j p',ps[j]? = some p'→E2 (zAb+(i+1)+j)=p':=by
   intro j p' hj
   obtain ⟨q3,_⟩:=hp (j+1) p' (by simpa using hj)
   have e1:zAb+i+(j+1)=zAb+(i+1)+j:=by omega
   rw [e1] at q3
   rw [k4 _ (by omega) (by omega) (fun x hx hc=>?_),q3]
   rw [q3] at hx
   have:=hw x (by
    simp only [zBA,List.mem_append]
    exact .inr (zLZ (List.mem_of_getElem? hj) hx))
   rw [hc,hinp i (by omega)] at this;cases this
  refine zE0 hd ps (i+1) S2 k2 (by omega) (by omega) (fun j p' hj=>⟨hkeep j p' hj,?_⟩) (fun g hg hI=>?_) (fun x hx=>hw x (by simp [zBA,hx])) (fun j hj=>?_) k1
  ·obtain ⟨_,q4⟩:=hp (j+1) p' (by simpa using hj)
   have e1:zAb+i+(j+1)=zAb+(i+1)+j:=by omega
   have e2:i+(j+1)=i+1+j:=by omega
   rw [e1,e2] at q4
   rw [zAf (by omega)];exact q4
  ·by_cases hgi:g=zAb+i
   ·subst hgi;exact k3
   ·have vJ:E g = .bad:=hb g hg fun j hj hc=>by
     cases j with
     | zero=>exact hgi (by simpa using hc)
     | succ j=>exact hI j (by simpa using hj) (by omega)
    rw [k4 g hg hgi (by rw [vJ];simp [PV.ways]),vJ]
  ·by_cases vw:j=i
   ·subst vw;rw [zAj];exact q2
   ·rw [zAf fun hc=>vw (zGO hc (by omega) (by omega)).2];exact h1 j (by omega)
end
end Go.Eng
namespace Go.Eng
open Go
section
variable {P:Program} {w0 w:World} {U Φ0 Φ:Nat→Prop} {nt:Nat} {hv:Hid} {a:Act} {e e':Env} {rv:Nat→Value} {E:Nat→PV} {L:Nat→List Nat} {o:zAF} {A:Al}
theorem zOe {r:Nat} {pre:zAU} {z lo n i:Nat} {sh:Option Nat} {v:Value} (hp:Rep w Φ (zA8 w rv E) (.bor r pre z lo n) v []) (yK:i<n) :
  ∃ b cap,v = .slice (some b) n cap∧b.spot=none∧Rep w Φ (zA8 w rv E) (.addr r pre (lo+i) 0 sh) (.pointer (some (b.add (i*z)))) []:=by
 obtain ⟨_,hg,⟨x,cap,rfl,yR,yV,y8⟩,hn⟩:=hp
 cases x with
 | none=>have:=yV rfl;omega
 | some b =>
  refine ⟨b,cap,rfl,y8 b rfl,rfl,hg,b.add (i*z),rfl,by rw [zBZ (y8 b rfl)];rfl,fun nv np hf a' ha=>?_⟩
  have hh:np.heavy0=true:=by cases np<;>first | rfl | (simp [zBa] at ha;done)
  obtain ⟨sz,xs,h3,h4,h5⟩:=hn nv np hf hh
  subst h3;subst h4
  cases nv<;>simp only [zBK] at h5
  rename_i y l c
  cases y with
  | none=>cases ha
  | some y =>
   simp only [zBK,Value.slice.injEq,Option.some.injEq] at h5
   simp only [zBa,Option.some.injEq] at ha
   rw [← ha,zBZ (y8 b rfl),h5.1.1]
   simp [zAt,Nat.add_mul,Nat.add_assoc]
theorem zJf {p:PV} (h:p.plain=true):∀ q∈p.cells,q.oneCell=true:=by
 have h0:∀ p:PV,p.plain0=true→p.oneCell=true:=by intro p h;cases p<;>first | rfl | cases h
 cases p<;>first | (intro q hq;simp only [PV.cells,List.mem_singleton] at hq;subst hq;exact h0 _ h) | skip
 rename_i cs
 intro q hq
 simp only [PV.plain,List.all_eq_true] at h
 exact h0 q (h q hq)
theorem zLq {row:Array Value} {o:Nat} {xs ys:List Value} (h:o+xs.length+ys.length≤row.size):zBi (zBi row o xs) (o+xs.length) ys=zBi row o (xs++ys):=by
 apply Array.ext'
 simp only [zBi,List.length_append]
 rw [List.take_append_of_le_length (by simp;omega),List.take_of_length_le (by simp;omega)]
 have:List.drop (o+xs.length+ys.length) (List.take o row.toList++xs++List.drop (o+xs.length) row.toList)=List.drop (o+(xs.length+ys.length)) row.toList:=by
  rw [List.drop_append,List.drop_of_length_le (by simp;omega)]
  simp
  congr 1;omega
 rw [this];simp
theorem zKR {p:PV} (h:p.plain=true):p.heavy=false∧p.ways=[]:=by
 have h0:∀ p:PV,p.plain0=true→p.heavy=false∧p.ways=[]:=by
  intro p h
  cases p<;>first | (cases h;done) | exact ⟨rfl,rfl⟩ | skip
  simp only [PV.plain0] at h
  exact ⟨rfl,by simpa [PV.ways] using h⟩
 cases p<;>first | exact h0 _ h | skip
 rename_i cs
 simp only [PV.plain] at h
 have key:∀ cs:List PV,cs.all PV.plain0=true→zC5 cs=false∧zBA cs=[]:=by
  intro cs
  induction cs with
  | nil=>intro _;exact ⟨rfl,rfl⟩
  | cons c cs ih =>
   intro h
   simp only [List.all_cons,Bool.and_eq_true] at h
   obtain ⟨h1,h2⟩:=h0 c h.1
   obtain ⟨h3,h4⟩:=ih h.2
   exact ⟨by simp [zC5,h1,h3],by simp [zBA,h2,h4]⟩
 exact key cs h
theorem zK8 {r:Nat} {pre:zAU} {z lo n:Nat} {v:Value} {k:PM} (hz:0<z):∀ (ys:List PV) (us:List Value) (j:Nat) {w:World} {e:Env} {rv:Nat→Value} {E:Nat→PV} {L:Nat→List Nat},St w0 U Φ0 nt hv a w e Φ rv E L→E (zAb+2) = .bor r pre z lo n→rv (zAb+2)=v→(∀ s,zAb≤s→s≠zAb+2→E s = .bad) →
  (∀ y∈ys,y.plain=true∧y.cells.length=z)→(us.map zCi=ys.map PV.isAgg)→zA2 w Φ zCe ys us []→j+ys.length≤n→(zGo r pre (lo+j) ys k).run o e=some e' →
  ∃ w1 e1 rv1 E1 L1,k.run o e1=some e'∧St w0 U Φ0 nt hv a w1 e1 Φ rv1 E1 L1∧(∀ s,zAb≤s→s≠zAb+2→E1 s = .bad)∧(E1 (zAb+2) = .bor r pre z lo n∧rv1 (zAb+2)=v) ∧
   (ys=[]∧w1=w∨∃ b cap row,v = .slice (some b) n cap∧b.spot=none∧zEl w b.block row∧b.off+j*z+(flat us).length≤row.size∧(∀ u∈flat us,u.oneCell'=true)∧w1=w.setRow b.block (zBi row (b.off+j*z) (flat us)))
 | [],us,j,w,e,rv,E,L,S,hE,j3,hb,hy,jb,hr,hl,h=>⟨w,e,rv,E,L,h,S,hb,⟨hE,j3⟩,.inl ⟨rfl,rfl⟩⟩
 | y :: ys,us,j,w,e,rv,E,L,S,hE,j3,hb,hy,jb,hr,hl,h=>by
  obtain ⟨u,us',L1,L2,rfl,hL,kh,jI⟩:=hr
  have vl:=List.append_eq_nil_iff.1 hL.symm
  obtain ⟨rfl,rfl⟩:=vl
  simp only [List.map_cons,List.cons.injEq] at jb
  simp only [zGo] at h
  obtain ⟨uu,hyz⟩:=hy y (by simp)
  obtain ⟨kQ,yu⟩:=zKR uu
  have qC:=S.conf.rep (zAb+2)
  rw [hE,j3] at qC
  have ur:L (zAb+2)=[]:=qC.1
  rw [ur] at qC
  obtain ⟨b,cap,hv,y4,ku⟩:=zOe (sh:=none) qC (i:=j) (by simp at hl;omega)
  have S1:=S.hold (g:=zAb) (Nat.le_refl _) (p:=y) (v:=u) (kh.mono zDc.refl (fun _ _ _ h=>h.elim) (by simp))
  have qg:=S1.conf.rep (zAb+2)
  rw [zAf (show zAb+2≠zAb by omega),zAf (show zAb+2≠zAb by omega),zAf (show zAb+2≠zAb by omega),hE,j3,ur] at qg
  obtain ⟨b0,cap0,uN,_,vz⟩:=zOe (sh:=none) qg (i:=j) (by simp at hl;omega)
  rw [hv] at uN
  simp only [Value.slice.injEq,Option.some.injEq] at uN
  rw [← uN.1] at vz
  obtain ⟨b',row,e1,E1,L1,yG,hsp',yC,yB,yM,h1,S2,kO,qV,hg3,jL⟩:=S1.write (g:=zAb) (Nat.le_refl _) vz (.inl (by rw [zAj];exact kQ)) (by rw [zAj];exact zJf uu) (by rw [zAj,hyz];omega) (by rw [zAj,zAj];exact jb.1) (k:=zGo r pre (lo+(j+1)) ys k) (by rw [zAj];exact h)
  cases yG
  have hub:u.cells.size=z:=by
   have h1:us'.length=ys.length:=jI.length
   have:=((kh.mono (A':=zCe) zDc.refl (fun _ _ _ h=>h) (by simp)).cellsAll jb.1).length
   simpa [hyz] using this
  have j1:b.add (j*z)=⟨b.block,b.off+j*z,none⟩:=by rw [zBZ y4];rfl
  rw [j1] at yC yB jL S2
  rw [zAj] at yB yM S2
  simp only at yC yB jL S2
  have hnΦ:¬ Φ b.block:=(S1.conf.own _ _ jL).2.1
  have vr:E1 (zAb+2) = .bor r pre z lo n:=by
   rw [hg3 _ (by omega) (by omega),zAf (show zAb+2≠zAb by omega),zAj,hE]
   show zDL _ _ _ _ _ _=_
   exact zI4 (zKJ) kQ _
  obtain ⟨w1,e2,rv2,E2,L2,k1,k2,k3,k3',k4⟩:=zK8 hz ys us' (j+1) S2 vr (by rw [zAf (show zAb+2≠zAb by omega),j3]) (fun s hs hI=>by
   by_cases yg:s=zAb
   ·subst yg;exact kO
   ·exact qV s hs yg (by rw [zAf yg];exact hb s hs hI)) (fun y uK=>hy y (by simp [uK])) jb.2 (jI.mono (fun b' yG=>⟨yG,setRow_other w _ _ _ (fun hc:b'=b.block=>hnΦ (hc▸yG))⟩) (fun _ _ _ h=>h) (by simp)) (by simp at hl;omega) h1
  refine ⟨w1,e2,rv2,E2,L2,k1,k2,k3,k3',.inr ⟨b,cap,row,hv,y4,yC,?_⟩⟩
  have v7:flat (u::us')=u.cells.toList++flat us':=by simp [flat]
  have wx:u.cells.toList.length=z:=by simpa using hub
  rcases k4 with ⟨rfl,rfl⟩ | ⟨b2,cap2,row2,kf,_,hrow2,uZ,hone2,rfl⟩
  ·have:us'=[]:=List.eq_nil_of_length_eq_zero (by have:=jI.length;simpa using this)
   subst this
   rw [v7];simp only [flat,List.flatMap_nil,List.append_nil]
   refine ⟨by rw [wx];omega,yM,?_⟩;first | rfl | trivial
  ·rw [hv] at kf
   simp only [Value.slice.injEq,Option.some.injEq] at kf
   obtain ⟨rfl,_⟩:=kf
   have jG:zEl (w.setRow b.block (zBi row (b.off+j*z) u.cells.toList)) b.block (zBi row (b.off+j*z) u.cells.toList):=by
    obtain ⟨el,y5⟩:=yC;exact ⟨el,setRow_heap w _ _ _ el _ y5⟩
   have:row2=zBi row (b.off+j*z) u.cells.toList:=by
    obtain ⟨e1,h1⟩:=jG;obtain ⟨e2,h2⟩:=hrow2
    rw [h1] at h2;cases h2;rfl
   subst this
   rw [zGH (by rw [wx];omega)] at uZ
   have gS:b.off+(j+1)*z=b.off+j*z+u.cells.toList.length:=by rw [wx,Nat.add_mul];omega
   rw [gS] at uZ ⊢
   refine ⟨by rw [v7,List.length_append];omega,fun x hx=>?_,?_⟩
   ·rw [v7] at hx
    rcases List.mem_append.1 hx with h | h
    ·exact yM x h
    ·exact hone2 x h
   ·rw [setRow_setRow,zLq uZ,v7]
end
end Go.Eng
namespace Go.Eng
open Go
section
variable {P:Program} {w:World}
theorem zEf {t t2 ty el e2:TypeId} {i:TypeInfo} (ht:P.underlying t=some (.slice el)) (kw:P.underlying t2=some (.slice e2)) (hi:P.info? el=some i) {a xb:Option Addr} {sLen sCap n xc:Nat} {news:List Value}
  (uv:(Builtin.firstCells i.size n (.slice xb n xc)).run P w = .ok news.toArray w) (yB:sLen+n≤sCap) (w':World) (yJ:∀ b,a=some b→(storeCells (b.add (sLen*i.size)) news).run P w = .ok () w') (kZ:a=none→w'=w) :
  (Builtin.append_ #[t,t2] ty #[.slice a sLen sCap,.slice xb n xc]).run P w = .ok (.slice a (sLen+n) sCap) w':=by
 cases a with
 | none =>
  rw [kZ rfl]
  simp [Builtin.append_,run_underlying ht,run_underlying kw,sizeOf,typeInfo,hi,Builtin.lenOf,yB,uv]
 | some b =>
  have:=yJ b rfl
  simp [Builtin.append_,run_underlying ht,run_underlying kw,sizeOf,typeInfo,hi,Builtin.lenOf,yB,uv,this]
theorem zFI {t t2 ty el e2:TypeId} {i:TypeInfo} {z:Value} (ht:P.underlying t=some (.slice el)) (kw:P.underlying t2=some (.slice e2)) (hi:P.info? el=some i) (hz:i.zero=some z) {a xb:Option Addr} {sLen sCap n xc:Nat} {old news:List Value}
  (hold:(Builtin.firstCells i.size sLen (.slice a sLen sCap)).run P w.drew = .ok old.toArray w.drew) (uv:(Builtin.firstCells i.size n (.slice xb n xc)).run P w.drew = .ok news.toArray w.drew)
  (yB:¬ sLen+n≤sCap) (h32:sLen+n≤4294967296) (qD:i.bytes≤16384) :
  (Builtin.append_ #[t,t2] ty #[.slice a sLen sCap,.slice xb n xc]).run P w =
   .ok (.slice (some ⟨w.heap.size,0,none⟩) (sLen+n) (grownCap w (sLen+n) sCap el)) (w.drew.alloc (.cells (old.toArray++news.toArray++Builtin.zeroCells z.cells (grownCap w (sLen+n) sCap el-(sLen+n))) el)):=by
 have hgr':¬ (281474976710656<Builtin.nextslicecap (sLen+n) sCap*i.bytes):=by
  have h1:(sLen+n)*i.bytes≤4294967296*16384:=Nat.mul_le_mul h32 qD
  have:=growslice_fits (need:=sLen+n) (old:=sCap) (bytes:=i.bytes) (by omega) (by omega)
  omega
 have h63':¬ (9223372036854775807<((sLen:Int)+(n:Int))):=by omega
 simp [Builtin.append_,run_underlying ht,run_underlying kw,sizeOf,typeInfo,zeroValue,hi,hz,Builtin.lenOf,yB,h63',hgr',Question.forced,hold,uv,newRow,grownCap]
 congr 2
 apply Array.ext'
 simp [List.append_assoc]
end
section
variable {P:Program} {w0 w:World} {U Φ0 Φ:Nat→Prop} {nt:Nat} {hv:Hid} {a:Act} {e e':Env} {rv:Nat→Value} {E:Nat→PV} {L:Nat→List Nat} {o:zAF}
structure Listed (w:World) (Φ:Nat→Prop) (v:Value) (ys:List PV) (us:List Value) (Ly:List Nat):Prop where
 val:∃ xb xc,v = .slice xb ys.length xc∧∀ sz,(∀ y∈ys,y.cells.length=sz)→∀ (P:Program) (w1:World),(∀ t,w1.cell? t=w.cell? t)→(Builtin.firstCells sz ys.length v).run P w1 = .ok (flat us).toArray w1
 reps:zA2 w Φ zCe ys us Ly
 size:∀ sz,(∀ y∈ys,y.cells.length=sz)→∀ u∈us,u.cells.size=sz
 agg:us.map zCi=ys.map PV.isAgg
theorem zIf {b:Addr} {n xc sz:Nat} {us:List Value} (y4:b.spot=none) {row:Array Value} (yC:zJq w b.block row) (hl:us.length=n) (yD:∀ u∈us,u.cells.size=sz) (h:seg row b.off (n*sz)=flat us) (P:Program) (w1:World) (hw:∀ t,w1.cell? t=w.cell? t) :
  (Builtin.firstCells sz n (.slice (some b) n xc)).run P w1 = .ok (flat us).toArray w1:=by
 refine run_firstCells_some w1 sz n b n xc (flat us) (by rw [zBr yD,hl]) fun j v hj=>?_
 rw [hw]
 exact zHS y4 yC (by rw [zBr yD,hl];exact h) j v hj
theorem zEM {v:Value} {xb:Option Addr} {xc:Nat} (hv:v = .slice xb 0 xc):Listed w Φ v [] [] []:=by
 refine ⟨⟨xb,xc,hv,fun sz _ P w1 _=>?_⟩,⟨rfl,rfl⟩,by simp,rfl⟩
 subst hv
 cases xb with
 | none=>exact run_firstCells_none w1 sz 0 0 xc
 | some b=>exact run_firstCells_some w1 sz 0 b 0 xc [] (by simp) (by simp)
theorem zF9 {A:Al}:∀ {ys:List PV} {us:List Value} {Ly:List Nat},(∀ y∈ys,y.plain=true)→zA2 w Φ A ys us Ly→Ly=[]
 | [],_,_,_,h=>h.2
 | y::ys,us,Ly,hp,h=>by
  obtain ⟨v,vs,L1,L2,rfl,rfl,h1,h2⟩:=h
  rw [zDf _ _ _ (zKR (hp y (by simp))).1 h1,zF9 (fun z hz=>hp z (by simp [hz])) h2];rfl
theorem zPD {c:Array Value} {o m n:Nat} (h:m≤n):seg c o m=(seg c o n).take m:=by
 simp only [seg,List.take_take];rw [Nat.min_eq_left h]
theorem zMv (S:St w0 U Φ0 nt hv a w e Φ rv E L) {p:PV} {v:Value} (hp:Rep w Φ (zA8 w rv E) p v []) {k:List PV→PM} (h:(zGN p k).run o e=some e'):∃ ys us Ly,(k ys).run o e=some e'∧Listed w Φ v ys us Ly:=by
  cases p<;>simp only [zGN] at h<;>try (cases h;done)
  case nils=>exact ⟨[],[],[],h,zEM hp.1⟩
  case nn =>
    obtain ⟨_,b,n,yE⟩:=hp
    exact ⟨[],[],[],h,zEM yE⟩
  case sl xs =>
    obtain ⟨_,⟨rfl,b,n,yE,_⟩ | ⟨b,n,c,us,sz,yE,y4,yN,hΦ,yC,jZ,⟨kb,wk⟩,y6,hr⟩⟩:=hp
    · exact ⟨[],[],[],h,zEM yE⟩
    · have hl:us.length=xs.length:=by have:=congrArg List.length wk;simpa using this
      refine ⟨xs,us,[],h,⟨some b,n,yE,fun sz' jN P w1 hw=>?_⟩,hr,fun sz' jN u hu=>?_,wk⟩
      · by_cases hx:xs=[]
        · subst hx
          have:us=[]:=List.eq_nil_of_length_eq_zero (by simpa using hl)
          subst this;subst yE
          exact run_firstCells_some w1 sz' 0 b 0 n [] (by simp) (by simp)
        · obtain ⟨y,ys,rfl⟩:=List.exists_cons_of_ne_nil hx
          have:sz'=sz:=by rw [← jN y (by simp),jZ y (by simp)]
          subst this;subst yE
          exact zIf y4 yC hl kb y6 P w1 hw
      · cases xs with
        | nil => have h0:us=[]:=List.eq_nil_of_length_eq_zero (by simpa using hl)
                 rw [h0] at hu;cases hu
        | cons y ys=>rw [kb u hu,← jN y (by simp),jZ y (by simp)]
  case bor r pre z lo n =>
    obtain ⟨_,hr,_,hn⟩:=hp
    obtain ⟨q,hq,h1⟩:=zBL h
    split at h1
    · rename_i sz xs
      obtain ⟨yN,h2⟩:=zAJ h1
      have yN:=Nat.le_of_ble_eq_true yN
      rw [← S.env r hr] at hq
      obtain ⟨nv,Li,hf,_,hX⟩:=zBO (zB7 (S.conf.rep r)) hq
      obtain ⟨sz2,xs2,g1,g2,g3⟩:=hn nv _ hf rfl
      cases g1;subst g2
      obtain ⟨q1,q2,q3⟩ | ⟨x,m,c,us,M,q0,q1,q2,q3,q4,q5,q6,⟨q7,q7'⟩,q8,q9⟩:=hX
      · subst q1;subst q3
        have kK:n=0:=by simp at yN;omega
        subst kK
        simp only [zBK] at g3
        refine ⟨_,[],[],h2,?_⟩
        simp only [List.drop_nil,List.take_nil]
        exact zEM g3.1
      · subst q1
        simp only [zBK] at g3
        obtain ⟨yE,yR⟩:=g3
        have jB:us.length=xs.length:=by have:=congrArg List.length q7';simpa using this
        obtain ⟨Ly,_,wq⟩:=zGs q9 lo n
        have hZ:((xs.drop lo).take n).length=n:=by simp;omega
        have qh:((us.drop lo).take n).length=n:=by simp;omega
        refine ⟨_,(us.drop lo).take n,Ly,h2,⟨_,_,by rw [hZ];exact yE,fun sz' jN P w1 hw=>?_⟩,wq,fun sz' jN u hu=>?_,zA2.map_isAgg q7' lo n⟩
        · rw [hZ,yE]
          by_cases kK:n=0
          · subst kK
            simp only [List.take_zero]
            exact run_firstCells_some w1 sz' 0 _ 0 _ [] (by simp) (by simp)
          · have:sz'=z:=by
              cases jZ:(xs.drop lo).take n with
              | nil=>rw [jZ] at hZ;simp at hZ;omega
              | cons y ys =>
                have hy:y∈(xs.drop lo).take n:=by rw [jZ];simp
                rw [← jN y hy,q6 y (List.mem_of_mem_drop (List.mem_of_mem_take hy))]
            subst this
            exact zIf (b:=zAt x (lo*sz')) rfl q4.any qh (fun u hu=>q7 u (List.mem_of_mem_drop (List.mem_of_mem_take hu))) (zIv q7 jB q8 yN) P w1 hw
        · cases jZ:(xs.drop lo).take n with
          | nil =>
            rw [jZ] at hZ
            have h0:(us.drop lo).take n=[]:=List.eq_nil_of_length_eq_zero (by rw [qh];simpa using hZ.symm)
            rw [h0] at hu;cases hu
          | cons y ys =>
            have hy:y∈(xs.drop lo).take n:=by rw [jZ];simp
            rw [q7 u (List.mem_of_mem_drop (List.mem_of_mem_take hu)),← jN y hy,q6 y (List.mem_of_mem_drop (List.mem_of_mem_take hy))]
    · cases h1
  case bsl r pre i c sz ag n =>
    obtain ⟨_,hr,b,cap,yE,yR,y4,hn⟩:=hp
    simp only [PM.run] at h
    split at h
    · rename_i g cs hq
      rw [← S.env r hr] at hq
      obtain ⟨nv,np,ad,us,h1,h2,h3,h4,h5,h6⟩:=S.conf.cells hr hq
      have:=hn nv np h1 ad h2;subst this
      obtain ⟨hc,h7⟩:=zAJ h
      simp only [Bool.and_eq_true,zCm] at hc
      obtain ⟨⟨yO,vX⟩,uu⟩:=hc
      have yO:=Nat.eq_of_beq_eq_true yO
      have hw0:∀ (cs:List PV),cs.all (fun q=>q.plain0)=true→zBA cs=[]:=by
        intro cs
        induction cs with
        | nil=>intro _;rfl
        | cons c cs ih =>
          intro h
          simp only [List.all_cons,Bool.and_eq_true] at h
          have v6:c.ways=[]:=by
            have h0:=h.1
            cases c<;>first | (cases h0;done) | rfl | skip
            simpa [PV.plain0,PV.ways] using h0
          simp [zBA,v6,ih h.2]
      have u3:zA2 w Φ zCe cs us []:=h6.ways _ _ _ fun a v hw hx ha=>by
        rw [hw0 cs uu] at hx
        have h1:=zI0 hw ha
        cases uk:a.ways with
        | nil=>exact absurd uk h1
        | cons z zs=>have:=hx z (by rw [uk];simp);cases this
      obtain ⟨us',q1,q2,q3,q4,q5⟩:=zF1 (ag:=ag) (sz:=sz) (fun a v _ h=>h.elim) n cs us yO (fun jb=>by
        simp only [jb,Bool.false_or,Bool.and_eq_true] at vX
        exact ⟨Nat.eq_of_beq_eq_true vX.1,fun q hq=>List.all_eq_true.1 vX.2 q hq⟩) u3
      have hZ:=zD5 ag sz n cs
      refine ⟨_,us',[],h7,⟨some b,cap,by rw [hZ];exact yE,fun sz' jN P w1 hw=>?_⟩,q1,fun sz' jN u hu=>?_,q4⟩
      · rw [hZ,yE,q2]
        by_cases kK:n=0
        · subst kK
          have:us=[]:=List.eq_nil_of_length_eq_zero (by rw [h4];simp)
          subst this
          exact run_firstCells_some w1 sz' 0 b 0 cap [] (by simp) (by simp)
        · have:sz'=sz:=by
            cases jZ:zCp ag sz n cs with
            | nil=>rw [jZ] at hZ;simp at hZ;omega
            | cons y ys =>
              have hy:y∈zCp ag sz n cs:=by rw [jZ];simp
              rw [← jN y hy,q5 y hy]
          subst this
          exact run_firstCells_some w1 sz' n b n cap us h4 (fun j v hj=>by rw [hw];exact h5 j v hj)
      · cases jZ:zCp ag sz n cs with
        | nil =>
          have jB:us'.length=(zCp ag sz n cs).length:=q1.length
          rw [jZ] at jB
          have h0:us'=[]:=List.eq_nil_of_length_eq_zero (by simpa using jB)
          rw [h0] at hu;cases hu
        | cons y ys =>
          have hy:y∈zCp ag sz n cs:=by rw [jZ];simp
          rw [q3 u hu,← jN y hy,q5 y hy]
    · cases h
theorem zST (S:St w0 U Φ0 nt hv a w e Φ rv E L) {g:Nat} (hg:zAb≤g) (uV:E g = .bad) {x:Operand} (hx:zAQ nt x=true) {k:List PV→PM} (h:(zNo x k).run o e=some e') :
  ∃ e1 rv1 E1 L1 ys us Ly,(k ys).run o e1=some e'∧St w0 U Φ0 nt hv a w e1 Φ rv1 E1 L1∧zWk g rv rv1 E E1 L L1∧Listed w Φ (a.eval x) ys us Ly∧Ly.Nodup∧∀ b∈Ly,b∈L1 g:=by
 have hLg:L g=[]:=by have:=S.conf.rep g;rw [uV] at this;exact this
 have copy:∀ {p:PV},Rep w Φ (zA8 w rv E) p (a.eval x) []→(zGN p fun xs=>if xs.all (fun x=>x.plain) then k xs else .fail).run o e=some e' →
   ∃ e1 rv1 E1 L1 ys us Ly,(k ys).run o e1=some e'∧St w0 U Φ0 nt hv a w e1 Φ rv1 E1 L1∧zWk g rv rv1 E E1 L L1∧Listed w Φ (a.eval x) ys us Ly∧Ly.Nodup∧∀ b∈Ly,b∈L1 g:=by
  intro p hp h
  obtain ⟨ys,us,Ly,h1,h2⟩:=zMv S hp h
  obtain ⟨h3,h4⟩:=zDk h1
  have:Ly=[]:=zF9 (fun y hy=>List.all_eq_true.1 h3 y hy) h2.reps
  subst this
  exact ⟨e,rv,E,L,ys,us,[],h4,S,fun _ _ _=>⟨rfl,rfl,rfl⟩,h2,List.nodup_nil,by simp⟩
 cases x with
 | const v=>simp only [zNo] at h;obtain ⟨p,h1,h2⟩:=zBv S hx h;exact copy h2 h1
 | func f=>simp only [zNo] at h;obtain ⟨p,h1,h2⟩:=zBv S hx h;exact copy h2 h1
 | global f=>cases h
 | tmp t =>
  have ht:(t:Nat)<nt:=zB3 hx
  have yk:(t:Nat)<zAb:=Nat.lt_of_lt_of_le ht (Nat.le_trans S.small (by decide))
  have uL:a.eval (.tmp t)=rv t:=S.tmps t ht
  simp only [zNo,PM.run] at h
  split at h
  ·cases h
  ·split at h
   ·rename_i sz xs kq
    simp only [PM.run] at h
    have hE:E t = .own sz xs:=by rw [S.env t yk,kq]
    have hc:=S.conf.take (s:=t) (g:=g) yk hg
    have hgt:t≠g:=by intro hc;subst hc;exact absurd yk (Nat.not_lt.2 hg)
    have S1:=S.turn (e':=e.set t .bad) hc (fun s hs=>by
     rw [zAf (by omega),Env.get_set]
     by_cases yJ:s=t
     ·subst yJ;rw [zAj,if_pos rfl]
     ·rw [zAf yJ,if_neg yJ];exact S.env s hs) (fun s hs=>zAf (by omega)) (fun d ps hd hp=>by
     rw [zAf (by simp only [zAb] at hg;omega)] at hp
     by_cases hdt:d=t
     ·subst hdt;rw [zAj] at hp;cases hp
     ·rw [zAf hdt] at hp;exact ⟨ps,hp,rfl⟩)
    have hX:=S.conf.rep t
    rw [hE] at hX
    have yT:=S.conf.nodup t
    have kz:zWk g rv (upd rv g (rv t)) E (upd (upd E t .bad) g (E t)) L (upd (upd L t []) g (L t)):=by
     intro s hs hI
     have yJ:s≠t:=by intro hc;subst hc;exact absurd yk (Nat.not_lt.2 hs)
     rw [zAf hI,zAf hI,zAf hI,zAf yJ,zAf yJ];exact ⟨rfl,rfl,rfl⟩
    rw [uL]
    obtain ⟨q1,q2,q3⟩ | ⟨x,m,c,us,M,q0,q1,q2,q3,q4,q5,q6,⟨q7,q7'⟩,q8,q9⟩:=hX
    ·subst q1
     exact ⟨_,_,_,_,[],[],[],h,S1,kz,zEM q3,List.nodup_nil,by simp⟩
    ·have jB:us.length=xs.length:=by have:=congrArg List.length q7';simpa using this
     rw [q0] at yT
     refine ⟨_,_,_,_,xs,us,M,h,S1,kz,⟨⟨some x,m,q1,fun sz' jN P w1 hw=>?_⟩,q9,fun sz' jN u hu=>?_,q7'⟩,(List.nodup_cons.1 yT).2,fun b hb=>by rw [zAj,q0];simp [hb]⟩
     ·rw [q1]
      cases xs with
      | nil =>
       have h0:us=[]:=List.eq_nil_of_length_eq_zero (by simpa using jB)
       subst h0
       exact run_firstCells_some w1 sz' 0 x 0 m [] (by simp) (by simp)
      | cons y ys =>
       have:sz'=sz:=by rw [← jN y (by simp),q6 y (by simp)]
       subst this
       exact zIf q2 q4.any jB q7 q8 P w1 hw
     ·cases xs with
      | nil =>
       have h0:us=[]:=List.eq_nil_of_length_eq_zero (by simpa using jB)
       rw [h0] at hu;cases hu
      | cons y ys=>rw [q7 u hu,← jN y (by simp),q6 y (by simp)]
   ·simp only [PM.run] at h
    have hv:=S.conf.view yk
    rw [S.env t yk] at hv
    exact copy (by rw [uL];exact hv) h
theorem zRk {A:Al} {w':World} {z:Value} {sz len m cap:Nat} {xs ys:List PV} {us uys:List Value} {M Ly:List Nat} (hz:z.cells.size=sz) (hZ:us.length=len) (hm:uys.length=m) (vZ:xs.length=len) (kC:ys.length=m)
  (jZ:∀ x∈xs,x.cells.length=sz) (qi:∀ y∈ys,y.cells.length=sz) (vb:∀ u∈us,u.cells.size=sz) (qE:∀ u∈uys,u.cells.size=sz) (jb:us.map zCi=xs.map PV.isAgg) (gT:uys.map zCi=ys.map PV.isAgg)
  (hr:zA2 w' Φ zCe xs us M) (wq:zA2 w' Φ zCe ys uys Ly) (yR:len+m≤cap) {b:Nat} (yC:zEl w' b ((flat us).toArray++(flat uys).toArray++Builtin.zeroCells z.cells (cap-(len+m)))) :
  Rep w' Φ A (.own sz (xs++ys)) (.slice (some ⟨b,0,none⟩) (len+m) cap) (b::(M++Ly)):=by
 have v7:(flat us++flat uys).length=(len+m)*sz:=by rw [List.length_append,zBr vb,zBr qE,hZ,hm,Nat.add_mul]
 refine .inr ⟨⟨b,0,none⟩,cap,_,us++uys,M++Ly,rfl,by simp [vZ,kC],rfl,by simp [vZ,kC,yR],yC,?_,fun x hx=>?_,⟨fun u hu=>?_,by simp [jb,gT]⟩,?_,hr.append wq⟩
 ·simp only [Array.size_append,size_zeroCells,hz]
  have h1:=congrArg (·) v7
  simp at v7
  have:(len+m)*sz+(cap-(len+m))*sz=cap*sz:=by rw [← Nat.add_mul];congr 1;omega
  simp;omega
 ·rcases List.mem_append.1 hx with h | h
  ·exact jZ x h
  ·exact qi x h
 ·rcases List.mem_append.1 hu with h | h
  ·exact vb u h
  ·exact qE u h
 ·rw [zCY,List.length_append,vZ,kC]
  simp only [seg,List.drop_zero,Array.toList_append]
  rw [← v7]
  exact List.take_left
theorem zOx:∀ {ys:List PV} {us:List Value} {Ly:List Nat},zA2 w Φ zCe ys us Ly→us.map zCi=ys.map PV.isAgg→(∀ y∈ys,∀ q∈y.cells,q.oneCell=true)→∀ u∈flat us,u.oneCell'=true
 | [],us,Ly,h,_,_,u,hu=>by rw [h.1] at hu;cases hu
 | y :: ys,us,Ly,h,ha,ho,u,hu=>by
  obtain ⟨v,vs,L1,L2,rfl,rfl,h1,h2⟩:=h
  simp only [List.map_cons,List.cons.injEq] at ha
  rw [zCw] at hu
  rcases List.mem_append.1 hu with hu | hu
  ·have hc:=h1.cellsAll ha.1
   obtain ⟨j,hj⟩:=List.getElem?_of_mem hu
   have jQ:j<y.cells.length:=by rw [← hc.length];exact (List.getElem?_eq_some_iff.1 hj).1
   obtain ⟨v',La,Li',Lb,yE,_,j6,_⟩:=hc.split (i:=j) (List.getElem?_eq_getElem jQ)
   rw [hj] at yE;cases yE
   exact zCb (fun a v _ h=>h.elim) j6 (ho y (by simp) _ (List.getElem_mem jQ))
  ·exact zOx h2 ha.2 (fun z hz=>ho z (by simp [hz])) u hu
theorem St.made (S:St w0 U Φ0 nt hv a w e Φ rv E L) (hb:∀ s,zAb+3≤s→E s = .bad) {d:Option Nat} (hd:∀ x,d=some x→x<nt) {w':World} {p:PV} {v:Value} {Lp:List Nat} (hr:∀ A:Al,Rep w' Φ A p v Lp) (uM:Lp.Nodup)
  (ho:∀ b∈Lp,(∃ t,zAb≤t∧t<zAb+3∧b∈L t)∨(w.heap.size≤b∧b<w'.heap.size)) (hw:w.heap.size≤w'.heap.size)
  (hk:∀ b,b<w.heap.size→(∀ t,zAb≤t→t<zAb+3→b∉L t)→w'.heap[b]? = w.heap[b]?) (uJ:w'.os=w.os∧w'.tape=w.tape∧w'.output=w.output) (h:(put d p).run o e=some e') :
  Fr w0 U Φ0 nt hv (a.put d v) w' e':=by
 have hG:∀ s,decide (zAb≤s∧s<zAb+3)=true↔zAb≤s∧s<zAb+3:=fun s=>decide_eq_true_iff
 have hc:=S.conf.make (w':=w') (fun s=>decide (zAb≤s∧s<zAb+3)) (fun s hs=>((hG s).1 hs).1) (g:=zAb+3) (by omega) (fun A _=>hr A) uM
  (fun b hb=>(ho b hb).imp (fun ⟨t,h1,h2,h3⟩=>⟨t,h3,(hG t).2 ⟨h1,h2⟩⟩) id) hw
  (fun b hb hn=>hk b hb fun t h1 h2 h3=>by have:=hn t h3;rw [(hG t).2 ⟨h1,h2⟩] at this;cases this) uJ
 have S1:=S.turn (e':=e) hc (fun s hs=>by
  rw [zAf (by omega)]
  have:decide (zAb≤s∧s<zAb+3)=false:=decide_eq_false (by omega)
  simp only [this,Bool.false_eq_true,if_false];exact S.env s hs) (fun s hs=>zAf (by omega)) (fun d ps hd hp=>by
  rw [zAf (by simp only [zAb];omega)] at hp
  have:decide (zAb≤d∧d<zAb+3)=false:=decide_eq_false (by simp only [zAb];omega)
  simp only [this,Bool.false_eq_true,if_false] at hp;exact ⟨ps,hp,rfl⟩)
 have:=zFu S1 hd (g:=zAb+3) (by omega) (by rw [zAj];exact h) (fun s hs hI=>by
  rw [zAf hI]
  by_cases h3:s<zAb+3
  ·have:decide (zAb≤s∧s<zAb+3)=true:=(hG s).2 ⟨hs,h3⟩
   simp [this]
  ·have:decide (zAb≤s∧s<zAb+3)=false:=decide_eq_false (by omega)
   simp only [this,Bool.false_eq_true,if_false];exact hb s (by omega))
 rwa [zAj] at this
theorem St.regrown (S:St w0 U Φ0 nt hv a w e Φ rv E L) (hb:∀ s,zAb+3≤s→E s = .bad) {d:Option Nat} (hd:∀ x,d=some x→x<nt) {z:Value} {el:TypeId} {sz len m cap:Nat} {xs ys:List PV} {us uys:List Value} {M Ly:List Nat} (hz:z.cells.size=sz) (hZ:us.length=len) (hm:uys.length=m) (vZ:xs.length=len) (kC:ys.length=m)
  (jZ:∀ x∈xs,x.cells.length=sz) (qi:∀ y∈ys,y.cells.length=sz) (vb:∀ u∈us,u.cells.size=sz) (qE:∀ u∈uys,u.cells.size=sz) (jb:us.map zCi=xs.map PV.isAgg) (gT:uys.map zCi=ys.map PV.isAgg)
  (hr:zA2 w Φ zCe xs us M) (wq:zA2 w Φ zCe ys uys Ly) (yR:len+m≤cap) (qj:∀ b∈M,b∈L (zAb+1)) (qk:∀ b∈Ly,b∈L zAb) (hMn:M.Nodup) (hLn:Ly.Nodup) (h:(put d (.own sz (xs++ys))).run o e=some e') :
  Fr w0 U Φ0 nt hv (a.put d (.slice (some ⟨w.heap.size,0,none⟩) (len+m) cap)) (w.drew.alloc (.cells ((flat us).toArray++(flat uys).toArray++Builtin.zeroCells z.cells (cap-(len+m))) el)) e':=by
 have hold:∀ t,t<w.heap.size→(w.drew.alloc (.cells ((flat us).toArray++(flat uys).toArray++Builtin.zeroCells z.cells (cap-(len+m))) el)).heap[t]? = w.heap[t]?:=fun t ht=>by
  show (w.heap.push _)[t]? = _
  rw [Array.getElem?_push,if_neg (by omega)]
 have hΦ:zDc w (w.drew.alloc (.cells ((flat us).toArray++(flat uys).toArray++Builtin.zeroCells z.cells (cap-(len+m))) el)) Φ Φ:=fun t ht=>⟨ht,hold t (S.conf.frz t ht).1⟩
 refine S.made hb hd (Lp:=w.heap.size::(M++Ly)) (fun A=>zRk hz hZ hm vZ kC jZ qi vb qE jb gT (hr.mono hΦ (fun _ _ _ h=>h) fun b hb=>hold b (S.conf.own _ b (qj b hb)).1) (wq.mono hΦ (fun _ _ _ h=>h) fun b hb=>hold b (S.conf.own _ b (qk b hb)).1) yR ⟨el,?_⟩) ?_ (fun b hb=>?_) ?_ (fun b hb _=>hold b hb) ⟨rfl,rfl,rfl⟩ h
 ·show (w.heap.push _)[w.heap.size]? = _
  simp
 ·refine List.nodup_cons.2 ⟨fun hm=>?_,?_⟩
  ·rcases List.mem_append.1 hm with hm | hm
   ·exact absurd (S.conf.own _ _ (qj _ hm)).1 (Nat.lt_irrefl _)
   ·exact absurd (S.conf.own _ _ (qk _ hm)).1 (Nat.lt_irrefl _)
  ·rw [List.nodup_append]
   exact ⟨hMn,hLn,fun x hx y hy e=>S.conf.disj (zAb+1) zAb (by omega) x (qj x hx) (e▸qk y hy)⟩
 ·rcases List.mem_cons.1 hb with rfl | hb
  ·exact .inr ⟨Nat.le_refl _,by show _<(w.heap.push _).size;simp⟩
  ·rcases List.mem_append.1 hb with hb | hb
   ·exact .inl ⟨zAb+1,by omega,by omega,qj b hb⟩
   ·exact .inl ⟨zAb,by omega,by omega,qk b hb⟩
 ·show _≤(w.heap.push _).size
  simp
theorem zNP (S1:St w0 U Φ0 nt hv a w e Φ rv E L) (yi:∀ s,zAb≤s→s≠zAb→s≠zAb+2→E s = .bad) {d:Option Nat} (hd:∀ x,d=some x→x<nt) {t t2 ty el e2:TypeId} {i:TypeInfo} {vx vy:Value} {r:Nat} {pre:zAU} {zz lo n s sz:Nat} {xs ys:List PV} {uys:List Value} {Ly:List Nat} {xb:Option Addr} {xc:Nat}
  (hE2:E (zAb+2) = .bor r pre zz lo n) (hrv2:rv (zAb+2)=vx) (gU:(Builtin.firstCells sz ys.length (.slice xb ys.length xc)).run P w = .ok (flat uys).toArray w) (jO:zA2 w Φ zCe ys uys Ly) (jv:∀ y∈ys,y.cells.length=sz) (jx:uys.map zCi=ys.map PV.isAgg)
  (hq:zAz (E r).unlock pre=some (.own s xs)) (hs:s=sz) (ht:P.underlying t=some (.slice el)) (kw:P.underlying t2=some (.slice e2)) (hi:P.info? el=some i) (yr:i.size=sz) (vK:vy = .slice xb ys.length xc) (uY:Nat.beq (lo+n) xs.length=false)
  (h:(zLc d r pre zz lo n s xs ys).run o e=some e'):∃ v w',(Builtin.append_ #[t,t2] ty #[vx,vy]).run P w = .ok v w'∧Fr w0 U Φ0 nt hv (a.put d v) w' e':=by
 subst hs
 obtain ⟨hc,h1⟩:=zAJ h
 simp only [Bool.and_eq_true,List.all_eq_true] at hc
 obtain ⟨⟨⟨c1,c2⟩,c3⟩,c4⟩:=hc
 have c1:=zB3 c1
 have c2:=Nat.eq_of_beq_eq_true c2
 have c3:=Nat.le_of_ble_eq_true c3
 subst c2
 have qk:Ly=[]:=zF9 c4 jO
 subst qk
 have h2:=S1.conf.drop fun s=>s==zAb
 have S2:=S1.turn (e':=e) h2 (fun s hs=>by
  have:(s==zAb)=false:=by simp;omega
  simp only [this,Bool.false_eq_true,if_false];exact S1.env s hs) (fun _ _=>rfl) (fun d ps hd hp=>by
  have:(d==zAb)=false:=by simp only [zAb,beq_eq_false_iff_ne];omega
  simp only [this,Bool.false_eq_true,if_false] at hp;exact ⟨ps,hp,rfl⟩)
 have hp:=S2.conf.rep (zAb+2)
 have qV:((zAb+2:Nat)==zAb)=false:=by simp
 simp only [qV,Bool.false_eq_true,if_false] at hp
 rw [hE2,hrv2] at hp
 obtain ⟨_,hr,⟨b,cap,yE,yR,w7,jy⟩,hn⟩:=hp
 have jq:(r==zAb)=false:=by simp;omega
 obtain ⟨nv,Li,hf,_,hX⟩:=zBO (zB7 (S2.conf.rep r)) (by simp only [jq,Bool.false_eq_true,if_false];exact hq)
 obtain ⟨sz2,xs2,g1,g2,g3⟩:=hn nv _ hf rfl
 cases g1
 obtain ⟨q1,q2,q3⟩ | ⟨x,m,c,us,M,q0,q1,q2,q3,q4,q5,q6,⟨q7,q7'⟩,q8,q9⟩:=hX
 ·subst q1
  have:lo+n=0:=by simp at c3;omega
  rw [this] at uY;cases uY
 ·subst q1
  simp only [zBK] at g3
  obtain ⟨g3,g4⟩:=g3
  have hZ:lo+n+ys.length≤m:=by omega
  have hw:Rep w Φ (zA8 w rv fun s=>if (s==zAb)=true then .bad else E s) (.bor r pre zz lo (n+ys.length)) (.slice (some (zAt x (lo*zz))) (n+ys.length) (m-lo)) []:=by
   refine ⟨rfl,hr,⟨_,_,rfl,by omega,by simp,fun b hb=>by simp only [Option.some.injEq] at hb;rw [← hb];rfl⟩,fun nv' np' yq hh=>?_⟩
   rw [hf] at yq
   cases yq
   exact ⟨_,_,rfl,rfl,rfl,by omega⟩
  have S3:=S2.hold (g:=zAb+2) (by omega) hw
  obtain ⟨w1,e1,rv1,E1,L1,k1,S4,k3,⟨k5,k6⟩,k4⟩:=zK8 (z:=zz) (lo:=lo) (n:=n+ys.length) (v := .slice (some (zAt x (lo*zz))) (n+ys.length) (m-lo)) c1 ys uys n S3 zAj zAj (fun s hs hI=>by
   rw [zAf hI]
   by_cases yg:s=zAb
   ·subst yg;simp
   ·have:(s==zAb)=false:=by simpa using yg
    simp only [this,Bool.false_eq_true,if_false];exact yi s hs yg hI) (fun y hy=>⟨c4 y hy,jv y hy⟩) jx jO (Nat.le_refl _) h1
  have yI:=zFu S4 hd (g:=zAb+2) (by omega) (by rw [k5];exact k1) k3
  rw [k6] at yI
  refine ⟨_,w1,?_,yI⟩
  rw [g3,vK]
  have yB:n+ys.length≤m-lo:=by omega
  rcases k4 with ⟨rfl,rfl⟩ | ⟨b',cap',row,kf,y4,yC,hrm,yM,rfl⟩
  ·have jB:uys=[]:=List.eq_nil_of_length_eq_zero (by have:=jO.length;simpa using this)
   subst jB
   exact zEf (i:=i) ht kw hi (by rw [yr];exact gU) yB w1 (fun b hb=>by simp [storeCells,flat]) (by simp)
  ·simp only [Value.slice.injEq,Option.some.injEq] at kf
   obtain ⟨rfl,_,_⟩:=kf
   obtain ⟨et,jj⟩:=yC
   have yJ:=run_storeCells_at (P:=P) (zAt x (lo*zz)).block ((zAt x (lo*zz)).off+n*zz) et (flat uys) 0 row w jj (by simpa using hrm) yM
   simp only [Nat.add_zero] at yJ
   have gV:(zAt x (lo*zz)).add (n*zz)=⟨(zAt x (lo*zz)).block,(zAt x (lo*zz)).off+n*zz,none⟩:=by rw [zBZ rfl];rfl
   exact zEf (i:=i) ht kw hi (by rw [yr];exact gU) yB _ (fun b hb=>by cases hb;rw [yr,gV];exact yJ) (by simp)
theorem zRM (S:St w0 U Φ0 nt hv a w e Φ rv E L) (hb:zBs E) {d:Option Nat} (hd:∀ x,d=some x→x<nt) {t t2 ty:TypeId} {x y:Operand} (hx:zAQ nt x=true) (hy:zAQ nt y=true)
  (h:(zBu P d .append [t,t2] [x,y]).run o e=some e'):∃ v w',(Builtin.append_ #[t,t2] ty #[a.eval x,a.eval y]).run P w = .ok v w'∧Fr w0 U Φ0 nt hv (a.put d v) w' e':=by
 simp only [zBu] at h
 cases j2:(zBW P t2).isNone with
 | true=>rw [j2] at h;cases h
 | false =>
 rw [j2] at h;simp only [cond_false] at h
 have kw:∃ e2,P.underlying t2=some (.slice e2):=by
  cases he:zBW P t2 with
  | none=>rw [he] at j2;cases j2
  | some e2=>exact ⟨e2,zCC he⟩
 obtain ⟨e2,kw⟩:=kw
 split at h
 ·rename_i sz by_ z yD qD hzz
  obtain ⟨⟨hby16,kR⟩,h1⟩:=zDk h
  cases y5:zBW P t with
  | none=>rw [y5] at yD;cases yD
  | some el =>
   rw [y5] at yD qD hzz
   simp only [Option.bind_some] at yD qD hzz
   have ht:=zCC y5
   obtain ⟨i,hi,yr⟩:=zCq yD
   have hib:i.bytes=by_:=by simp only [zHX,hi,Option.map_some,Option.some.injEq] at qD;exact qD
   obtain ⟨i2,z0,vV,kM,_,kL⟩:=zDJ hzz
   rw [hi] at vV;cases vV
   have qF:z0.cells.size=sz:=by rw [(zCj (w:=w) (Φ:=Φ) (A:=zCe) kL).2.1,kR]
   obtain ⟨p,h2,hp⟩:=zBv S hx h1
   have S0:=S.hold (g:=zAb+2) (by omega) hp
   obtain ⟨e1,rv1,E1,L1,ys,uys,Ly,h3,S1,kz,kS,qG,hLyg⟩:=zST S0 (g:=zAb) (Nat.le_refl _) (by rw [zAf (show zAb≠zAb+2 by omega)];exact hb _ (Nat.le_refl _)) hy h2
   obtain ⟨⟨xb,xc,vK,yQ⟩,jO,wA,jx⟩:=kS
   simp only [zK5] at h3
   obtain ⟨hc,h4⟩:=zAJ h3
   simp only [Bool.and_eq_true] at hc
   have jv:∀ q∈ys,q.cells.length=sz:=fun q hq=>by
    have:=List.all_eq_true.1 hc.1 q hq
    simp only [Bool.and_eq_true] at this
    exact Nat.eq_of_beq_eq_true this.1
   have uA:=wA sz jv
   have vL:uys.length=ys.length:=jO.length
   have j0:=kz (zAb+2) (by omega) (by omega)
   rw [zAj,zAj,zAj] at j0
   have uB:=S1.conf.rep (zAb+2)
   rw [j0.1,j0.2.1,j0.2.2] at uB
   have kD:∀ s,zAb≤s→s≠zAb→s≠zAb+2→E1 s = .bad:=fun s hs h1 h2=>by rw [(kz s hs h1).1,zAf h2];exact hb s hs
   have yM:∀ u∈flat uys,u.oneCell'=true:=zOx jO jx fun q hq z hz=>by
    have:=List.all_eq_true.1 hc.1 q hq
    simp only [Bool.and_eq_true] at this
    exact List.all_eq_true.1 this.2 z hz
   have yi:∀ s,zAb+3≤s→E1 s = .bad:=fun s hs=>kD s (by omega) (by omega) (by omega)
   have ql:∀ t,w.drew.cell? t=w.cell? t:=fun t=>rfl
   have hfd:=yQ sz jv P w.drew ql
   have gU:=yQ sz jv P w (fun _=>rfl)
   rw [vK] at hfd gU
   split at h4
   ·rename_i r pre zz lo n
    obtain ⟨q,hq,h5⟩:=zBL h4
    split at h5
    ·rename_i s xs
     obtain ⟨jE,h6⟩:=zAJ h5
     cases uY:Nat.beq (lo+n) xs.length with
     | false =>
      rw [uY] at h6
      simp only [cond_false] at h6
      simp only [Bool.and_eq_true] at jE
      exact zNP S1 kD hd j0.1 j0.2.1 gU jO jv jx (by rw [S1.env r uB.2.1];exact hq) (Nat.eq_of_beq_eq_true jE.1.1) ht kw hi yr vK uY h6
     | true =>
     rw [uY] at h6
     have h7:=h6
     simp only [cond_true] at h7
     obtain ⟨hc4,h8⟩:=zAJ h7
     simp only [Bool.and_eq_true] at jE
     have hs:=Nat.eq_of_beq_eq_true jE.1.1
     have j4:=Nat.le_of_ble_eq_true jE.2
     have w8:=Nat.eq_of_beq_eq_true uY
     have ko:=Nat.eq_of_beq_eq_true hc4
     subst hs;subst ko
     have v8:n=xs.length:=by omega
     subst v8
     obtain ⟨root,hl,hm,h9⟩:=zBY h8
     have hr:r<zAb:=uB.2.1
     have yF:=zBC hl
     rw [yF,← S1.env r hr] at hq
     rw [← S1.env r hr] at yF hm
     obtain ⟨kk1,kk2⟩:=zBR (q' := .bad) rfl rfl hm
     obtain ⟨nv,Li,g1,g2,g3,g4,g5⟩:=S1.taken (g:=zAb+1) (by omega) hr yF hq rfl hm kk1 kk2
     have jP:zBK (a.eval x) nv s 0 xs.length:=by
      obtain ⟨_,_,_,hn⟩:=uB
      obtain ⟨s2,xs2,q1,q2,q3⟩:=hn nv _ (by rw [yF];exact g1) rfl
      cases q1;subst q2;exact q3
     obtain ⟨L2,S2,ur⟩:=g5 _ nv Li g2 g3 (fun b hb => .inl hb)
     have u4:∀ t,zAb+3≤t→upd (upd E1 r root) (zAb+1) (PV.own s xs) t = .bad:=fun t ht=>by
      rw [zAf (by omega),zAf (by omega)];exact yi t ht
     have vM:∀ b∈Ly,b∈L2 zAb:=fun b hb=>by rw [ur zAb (Nat.le_refl _) (by omega)];exact hLyg b hb
     have hg1r:zAb+1≠r:=by omega
     have hLi2:Rep w Φ (zA8 w (upd rv1 (zAb+1) nv) (upd (upd E1 r root) (zAb+1) (.own s xs))) (.own s xs) nv (L2 (zAb+1)):=by
      have:=S2.conf.rep (zAb+1)
      rwa [zAj,zAj] at this
     have hLiE:Li=L2 (zAb+1):=Rep.uniq _ _ _ _ g2 hLi2
     obtain ⟨q1,q2,q3⟩ | ⟨b,cap,c,us,M,q0,q1,q2,q3,q4,q5,q6,⟨q7,q7'⟩,q8,q9⟩:=g2
     ·
      subst q1;subst q3
      have uN:a.eval x = .slice none 0 0:=jP.1
      rw [uN,vK]
      by_cases hy0:ys.length=0
      ·have hyn:ys=[]:=List.eq_nil_of_length_eq_zero hy0
       subst hyn
       have hun:uys=[]:=List.eq_nil_of_length_eq_zero (by simpa using vL)
       subst hun
       refine ⟨_,w,zEf (i:=i) ht kw hi (by rw [yr];exact gU) (by simp) w (by simp) (fun _=>rfl),?_⟩
       exact zAw (S2.clear.choose_spec.choose_spec.choose_spec.choose_spec.1) (S2.clear.choose_spec.choose_spec.choose_spec.choose_spec.2) hd h9 (v := .slice none (0+0) 0) (.inl ⟨rfl,rfl,rfl⟩)
      ·have yR:0+ys.length≤grownCap w (0+ys.length) 0 el:=grownCap_ge w _ _ _
       refine ⟨_,_,zFI (a:=none) (old:=[]) (news:=flat uys) ht kw hi kM (by rw [yr];exact run_firstCells_none _ _ _ _ _) (by rw [yr];exact hfd) (by omega) (by simp only [zAS,List.length_nil] at j4;omega) (by omega),?_⟩
       have:=S2.regrown u4 hd (z:=z0) (el:=el) (sz:=s) (len:=0) (m:=ys.length) (xs:=[]) (us:=[]) (M:=[]) qF rfl vL rfl rfl (by simp) jv (by simp) uA rfl jx ⟨rfl,rfl⟩ jO yR (by simp) vM List.nodup_nil qG (by simpa using h9)
       simpa [flat] using this
     ·have jB:us.length=xs.length:=by have:=congrArg List.length q7';simpa using this
      subst q1
      simp only [zBK] at jP
      have gW:zAt b (0*s)=b:=by cases b;simp_all [zAt]
      have wo:a.eval x = .slice (some b) xs.length cap:=by rw [jP.1,gW];rfl
      have qj:∀ t∈M,t∈L2 (zAb+1):=fun t ht=>by rw [← hLiE,q0];simp [ht]
      have jL:b.block∈L2 (zAb+1):=by rw [← hLiE,q0];simp
      have hMn:M.Nodup∧b.block∉M:=by rw [q0] at g3;exact ⟨(List.nodup_cons.1 g3).2,(List.nodup_cons.1 g3).1⟩
      rw [wo,vK]
      by_cases yB:xs.length+ys.length≤cap
      ·
       have ww:(xs.length+ys.length)*s≤cap*s:=Nat.mul_le_mul_right _ yB
       rw [Nat.add_mul] at ww
       have hful:(flat uys).length=ys.length*s:=by rw [zBr uA,vL]
       have zMB:b.off+xs.length*s+(flat uys).length≤c.size:=by omega
       obtain ⟨et,jj⟩:=q4
       have yJ:=run_storeCells_at (P:=P) b.block (b.off+xs.length*s) et (flat uys) 0 c w jj (by simpa using zMB) yM
       simp only [Nat.add_zero] at yJ
       have gV:b.add (xs.length*s)=⟨b.block,b.off+xs.length*s,none⟩:=by rw [zBZ q2];rfl
       refine ⟨_,_,zEf (i:=i) ht kw hi (by rw [yr];exact gU) yB (w.setRow b.block (zBi c (b.off+xs.length*s) (flat uys))) (fun b' yG=>by cases yG;rw [yr,gV];exact yJ) (by simp),?_⟩
       have yp:∀ t,t≠b.block→(w.setRow b.block (zBi c (b.off+xs.length*s) (flat uys))).heap[t]? = w.heap[t]?:=fun t ht=>setRow_other w _ t _ ht
       have hΦ:zDc w (w.setRow b.block (zBi c (b.off+xs.length*s) (flat uys))) Φ Φ:=fun t ht=>⟨ht,yp t fun hc=>(S2.conf.own _ _ jL).2.1 (hc▸ht)⟩
       refine S2.made u4 hd (Lp:=b.block::(M++Ly)) (fun A=>?_) ?_ (fun t ht=>?_) (by rw [setRow_size];exact Nat.le_refl _) (fun t _ hn=>yp t fun hc=>hn (zAb+1) (by omega) (by omega) (hc▸jL)) ⟨rfl,rfl,rfl⟩ h9
       ·refine .inr ⟨b,cap,_,us++uys,M++Ly,rfl,by simp,q2,by simpa using yB,⟨et,setRow_heap w _ _ _ et _ jj⟩,?_,fun y hy=>?_,⟨fun u hu=>?_,by simp [q7',jx]⟩,?_,?_⟩
        ·rw [zGH zMB];exact q5
        ·rcases List.mem_append.1 hy with h | h
         ·exact q6 y h
         ·exact jv y h
        ·rcases List.mem_append.1 hu with h | h
         ·exact q7 u h
         ·exact uA u h
        ·rw [List.length_append,Nat.add_mul,zCY,zHL (by omega) (by omega) (by omega),show b.off+xs.length*s-b.off=xs.length*s by omega,← zPD (by omega),q8]
         have:(seg c b.off (xs.length*s+ys.length*s)).drop (xs.length*s+(flat uys).length)=[]:=by
          apply List.drop_of_length_le;simp only [seg,List.length_take];omega
         rw [this];simp
        ·exact (q9.mono hΦ (fun _ _ _ h=>h) fun t ht=>yp t fun hc=>hMn.2 (hc▸ht)).append (jO.mono hΦ (fun _ _ _ h=>h) fun t ht=>yp t fun hc=>S2.conf.disj (zAb+1) zAb (by omega) _ jL (hc▸vM t ht))
       ·refine List.nodup_cons.2 ⟨fun hm=>?_,?_⟩
        ·rcases List.mem_append.1 hm with hm | hm
         ·exact hMn.2 hm
         ·exact S2.conf.disj (zAb+1) zAb (by omega) _ jL (vM _ hm)
        ·rw [List.nodup_append]
         exact ⟨hMn.1,qG,fun t ht y hy e=>S2.conf.disj (zAb+1) zAb (by omega) t (qj t ht) (e▸vM y hy)⟩
       ·rcases List.mem_cons.1 ht with rfl | ht
        ·exact .inl ⟨zAb+1,by omega,by omega,jL⟩
        ·rcases List.mem_append.1 ht with ht | ht
         ·exact .inl ⟨zAb+1,by omega,by omega,qj t ht⟩
         ·exact .inl ⟨zAb,by omega,by omega,vM t ht⟩
      ·have yR:xs.length+ys.length≤grownCap w (xs.length+ys.length) cap el:=grownCap_ge w _ _ _
       have hold:=zIf (n:=xs.length) (xc:=cap) q2 q4.any jB q7 q8 P w.drew ql
       refine ⟨_,_,zFI (a:=some b) (old:=flat us) (news:=flat uys) ht kw hi kM (by rw [yr];exact hold) (by rw [yr];exact hfd) yB (by simp only [zAS] at j4;omega) (by omega),?_⟩
       exact S2.regrown u4 hd (z:=z0) (el:=el) (sz:=s) (len:=xs.length) (m:=ys.length) qF jB vL rfl rfl q6 jv q7 uA q7' jx q9 jO yR qj vM hMn.1 qG h9
    ·cases h5
   ·rename_i zz
    obtain ⟨j4,h5⟩:=zAJ h4
    have j4:=Nat.le_of_ble_eq_true j4
    have uN:a.eval x = .slice none 0 0:=uB.1
    rw [uN,vK]
    by_cases hy0:ys.length=0
    ·have hyn:ys=[]:=List.eq_nil_of_length_eq_zero hy0
     subst hyn
     have hun:uys=[]:=List.eq_nil_of_length_eq_zero (by simpa using vL)
     subst hun
     have hf:=yQ sz (by simp) P w (fun _=>rfl)
     rw [vK] at hf
     refine ⟨_,w,zEf (i:=i) ht kw hi (by rw [yr];exact hf) (by simp) w (by simp) (fun _=>rfl),?_⟩
     have:=zAw (S1.clear.choose_spec.choose_spec.choose_spec.choose_spec.1) (S1.clear.choose_spec.choose_spec.choose_spec.choose_spec.2) hd h5 (v := .slice none (0+0) 0) (.inl ⟨rfl,rfl,rfl⟩)
     exact this
    ·have hL1:L1 (zAb+1)=[]:=by
      have:=S1.conf.rep (zAb+1)
      rw [kD (zAb+1) (by omega) (by omega) (by omega)] at this;exact this
     have yR:0+ys.length≤grownCap w (0+ys.length) 0 el:=grownCap_ge w _ _ _
     refine ⟨_,_,zFI (a:=none) (old:=[]) (news:=flat uys) ht kw hi kM (by rw [yr];exact run_firstCells_none _ _ _ _ _) (by rw [yr];exact hfd) (by omega) (by simp only [zAS] at j4;omega) (by omega),?_⟩
     have:=S1.regrown yi hd (z:=z0) (el:=el) (sz:=sz) (len:=0) (m:=ys.length) (xs:=[]) (us:=[]) (M:=[]) qF rfl vL rfl rfl (by simp) jv (by simp) uA rfl jx ⟨rfl,rfl⟩ jO yR (by simp) hLyg List.nodup_nil qG (by simpa using h5)
     simpa [flat] using this
   ·cases h4
 ·cases h
end
end Go.Eng
namespace Go.Eng
open Go
section
variable {P:Program} {w0 w:World} {U Φ0 Φ:Nat→Prop} {nt:Nat} {hv:Hid} {a:Act} {e e':Env} {rv:Nat→Value} {E:Nat→PV} {L:Nat→List Nat} {o:zAF}
theorem zPS (S:St w0 U Φ0 nt hv a w e Φ rv E L) (hb:zBs E) {d:Option Nat} (hd:∀ x,d=some x→x<nt) {t:TypeId} (h:(put d (.omap [])).run o e=some e') :
  ∃ v w',(Instr.makeMap t none).run P w = .ok v w'∧Fr w0 U Φ0 nt hv (a.put d v) w' e':=by
 refine ⟨.map (some w.heap.size),{w with heap:=w.heap.push (.map #[] 0)},by simp [Instr.makeMap],?_⟩
 refine S.made (p := .omap []) (v := .map (some w.heap.size)) (fun s hs=>hb s (by omega)) hd (Lp:=[w.heap.size]) (fun A=>⟨w.heap.size,#[],rfl,rfl,by simp,rfl⟩) (by simp) (fun b yG => .inr ?_) (by simp) (fun b yG _=>?_) ⟨rfl,rfl,rfl⟩ h
 ·simp only [List.mem_singleton] at yG;subst yG;exact ⟨Nat.le_refl _,by simp⟩
 ·show (w.heap.push _)[b]? = _
  rw [Array.getElem?_push,if_neg (by omega)]
theorem zGm {z:Value} {s:Nat} (hz:z.cells.size=s) {l k:Nat} {u:Value} (h:(flat (List.replicate l z))[k]? = some u):(madeCells z.cells (k+1))[k]? = some u:=by
 have hZ:(flat (List.replicate l z)).length=l*s:=by
  rw [zBr (sz:=s) (fun u hu=>by rw [List.eq_of_mem_replicate hu];exact hz)];simp
 have hk:k<l*s:=by rw [← hZ];exact (List.getElem?_eq_some_iff.1 h).1
 have hs:0<s:=Nat.pos_of_ne_zero fun h0=>by subst h0;simp at hk
 have hdm:k / s*s+k % s=k:=Nat.div_add_mod' k s
 have hq:k / s<l:=Nat.div_lt_of_lt_mul (by rw [Nat.mul_comm];exact hk)
 have hr:k % s<s:=Nat.mod_lt _ hs
 have hzc : z.cells.toList[k % s]? = some (z.cells[k % s]'(by omega)) := by simp
 have:=zDA (sz:=s) (us:=List.replicate l z) (fun u hu=>by rw [List.eq_of_mem_replicate hu];exact hz) (i:=k / s) (c:=k % s) (x:=z) (by simp [hq]) hzc
 rw [hdm,h] at this
 simp only [Option.some.injEq] at this
 subst this
 simp [madeCells,hz,getElem!_pos,hr]
theorem zOM {z:Array Value} {n m k:Nat} (hk:k<n) (hm:k<m):(madeCells z n)[k]? = (madeCells z m)[k]?:=by
 simp [madeCells,hk,hm]
theorem zL4 (S:St w0 U Φ0 nt hv a w e Φ rv E L) (hb:zBs E) {d:Option Nat} (hd:∀ x,d=some x→x<nt) {t:TypeId} {l c:Operand} (hl:zAQ nt l=true) (hc:zAQ nt c=true) (h:(zEZ P d t l c).run o e=some e') :
  ∃ v w',(Instr.makeSlice t (a.eval l) (a.eval c)).run P w = .ok v w'∧Fr w0 U Φ0 nt hv (a.put d v) w' e':=by
 obtain ⟨p,h1,hp⟩:=zBv S hl h
 obtain ⟨kl,l,rfl,wB,h2⟩:=zD8 h1
 obtain ⟨q,h3,hq⟩:=zBv S hc h2
 obtain ⟨kc,c,rfl,v6,h4⟩:=zD8 h3
 split at h4
 ·rename_i el y5
  split at h4
  ·rename_i z s by_ hz hs qD
   obtain ⟨⟨wC,j4,hb16,kR⟩,h5⟩:=zDk h4
   obtain ⟨i,zv,hi,hzv,_,kL⟩:=zDJ hz
   obtain ⟨i2,vV,vc⟩:=zCq hs
   rw [hi] at vV;cases vV
   have hib:i.bytes=by_:=by simp only [zHX,hi,Option.map_some,Option.some.injEq] at qD;exact qD
   have ht:=zCC y5
   simp only [zAS] at j4
   have hbb:(i.bytes:Int)*c≤281474976710656:=by
    have h1:i.bytes*c.toNat≤16384*4294967296:=Nat.mul_le_mul (by omega) j4
    have h2:((i.bytes*c.toNat:Nat):Int)=(i.bytes:Int)*c:=by rw [Int.natCast_mul,Int.toNat_of_nonneg v6]
    omega
   have yA:=run_make (P:=P) w t el i zv ht hi hzv kl kc l c wB (by omega) hbb (by omega)
   obtain ⟨u3,vI,ke,_⟩:=zCj (w:=w) (Φ:=Φ) (A:=zCe) kL
   have uw:zv.cells.size=s:=by rw [vI,kR]
   rw [hp.1,hq.1]
   refine ⟨_,_,yA,?_⟩
   refine S.made (p := .own s (List.replicate l.toNat z)) (fun s hs=>hb s (by omega)) hd (Lp:=[w.heap.size]) (fun A=>?_) (by simp) (fun b yG => .inr ?_) (by simp) (fun b yG _=>?_) ⟨rfl,rfl,rfl⟩ h5
   ·refine .inr ⟨⟨w.heap.size,0,none⟩,c.toNat,_,List.replicate l.toNat zv,[],rfl,by simp,rfl,by simpa using wC,⟨el,by show (w.heap.push _)[w.heap.size]? = _;simp;rfl⟩,?_,fun x hx=>?_,⟨fun u hu=>?_,?_⟩,?_,?_⟩
    ·rw [size_madeCells,vc];simp
    ·rw [List.eq_of_mem_replicate hx];exact kR
    ·rw [List.eq_of_mem_replicate hu];exact uw
    ·simp [ke]
    ·rw [List.length_replicate]
     refine zFt ?_ fun k u hk=>?_
     ·rw [zBr (sz:=s) (fun u hu=>by rw [List.eq_of_mem_replicate hu];exact uw)];simp
     ·have hZ:(flat (List.replicate l.toNat zv)).length=l.toNat*s:=by
       rw [zBr (sz:=s) (fun u hu=>by rw [List.eq_of_mem_replicate hu];exact uw)];simp
      have wD:k<l.toNat*s:=by rw [← hZ];exact (List.getElem?_eq_some_iff.1 hk).1
      have yN:l.toNat*s≤c.toNat*s:=Nat.mul_le_mul_right _ wC
      rw [Nat.zero_add,vc,zOM (m:=k+1) (by omega) (by omega)]
      exact zGm uw hk
    ·have key:∀ n,zA2 (w.alloc (.cells (madeCells zv.cells (c.toNat*i.size)) el)) Φ zCe (List.replicate n z) (List.replicate n zv) []:=by
      intro n
      induction n with
      | zero=>exact ⟨rfl,rfl⟩
      | succ n ih =>
       exact ⟨zv,_,[],[],rfl,rfl,(zCj kL).1,ih⟩
     exact key _
   ·simp only [List.mem_singleton] at yG;subst yG
    exact ⟨Nat.le_refl _,by show _<(w.heap.push _).size;simp⟩
   ·show (w.heap.push _)[b]? = _
    rw [Array.getElem?_push,if_neg (by omega)]
  ·cases h4
 ·cases h4
theorem zJj (S:St w0 U Φ0 nt hv a w e Φ rv E L) {x:Option Operand} (hx:∀ y,x=some y→zAQ nt y=true) {n:Nat} {k:Nat→PM} (h:(zSD x n k).run o e=some e') :
  ∃ m,(k m).run o e=some e'∧((x=none∧m=n)∨∃ y ik z,x=some y∧a.eval y = .int ik z∧0≤z∧m=z.toNat):=by
 cases x with
 | none=>exact ⟨n,h,.inl ⟨rfl,rfl⟩⟩
 | some y =>
  obtain ⟨p,h1,h2⟩:=zBv S (hx y rfl) h
  obtain ⟨ik,z,rfl,hz,h3⟩:=zD8 h1
  exact ⟨z.toNat,h3,.inr ⟨y,ik,z,rfl,h2.1,hz,rfl⟩⟩
theorem zEL {ik:IntKind} {z:Int} {y:Nat} {cd:BoundsCode} (h0:0≤z) (h:z.toNat≤y):(Instr.sliceBound (.int ik z) y cd).run P w = .ok z.toNat w:=by
 have:z≤y:=by omega
 simp [Instr.sliceBound,asIntOf,h0,this]
theorem zKC {isS:Bool} {len cap l h:Nat} {lo hi:Option Value} (hh:(hi=none∧h=len)∨∃ ik z,hi=some (.int ik z)∧0≤z∧h=z.toNat) (hl:(lo=none∧l=0)∨∃ ik z,lo=some (.int ik z)∧0≤z∧l=z.toNat)
  (hlh:l≤h) (hhc:hi≠none→h≤cap):(Instr.sliceBounds isS len cap lo hi none).run P w = .ok (l,h,cap) w:=by
 rcases hh with ⟨rfl,rfl⟩ | ⟨ik,z,rfl,hz,rfl⟩
 ·simp only [Instr.sliceBounds,Sem.run_bind,Sem.run_pure,Result.andThen_ok,Option.isSome_none,Bool.false_eq_true,if_false]
  rcases hl with ⟨rfl,rfl⟩ | ⟨ik',z',rfl,hz',rfl⟩
  ·simp
  ·simp only [Sem.run_bind,zEL hz' hlh,Result.andThen_ok,Sem.run_pure]
 ·simp only [Instr.sliceBounds,Sem.run_bind,Sem.run_pure,Result.andThen_ok,Option.isSome_none,Bool.false_eq_true,if_false]
  rw [zEL hz (hhc (by simp))]
  simp only [Result.andThen_ok]
  rcases hl with ⟨rfl,rfl⟩ | ⟨ik',z',rfl,hz',rfl⟩
  ·simp
  ·simp only [Sem.run_bind,zEL hz' hlh,Result.andThen_ok,Sem.run_pure]
theorem zTn (S : St w0 U Φ0 nt hv a w e Φ rv E L) (hb:zBs E) {d:Option Nat} (hd:∀ x,d=some x→x<nt) {t:TypeId} {x:Operand} {lo hi mx:Option Operand} (hx:zAQ nt x=true) (ko:∀ y,lo=some y→zAQ nt y=true) (hhi:∀ y,hi=some y→zAQ nt y=true) (hmx:∀ y,mx=some y→zAQ nt y=true)
  (h:(zJt P d t x lo hi mx).run o e=some e'):∃ v,(Instr.sliceAt t (a.eval x) (lo.map a.eval) (hi.map a.eval) (mx.map a.eval)).run P w = .ok v w∧Fr w0 U Φ0 nt hv (a.put d v) w e':=by
 cases mx with
 | some m =>
  simp only [zJt] at h
  obtain ⟨p,h1,hp⟩:=zBv S hx h
  split at h1
  ·rename_i r pre z a0 n el ht
   obtain ⟨s,hs,h2⟩:=zBG h1
   obtain ⟨ti,jM,yD⟩:=zCq hs
   obtain ⟨mm,h3,h4⟩:=zJj S hmx h2
   obtain ⟨_,hg,⟨b,cap,yE,yR,w7,jy⟩,w6⟩:=hp
   rcases h4 with ⟨h4,_⟩ | ⟨ym,ikm,zm,hym,hem,hzm,rfl⟩
   ·cases h4
   cases hym
   cases hi with
   | none=>cases h3
   | some hi =>
    obtain ⟨hm,h5,h6⟩:=zJj S hhi h3
    rcases h6 with ⟨h6,_⟩ | ⟨yh,ikh,zh,hyh,heh,hzh,rfl⟩
    ·cases h6
    cases hyh
    obtain ⟨lm,h7,h8⟩:=zJj S ko h5
    obtain ⟨hc,h9⟩:=zAJ h7
    simp only [Bool.and_eq_true] at hc
    have c1:=Nat.le_of_ble_eq_true hc.1.1
    have c2:=Nat.le_of_ble_eq_true hc.1.2
    have c3:=Nat.le_of_ble_eq_true hc.2
    refine ⟨_,?_,zAw S hb hd h9 (p := .bad) (v := .slice (if zm.toNat=lm then b else b.map (·.add (lm*ti.size))) (zh.toNat-lm) (zm.toNat-lm)) rfl⟩
    rw [yE]
    simp only [Instr.sliceAt,Instr.slice,Sem.run_bind,run_underlying ht,Result.andThen_ok,Option.map_some,hem,heh,Instr.sliceBounds,zEL hzm (show zm.toNat≤cap by omega),zEL hzh c2]
    rcases h8 with ⟨rfl,rfl⟩ | ⟨yl,ikl,zl,rfl,y5,kR,rfl⟩
    ·simp only [Option.map_none,Sem.run_pure,Result.andThen_ok,zAY jM,Sem.run_bind]
    ·simp only [Option.map_some,y5,zEL kR c1,Sem.run_pure,Result.andThen_ok,zAY jM,Sem.run_bind]
  ·cases h1
 | none =>
  simp only [zJt] at h
  obtain ⟨p,h1,hp⟩:=zBv S hx h
  have low:∀ {m:Nat},((lo=none∧m=0)∨∃ y ik z,lo=some y∧a.eval y = .int ik z∧0≤z∧m=z.toNat)→(lo.map a.eval=none∧m=0)∨∃ ik z,lo.map a.eval=some (.int ik z)∧0≤z∧m=z.toNat:=by
   rintro m (⟨rfl,rfl⟩ | ⟨y,ik,z,rfl,h2,h3,h4⟩)
   ·exact .inl ⟨rfl,rfl⟩
   ·exact .inr ⟨ik,z,by simp [h2],h3,h4⟩
  have hgh:∀ {m n:Nat},((hi=none∧m=n)∨∃ y ik z,hi=some y∧a.eval y = .int ik z∧0≤z∧m=z.toNat)→(hi.map a.eval=none∧m=n)∨∃ ik z,hi.map a.eval=some (.int ik z)∧0≤z∧m=z.toNat:=by
   rintro m n (⟨rfl,rfl⟩ | ⟨y,ik,z,rfl,h2,h3,h4⟩)
   ·exact .inl ⟨rfl,rfl⟩
   ·exact .inr ⟨ik,z,by simp [h2],h3,h4⟩
  split at h1
  ·
   rename_i n el ht
   split at h1
   ·rename_i s sh hs j8
    obtain ⟨hm,h2,h3⟩:=zJj S hhi h1
    obtain ⟨lm,h4,h5⟩:=zJj S ko h2
    obtain ⟨hc,h6⟩:=zAJ h4
    simp only [Bool.and_eq_true,Bool.or_eq_true] at hc
    obtain ⟨⟨c1,c2⟩,c3⟩:=hc
    have c1:=Nat.le_of_ble_eq_true c1
    have c2:=Nat.le_of_ble_eq_true c2
    obtain ⟨ti,jM,yD⟩:=zCq hs
    have hbnd:=zKC (P:=P) (w:=w) (isS:=false) (len:=n) (cap:=n) (hgh h3) (low h5) c1 (fun _=>c2)
    have ku:∀ b:Addr,b.spot=none→(if n=lm then b else b.add (lm*ti.size))=zAt b (lm*s):=by
     intro b y4
     split
     ·rename_i qB
      have wB:lm=0:=by
       rcases c3 with c3 | c3
       ·exact Nat.eq_of_beq_eq_true c3
       ·have:=zB3 c3;omega
      rw [wB];cases b;simp_all [zAt]
     ·rw [zBZ y4,yD]
    split at h6
    ·rename_i r pre i c s'
     obtain ⟨_,hg,b,y7,y4,hn⟩:=hp
     refine ⟨.slice (some (zAt b (lm*s))) (hm-lm) (n-lm),?_,zAw S hb hd h6 ⟨rfl,hg,zAt b (lm*s),n-lm,rfl,by omega,rfl,fun nv np hf a' kN=>?_⟩⟩
     ·rw [y7]
      simp only [Instr.sliceAt,Sem.run_bind,run_underlying ht,Result.andThen_ok,Instr.sureAddr,Sem.run_pure,Option.map_none]
      rw [hbnd]
      simp only [Result.andThen_ok,zAY jM,Sem.run_bind,Sem.run_pure]
      rw [ku b y4]
     ·have key:∃ a0,zBa nv np i c=some a0∧a'=zAt a0 (lm*s):=by
       cases np<;>try (simp [zBa] at kN;done)
       ·cases nv with
        | slice x _ _ =>
         cases x with
         | none=>cases kN
         | some x=>simp only [zBa] at kN ⊢;cases kN;exact ⟨_,rfl,by simp [zAt,Nat.add_assoc]⟩
        | pointer x=>cases x<;>cases kN
        | _=>cases kN
       ·cases nv with
        | pointer x =>
         cases x with
         | none=>cases i<;>cases kN
         | some x=>cases i<;>simp only [zBa] at kN ⊢ <;> cases kN;exact ⟨_,rfl,by simp [zAt,Nat.add_assoc]⟩
        | slice x _ _=>cases x<;>cases kN
        | _=>cases kN
      obtain ⟨a0,k1,k2⟩:=key
      rw [k2,hn nv np hf a0 k1]
    ·rename_i cs
     obtain ⟨hc4,h7⟩:=zAJ h6
     simp only [Bool.and_eq_true,zCm] at hc4
     obtain ⟨⟨c4,⟨c5,c6⟩⟩,c7⟩:=hc4
     have c4:=Nat.le_of_ble_eq_true c4
     have c5:=Nat.eq_of_beq_eq_true c5
     obtain ⟨_,b,c,u,y7,y4,hΦ,yC,y6,⟨jB,jb⟩,hr⟩:=hp
     obtain ⟨vs,rfl,hr⟩:=hr
     have js:=hr.length
     have u3:zA2 w Φ zCe cs vs.toList []:=hr.ways _ _ _ fun a v hw hx ha=>by
      have h0:zBA cs=[]:=by simpa using c7
      rw [h0] at hx
      have h1:=zI0 hw ha
      cases uk:a.ways with
      | nil=>exact absurd uk h1
      | cons z zs=>have:=hx z (by rw [uk];simp);cases this
     obtain ⟨us',q1,q2,q3,q4,q5⟩:=zF1 (ag:=sh.isSome) (sz:=s) (fun a v _ h=>h.elim) (hm-lm) _ _ c5 (fun jb=>by
      simp only [jb,Bool.false_or,Bool.and_eq_true] at c6
      exact ⟨Nat.eq_of_beq_eq_true c6.1,fun q hq=>List.all_eq_true.1 c6.2 q hq⟩) (zB0 u3 (lm*s) ((hm-lm)*s))
     have yO:=zD5 sh.isSome s (hm-lm) ((cs.drop (lm*s)).take ((hm-lm)*s))
     refine ⟨.slice (some (zAt b (lm*s))) (hm-lm) (n-lm),?_,zAw S hb hd h7 ?_⟩
     ·rw [y7]
      simp only [Instr.sliceAt,Sem.run_bind,run_underlying ht,Result.andThen_ok,Instr.sureAddr,Sem.run_pure,Option.map_none]
      rw [hbnd]
      simp only [Result.andThen_ok,zAY jM,Sem.run_bind,Sem.run_pure]
      rw [ku b y4]
     ·by_cases gX:hm-lm=0
      ·rw [gX];exact ⟨rfl,.inl ⟨rfl,_,_,rfl,fun h=>by cases h⟩⟩
      ·refine ⟨rfl,.inr ⟨zAt b (lm*s),n-lm,c,us',s,by rw [yO],rfl,by rw [yO];omega,hΦ,yC,q5,⟨q3,q4⟩,?_,q1⟩⟩
       rw [yO,q2]
       simp only [PV.cells,Value.cells] at y6 js
       refine zFt (by simp at c5 js ⊢;omega) fun k y hk=>?_
       simp only [List.getElem?_take,List.getElem?_drop] at hk
       split at hk
       ·have:(seg c b.off cs.length)[lm*s+k]? = some y:=by rw [y6];exact hk
        have:=zCR this
        simp only [zAt,Nat.add_assoc];exact this
       ·cases hk
    ·cases h6
   ·cases h1
  ·
   rename_i el ht
   split at h1
   ·rename_i s n hs hn
    obtain ⟨hm,h2,h3⟩:=zJj S hhi h1
    obtain ⟨lm,h4,h5⟩:=zJj S ko h2
    obtain ⟨ti,jM,yD⟩:=zCq hs
    have yA:∀ (b:Option Addr) (cap:Nat),a.eval x = .slice b n cap→lm≤hm→hm≤cap→(Instr.sliceAt t (a.eval x) (lo.map a.eval) (hi.map a.eval) (Option.map a.eval none)).run P w = .ok (.slice (if cap=lm then b else b.map (·.add (lm*ti.size))) (hm-lm) (cap-lm)) w:=by
     intro b cap yE k1 k2
     rw [yE]
     simp only [Instr.sliceAt,Instr.slice,Sem.run_bind,run_underlying ht,Result.andThen_ok,Option.map_none]
     rw [zKC (hgh h3) (low h5) k1 (fun _=>k2)]
     simp only [Result.andThen_ok,zAY jM,Sem.run_bind,Sem.run_pure]
    cases p<;>simp only [zOP] at h4<;>try (cases h4;done)
    case sl xs =>
     simp only [lenOf,Option.some.injEq] at hn
     obtain ⟨hc,h6⟩:=zAJ h4
     simp only [Bool.and_eq_true] at hc
     obtain ⟨⟨c1,c2⟩,c3⟩:=hc
     have c1:=Nat.le_of_ble_eq_true c1
     have c2:=Nat.le_of_ble_eq_true c2
     obtain ⟨_,⟨rfl,b,n',yE,w7⟩ | ⟨b,n',c,us,sz,yE,y4,yN,hΦ,yC,jZ,⟨kb,wk⟩,y6,hr⟩⟩:=hp
     ·have gX:hm=0:=by simpa using c2
      have wB:lm=0:=by omega
      subst gX;subst wB
      refine ⟨_,yA b n' (by rw [yE,← hn];rfl) (Nat.le_refl _) (Nat.zero_le _),zAw S hb hd h6 ?_⟩
      simp only [List.drop_nil,List.take_nil]
      exact ⟨rfl,.inl ⟨rfl,_,_,rfl,fun h=>by
       have gW:b=none:=by cases b<;>first | rfl | (split at h<;>cases h)
       rw [w7 gW]⟩⟩
     ·refine ⟨_,yA (some b) n' (by rw [yE,← hn]) c1 (by omega),zAw S hb hd h6 ?_⟩
      have hZ:((xs.drop lm).take (hm-lm)).length=hm-lm:=by simp;omega
      by_cases gX:hm-lm=0
      ·have:(xs.drop lm).take (hm-lm)=[]:=List.eq_nil_of_length_eq_zero (by rw [hZ,gX])
       rw [this,gX];exact ⟨rfl,.inl ⟨rfl,_,_,rfl,fun h=>by split at h<;>cases h⟩⟩
      ·have jB:us.length=xs.length:=by have:=congrArg List.length wk;simpa using this
       have gY:∃ x,x∈xs:=by
        cases xs with
        | nil=>simp at c2;omega
        | cons x _=>exact ⟨x,by simp⟩
       obtain ⟨x0,gY⟩:=gY
       have w9:sz=s:=by
        have:=Nat.eq_of_beq_eq_true (List.all_eq_true.1 c3 x0 gY)
        rw [← jZ x0 gY,this]
       subst w9
       rw [if_neg (by omega)]
       simp only [Option.map_some]
       rw [zBZ y4,yD]
       refine ⟨rfl,.inr ⟨zAt b (lm*sz),n'-lm,c,(us.drop lm).take (hm-lm),sz,by rw [hZ],rfl,by rw [hZ];omega,hΦ,yC,fun y hy=>jZ y (List.mem_of_mem_drop (List.mem_of_mem_take hy)),⟨fun u hu=>kb u (List.mem_of_mem_drop (List.mem_of_mem_take hu)),zA2.map_isAgg wk lm (hm-lm)⟩,?_,zB0 hr lm (hm-lm)⟩⟩
       rw [hZ];exact zIv kb jB y6 (by omega)
    case bor r pre z a0 n0 =>
     simp only [lenOf,Option.some.injEq] at hn
     subst hn
     obtain ⟨hc,h6⟩:=zAJ h4
     simp only [Bool.and_eq_true] at hc
     have uw:=Nat.eq_of_beq_eq_true hc.1
     have c1:=Nat.le_of_ble_eq_true hc.2
     subst uw
     obtain ⟨_,hg,⟨b,cap,yE,yR,w7,jy⟩,w6⟩:=hp
     have go : hm≤cap→(put d (bif Nat.beq lm 0||Nat.blt lm hm then .bor r pre z (a0+lm) (hm-lm) else .sl [])).run o e=some e'→∃ v,(Instr.sliceAt t (a.eval x) (lo.map a.eval) (hi.map a.eval) (Option.map a.eval none)).run P w = .ok v w∧Fr w0 U Φ0 nt hv (a.put d v) w e':=by
      intro k1 h6
      refine ⟨_,yA b cap yE c1 k1,zAw S hb hd h6 ?_⟩
      cases u5:(Nat.beq lm 0||Nat.blt lm hm) with
      | false =>
       simp only [Bool.or_eq_false_iff] at u5
       have:¬ lm<hm:=fun yK=>by rw [show Nat.blt lm hm=true from Nat.ble_eq_true_of_le yK] at u5;exact absurd u5.2 (by simp)
       have:hm-lm=0:=by omega
       rw [this];exact ⟨rfl,.inl ⟨rfl,_,_,rfl,fun h=>by
        have gW:b=none:=by cases b<;>first | rfl | (split at h<;>cases h)
        have:=w7 gW;omega⟩⟩
      | true =>
       simp only [cond_true]
       have jk:lm=0∨lm<hm:=by
        simp only [Bool.or_eq_true] at u5
        rcases u5 with h | h
        ·exact .inl (Nat.eq_of_beq_eq_true h)
        ·exact .inr (zB3 h)
       have ku:(if cap=lm then b else b.map (·.add (lm*ti.size)))=b.map (fun y=>zAt y (lm*z)):=by
        cases b with
        | none=>simp
        | some y =>
         have hy:=jy y rfl
         simp only [Option.map_some]
         split
         ·have wB:lm=0:=by omega
          subst wB;cases y;simp_all [zAt]
         ·rw [zBZ hy,yD]
       rw [ku]
       refine ⟨rfl,hg,⟨_,cap-lm,rfl,by omega,fun gW=>?_,fun y hy=>?_⟩,fun nv np hf hh=>?_⟩
       ·have:b=none:=by cases b<;>first | rfl | cases gW
        have:=w7 this;omega
       ·cases b with
        | none=>cases hy
        | some y0=>simp only [Option.map_some,Option.some.injEq] at hy;rw [← hy];rfl
       ·obtain ⟨sz2,xs2,g1,g2,g3⟩:=w6 nv np hf hh
        refine ⟨sz2,xs2,g1,g2,?_⟩
        subst g2
        rw [yE] at g3
        cases nv<;>simp only [zBK] at g3
        rename_i y l c
        cases y with
        | none =>
         simp only [zBK,Value.slice.injEq] at g3 ⊢
         obtain ⟨⟨k2,k3,k4⟩,k5⟩:=g3
         subst k2
         refine ⟨⟨rfl,by omega,by omega⟩,by omega⟩
        | some y =>
         simp only [zBK,Value.slice.injEq] at g3 ⊢
         obtain ⟨⟨k2,_,k4⟩,k5⟩:=g3
         subst k2
         refine ⟨⟨?_,trivial,by omega⟩,by omega⟩
         simp [zAt,Nat.add_mul,Nat.add_assoc]
     cases gZ:Nat.ble hm n0 with
     | true =>
      rw [gZ] at h6
      exact go (Nat.le_trans (Nat.le_of_ble_eq_true gZ) yR) h6
     | false =>
      rw [gZ] at h6;simp only [cond_false] at h6
      obtain ⟨q,hq,h7⟩:=zBL h6
      split at h7
      ·rename_i sz2 xs2
       obtain ⟨yN,h8⟩:=zAJ h7
       have yN:=Nat.le_of_ble_eq_true yN
       refine go ?_ h8
       rw [← S.env r hg] at hq
       obtain ⟨nv,Li,hf,_,hX⟩:=zBO (zB7 (S.conf.rep r)) hq
       obtain ⟨sz3,xs3,g1,g2,g3⟩:=w6 nv _ hf rfl
       cases g1;subst g2
       rw [yE] at g3
       obtain ⟨q1,_,q3⟩ | ⟨y,m,c,us,M,_,q1,_,q3,_⟩:=hX
       ·subst q1;simp at yN;omega
       ·subst q1
        simp only [zBK,Value.slice.injEq] at g3
        omega
      ·cases h7
   ·cases h1
  ·cases h1
end
end Go.Eng
namespace Go.Eng
open Go
section
variable {w w':World} {Φ Φ':Nat→Prop}
mutual
theorem Rep.free {A A':Al}:∀ (p:PV) (v:Value) (L:List Nat),p.free=true→Rep w Φ A p v L→Rep w Φ' A' p v L
 | .int ..,_,_,_,h=>h
 | .bool _,_,_,_,h=>h
 | .nilp,_,_,_,h=>h
 | .nilf,_,_,_,h=>h
 | .nilm,_,_,_,h=>h
 | .nn,_,_,_,h=>h
 | .nils _,_,_,_,h=>h
 | .und,_,_,_,h=>h
 | .sl [],v,L,_,h=>by
  obtain ⟨h0,⟨_,a,n,h1⟩ | ⟨a,n,c,us,sz,h1,_⟩⟩:=h
  ·exact ⟨h0,.inl ⟨rfl,a,n,h1⟩⟩
  ·exact ⟨h0,.inl ⟨rfl,_,n,h1,fun h=>by cases h⟩⟩
 | .sl (_::_),_,_,hf,_=>by cases hf
 | .agg cs,v,L,hf,h=>by
  obtain ⟨vs,rfl,h⟩:=h
  exact ⟨vs,rfl,zA2.free cs _ L hf h⟩
 | .tup cs,v,L,hf,h=>by
  obtain ⟨vs,rfl,h⟩:=h
  exact ⟨vs,rfl,zA2.free cs _ L hf h⟩
 | .own sz xs,v,L,hf,h=>by
  obtain h | ⟨a,n,c,us,L',h0,h1,h2,h3,h4,h5,h6,h7,h8,h9⟩:=h
  ·exact .inl h
  ·exact .inr ⟨a,n,c,us,L',h0,h1,h2,h3,h4,h5,h6,h7,h8,zA2.free xs us L' hf h9⟩
 | .box q,v,L,hf,h=>by
  obtain ⟨a,c,u,L',h0,h1,h2,h4,h5,h6,h7⟩:=h
  exact ⟨a,c,u,L',h0,h1,h2,h4,h5,h6,Rep.free q u L' hf h7⟩
 | .omap es,v,L,hf,h=>by
  obtain ⟨b,ents,h0,h1,h3,h4⟩:=h
  exact ⟨b,ents,h0,h1,h3,zDR.free es _ 0 hf h4⟩
 | .bad,_,_,hf,_=>by cases hf
 | .ref _,_,_,hf,_=>by cases hf
 | .map _,_,_,hf,_=>by cases hf
 | .func ..,_,_,hf,_=>by cases hf
 | .addr ..,_,_,hf,_=>by cases hf
 | .bor ..,_,_,hf,_=>by cases hf
 | .bsl ..,_,_,hf,_=>by cases hf
 | .bmap ..,_,_,hf,_=>by cases hf
 | .lock _,_,_,hf,_=>by cases hf
 | .yld _,_,_,hf,_=>by cases hf
 | .log ..,_,_,hf,_=>by cases hf
theorem zA2.free {A A':Al}:∀ (ps:List PV) (vs:List Value) (L:List Nat),zFk ps=true→zA2 w Φ A ps vs L→zA2 w Φ' A' ps vs L
 | [],_,_,_,h=>h
 | p::ps,vs,L,hf,h=>by
  simp only [zFk,Bool.and_eq_true] at hf
  obtain ⟨v,vs',L1,L2,h0,h1,h2,h3⟩:=h
  exact ⟨v,vs',L1,L2,h0,h1,Rep.free p v L1 hf.1 h2,zA2.free ps vs' L2 hf.2 h3⟩
theorem zDR.free:∀ (es:List (PV×PV)) (ms:List MapEntry) (i:Nat),zOu es=true→zDR w Φ es ms i→zDR w Φ' es ms i
 | [],_,_,_,h=>h
 | (k,p)::es,ms,i,hf,h=>by
  simp only [zOu,Bool.and_eq_true] at hf
  obtain ⟨m,ms',h0,h1,h2,h3,h4⟩:=h
  exact ⟨m,ms',h0,h1,Rep.free k _ [] hf.1.1 h2,Rep.free p _ [] hf.1.2 h3,zDR.free es ms' (i+1) hf.2 h4⟩
end
end
theorem zC1 (m:List (Nat×Nat)):Tame (zEn m):=by
 constructor
 ·intro p
  cases p<;>simp only [zEn]<;>first | rfl | (split<;>rfl)
 ·intro p hp
  cases p<;>first | (cases hp;done) | skip
  all_goals
   simp only [zEn]
   first | rfl | (split<;>rfl)
section
variable {w w':World} {rv rv':Nat→Value} {E E':Nat→PV}
theorem zML {m:List (Nat×Nat)} {Φ:Nat→Prop} {a:PV} {v:Value} (ha:zA8 w rv E a v)
  (h:∀ r h',m.lookup r=some h'→r<zAb→h'<zAb∧∀ pre nv np,zAR w' (rv' h') (E' h').unlock pre=some (nv,np)→np.heavy0=true→∃ np0,zAR w (rv r) (E r).unlock pre=some (nv,np0)∧zCl np0 np) :
  Rep w' Φ (zA8 w' rv' E') (zEn m a) v []:=by
 have hr:=zC3 ha
 have key:∀ nv np i c a',zBa nv np i c=some a'→np.heavy0=true:=by
  intro nv np i c a' h
  cases np<;>first | rfl | (simp [zBa] at h)
 cases a<;>simp only [zEn]<;>try (exact ha.elim)
 case addr r pre i c sh =>
  cases hm:m.lookup r with
  | none=>rfl
  | some h' =>
   obtain ⟨h1,h2⟩:=h r h' hm hr
   obtain ⟨_,b,h3,h4,h5⟩:=ha
   refine ⟨rfl,h1,b,h3,h4,fun nv np hn a' kN=>?_⟩
   obtain ⟨np0,h6,h7⟩:=h2 pre nv np hn (key _ _ _ _ _ kN)
   exact h5 nv np0 h6 a' (by rw [zEm h7];exact kN)
 case bor r pre z lo n =>
  cases hm:m.lookup r with
  | none=>rfl
  | some h' =>
   obtain ⟨h1,h2⟩:=h r h' hm hr
   obtain ⟨_,h3,h5⟩:=ha
   refine ⟨rfl,h1,h3,fun nv np hn hh=>?_⟩
   obtain ⟨np0,h6,h7⟩:=h2 pre nv np hn hh
   obtain ⟨sz,xs,g1,g2,g3⟩:=h5 nv np0 h6 (zDK h7)
   subst g1
   cases np<;>simp only [zCl] at h7
   subst h7
   exact ⟨_,_,rfl,g2,g3⟩
 case bsl r pre i c sz ag n =>
  cases hm:m.lookup r with
  | none=>rfl
  | some h' =>
   obtain ⟨h1,h2⟩:=h r h' hm hr
   obtain ⟨_,b,cap,h3,wW,h4,h5⟩:=ha
   refine ⟨rfl,h1,b,cap,h3,wW,h4,fun nv np hn a' kN=>?_⟩
   obtain ⟨np0,h6,h7⟩:=h2 pre nv np hn (key _ _ _ _ _ kN)
   exact h5 nv np0 h6 a' (by rw [zEm h7];exact kN)
 case bmap r pre =>
  cases hm:m.lookup r with
  | none=>rfl
  | some h' =>
   obtain ⟨h1,h2⟩:=h r h' hm hr
   obtain ⟨_,h3,h5⟩:=ha
   refine ⟨rfl,h1,h3,fun nv np hn es he=>?_⟩
   subst he
   obtain ⟨np0,h6,h7⟩:=h2 pre nv _ hn rfl
   cases np0<;>simp only [zCl] at h7
   exact h5 nv _ h6 _ rfl
end
theorem zHy {f:Nat→Nat→Nat×Nat}:∀ (R:List Nat) (k x y:Nat),((R.zipIdx k).map fun p=>f p.1 p.2).lookup x=some y→∃ j r,R[j]? = some r∧f r (k+j)=(x,y)
 | [],k,x,y,h=>by simp at h
 | r :: R,k,x,y,h=>by
  simp only [List.zipIdx_cons,List.map_cons] at h
  cases hf:f r k with
  | mk p1 p2 =>
   rw [hf,List.lookup_cons] at h
   by_cases hx:x=p1
   ·have:(x==p1)=true:=by simp [hx]
    rw [this] at h
    simp only [Option.some.injEq] at h
    exact ⟨0,r,rfl,by rw [Nat.add_zero,hf,hx,h]⟩
   ·have:(x==p1)=false:=by simp [hx]
    rw [this] at h
    obtain ⟨j,r',h1,h2⟩:=zHy R (k+1) x y h
    exact ⟨j+1,r',by simpa using h1,by rw [show k+(j+1)=k+1+j by omega];exact h2⟩
theorem zME {R:List Nat} {r h:Nat} (hl:(zDu R).lookup r=some h):∃ j,R[j]? = some r∧h=zAl+j:=by
 obtain ⟨j,r',h1,h2⟩:=zHy (f:=fun r j=>(r,zAl+j)) R 0 r h hl
 simp only [Nat.zero_add,Prod.mk.injEq] at h2
 exact ⟨j,h2.1▸h1,h2.2.symm⟩
theorem zNv {R:List Nat} {h r:Nat} (hl:(zCg R).lookup h=some r):∃ j,R[j]? = some r∧h=zAl+j:=by
 obtain ⟨j,r',h1,h2⟩:=zHy (f:=fun r j=>(zAl+j,r)) R 0 h r hl
 simp only [Nat.zero_add,Prod.mk.injEq] at h2
 exact ⟨j,h2.2▸h1,h2.1.symm⟩
theorem zGj:∀ {R:List Nat},zGW R=true→R.Nodup
 | [],_=>List.nodup_nil
 | r::R,h=>by
  simp only [zGW,Bool.and_eq_true,Bool.not_eq_true'] at h
  exact List.nodup_cons.2 ⟨fun hm=>by have:=List.contains_iff_mem.2 hm;rw [this] at h;exact absurd h.1 (by simp),zGj h.2⟩
section
variable {o:zAF} {e e':Env}
theorem zJF:∀ {R:List Nat} {k:List PV→PM},(zNC R k).run o e=some e'→(∀ r∈R,(e.get r).isLock=false)∧(k (R.map e.get)).run o e=some e'
 | [],k,h=>⟨by simp,h⟩
 | r :: R,k,h=>by
  simp only [zNC,PM.run] at h
  split at h
  ·cases h
  ·rename_i p hp
   obtain ⟨h1,h2⟩:=zJF h
   refine ⟨fun x hx=>?_,h2⟩
   rcases List.mem_cons.1 hx with rfl | hx
   ·cases hl:(e.get x)<;>first | rfl | exact absurd hl (hp _)
   ·exact h1 x hx
theorem zKE:∀ {n:Nat} {R:List Nat} {k:List Nat→PM},(zKM n R k).run o e=some e'→∃ R',(k R').run o e=some e'
 | 0,R,k,h=>⟨R,h⟩
 | n+1,R,k,h=>by
  simp only [zKM] at h
  obtain ⟨_,h1⟩:=zJF h
  revert h1
  cases Nat.beq _ _ with
  | true=>exact fun h=>⟨_,h⟩
  | false=>exact fun h=>zKE h
def zDP:List Nat→PV→PV
 | [],a=>a
 | r::R,a=>if (zBP r [] a).isWay=true then zDP R a else zBP r [] a
theorem zGY (r:Nat) (p:PV):zBP r [] p=p∨(p.isWay=true∧zBP r [] p = .bad):=by
 cases p<;>first | exact .inl rfl | skip
 all_goals
  simp only [zBP,PV.isWay,true_and]
  cases (Nat.beq _ r&&_)<;>simp
theorem zIV:∀ (R:List Nat) (p:PV),zDP R p=p∨(p.isWay=true∧zDP R p = .bad)
 | [],p => .inl rfl
 | r::R,p=>by
  simp only [zDP]
  split
  ·exact zIV R p
  ·exact zGY r p
theorem zKy {k:PM}:∀ {R:List Nat} {e:Env},(zKn R k).run o e=some e'→∃ e1,k.run o e1=some e'∧∀ s,e1.get s=(e.get s).mapW (zDP R)
 | [],e,h=>⟨e,h,fun s=>by rw [show zDP []=fun x=>x from rfl,zBk]⟩
 | r::R,e,h=>by
  simp only [zKn,PM.run] at h
  obtain ⟨e1,h1,h2⟩:=zKy h
  refine ⟨e1,h1,fun s=>?_⟩
  rw [h2 s,Env.get_killEx,zEQ]
  refine zDy (fun a ha=>?_) _
  simp only [zDP]
  rcases zGY r a with h3 | ⟨_,h3⟩
  ·rw [h3,if_pos ha,zFZ ha]
  ·rw [h3];rfl
theorem zWB {pre:zAU} {y:PV} (hI:PV.bad≠y) (h:(bif !pre.isEmpty then PV.bad else y)=y):pre=[]:=by
 cases pre with
 | nil=>rfl
 | cons x xs=>exact absurd h hI
theorem zII:∀ {R:List Nat} {a:PV},a.isWay=true→zDP R a=a→(∀ k,a ≠ .yld k)→(∀ xs k,a ≠ .log xs k)→(zA9 a).1∈R→(zA9 a).2=[]
 | [],_,_,_,_,_,h=>by cases h
 | r :: R,a,ha,hk,hy,hl,hm=>by
  simp only [zDP] at hk
  by_cases hr:(zA9 a).1=r
  ·have ko:zBP r [] a=a:=by
    rcases zGY r a with h3 | ⟨_,h3⟩
    ·exact h3
    ·rw [h3] at hk;simp only [PV.isWay,Bool.false_eq_true,if_false] at hk;rw [← hk] at ha;cases ha
   cases a<;>first | (cases ha;done) | (exact absurd rfl (hy _)) | (exact absurd rfl (hl _ _)) | skip
   all_goals
    simp only [zA9] at hr ⊢
    subst hr
    simp only [zBP,Nat.beq_refl,Bool.true_and,List.any_nil,Bool.or_false] at ko
    exact zWB (by simp) ko
  ·have hm':(zA9 a).1∈R:=(List.mem_cons.1 hm).resolve_left hr
   rcases zGY r a with h3 | ⟨_,h3⟩
   ·rw [h3,if_pos ha] at hk;exact zII ha hk hy hl hm'
   ·rw [h3] at hk;simp only [PV.isWay,Bool.false_eq_true,if_false] at hk;rw [← hk] at ha;cases ha
theorem zM4 {k:PM}:∀ {R:List Nat} {os ps:List PV} {e:Env},R.Nodup→(zNe R os ps k).run o e=some e'→∃ e1,k.run o e1=some e'∧ps.length=R.length∧os.length=R.length∧(∀ (j:Nat) (x y:PV),os[j]? = some x→ps[j]? = some y→zGg x y=true) ∧
   (∀ s,s∉R→e1.get s=e.get s)∧∀ (j r:Nat) (p:PV),R[j]? = some r→ps[j]? = some p→e1.get r=p
 | [],os,ps,e,hn,h=>by
  cases os<;>cases ps<;>simp only [zNe] at h<;>try (cases h;done)
  exact ⟨e,h,rfl,rfl,by simp,fun _ _=>rfl,by simp⟩
 | r :: R,os,ps,e,hn,h=>by
  cases os<;>cases ps<;>simp only [zNe] at h<;>try (cases h;done)
  rename_i x os y ps
  obtain ⟨h1,h2⟩:=zAJ h
  obtain ⟨root,_,hm,h3⟩:=zBY h2
  simp only [zAu,Option.some.injEq] at hm;subst hm
  obtain ⟨qH,hnR⟩:=List.nodup_cons.1 hn
  obtain ⟨e1,g1,g2,g3,g4,g5,g6⟩:=zM4 hnR h3
  refine ⟨e1,g1,by simp [g2],by simp [g3],fun j x' y' hx hy=>?_,fun s hs=>?_,fun j r' p hr hp=>?_⟩
  ·cases j with
   | zero=>simp at hx hy;subst hx;subst hy;exact h1
   | succ j=>exact g4 j x' y' (by simpa using hx) (by simpa using hy)
  ·simp only [List.mem_cons,not_or] at hs
   rw [g5 s hs.2,Env.get_set,if_neg hs.1]
  ·cases j with
   | zero =>
    simp at hr hp;subst hr;subst hp
    rw [g5 _ qH,Env.get_set,if_pos rfl]
   | succ j=>exact g6 j r' p (by simpa using hr) (by simpa using hp)
theorem zN4 (k:Nat):∀ (ps:List PV) (i:Nat) (s:Nat),Env.get ((ps.zipIdx i).map fun x=>(k+x.2,x.1)) s=if k+i≤s∧s<k+i+ps.length then ps.getD (s-k-i) .bad else .bad
 | [],i,s=>by simp [Env.get]
 | p :: ps,i,s=>by
  simp only [List.zipIdx_cons,List.map_cons,Env.get,zN4 k ps (i+1) s]
  by_cases h:s=k+i
  ·subst h
   simp
  ·have:Nat.beq (k+i) s=false:=by
    cases hb:Nat.beq (k+i) s with
    | false=>rfl
    | true=>exact absurd (Nat.eq_of_beq_eq_true hb).symm h
   rw [this,cond_false]
   by_cases h2:k+i≤s∧s<k+i+(p::ps).length
   ·have h3:k+(i+1)≤s∧s<k+(i+1)+ps.length:=by simp at h2;omega
    rw [if_pos h2,if_pos h3]
    have e1:s-k-i=(s-k-(i+1))+1:=by omega
    rw [e1];simp
   ·have h3:¬ (k+(i+1)≤s∧s<k+(i+1)+ps.length):=by simp at h2 ⊢;omega
    rw [if_neg h2,if_neg h3]
theorem zPE (a b:Env) (s:Nat):Env.get (a++b) s=bif a.any (fun x=>Nat.beq x.1 s) then Env.get a s else Env.get b s:=by
 induction a with
 | nil=>rfl
 | cons x a ih =>
  obtain ⟨k,v⟩:=x
  simp only [List.cons_append,Env.get,ih,List.any_cons]
  cases Nat.beq k s<;>rfl
end
structure Gave (v:PV) (u:Value) (rv:Nat→Value) (E:Nat→PV):Prop where
 one:(∀ ps,v ≠ .tup ps)→E zAA=v∧rv zAA=u
 many:∀ ps,v = .tup ps→∃ us:Array Value,u = .tuple us∧us.size=ps.length∧∀ (j:Nat) (p:PV),ps[j]? = some p→E (zAA+j)=p∧us[j]? = some (rv (zAA+j))
def Means (P:Program) (f:FuncId) (args hid:List PV) (v:PV) (hO:List PV):Prop :=
 ∀ (w:World) (Φ:Nat→Prop) (rv:Nat→Value) (E:Nat→PV) (L:Nat→List Nat) (vs:Array Value),(∀ s,s<zAb→E s=(zBb args hid).get s)→(∀ s,zAb≤s→E s = .bad)→Conf w (fun b=>∃ s,b∈L s) Φ w Φ rv E L→vs.size=args.length→(∀ i,i<args.length→vs[i]? = some (rv i))→(∀ s,args.length≤s→s<zAl→rv s=undef) →
  Calls P f vs w fun e w'=>∃ u Φ' rv' E' L',e = .returned u∧Conf w (fun b=>∃ s,b∈L s) Φ w' Φ' rv' E' L'∧hO.length=hid.length ∧
   (∀ j,j<hid.length→E' (zAl+j)=hO.getD j .bad∧rv' (zAl+j)=rv (zAl+j))∧Gave v u rv' E'
def Callable (P:Program) (f:FuncId):Prop:=∃ fn,P.funcs[f]? = some fn∧fn.body.isNone=false
def zGc (P:Program) (o:zAF):Prop:=∀ f args hid v hO,o f args hid=some (v,hO)→Callable P f∧Means P f args hid v hO
theorem zDl {args hid:List PV} (ha:args.length≤zAl) (s:Nat):(zBb args hid).get s=if s<args.length then args.getD s .bad else if zAl≤s∧s<zAl+hid.length then hid.getD (s-zAl) .bad else .bad:=by
  have e1:(args.zipIdx.map fun (p,i)=>(i,p))=(args.zipIdx 0).map fun x=>(0+x.2,x.1):=by
    apply List.map_congr_left;intro x _;simp
  have e2:(hid.zipIdx.map fun (p,j)=>(zAl+j,p))=(hid.zipIdx 0).map fun x=>(zAl+x.2,x.1):=rfl
  have hany:∀ (ps:List PV) (i:Nat),((ps.zipIdx i).map fun x=>(0+x.2,x.1)).any (fun x=>Nat.beq x.1 s)=decide (i≤s∧s<i+ps.length):=by
    intro ps
    induction ps with
    | nil => intro i;have:¬ (i≤s∧s<i):=by omega
             simp [this]
    | cons p ps ih =>
      intro i
      simp only [List.zipIdx_cons,List.map_cons,List.any_cons,ih (i+1)]
      by_cases h:s=i
      · subst h;simp
      · have:Nat.beq (0+i) s=false:=by
          cases hb:Nat.beq (0+i) s with
          | false=>rfl
          | true=>exact absurd (Nat.eq_of_beq_eq_true hb) (by omega)
        rw [this,Bool.false_or]
        apply decide_eq_decide.2
        simp;omega
  simp only [zBb]
  rw [e1,e2,zPE,hany args 0,zN4,zN4]
  by_cases h:s<args.length
  · have h1:decide (0≤s∧s<0+args.length)=true:=decide_eq_true (by omega)
    rw [h1,cond_true,if_pos (by omega),if_pos h];simp
  · have h1:decide (0≤s∧s<0+args.length)=false:=decide_eq_false (by omega)
    rw [h1,cond_false,if_neg h];simp
section
variable {w0 w w':World} {U Φ0 Φ Φ1 Φ' Φ2:Nat→Prop} {rv rv':Nat→Value} {E E':Nat→PV} {L L':Nat→List Nat}
def zW9 (w:World) (rv:Nat→Value) (E:Nat→PV) (Φ1:Nat→Prop) (i:Nat) (x:Arg):Prop :=
 (x.byref=true∧x.p=E (zAb+i))∨(x.byref=false∧x.p=E (zAb+i)∧(E (zAb+i)).ways=[])∨(x.byref=false∧Rep w Φ1 zCe x.p (rv (zAb+i)) [])
def zNy (R:List Nat) (x:Arg):PV:=if x.byref then zGy (zDu R) x.p else x.p
theorem zUI {A A':Al} {p:PV} {v:Value} {M:List Nat} (hp:p.ways=[]) (hA:∀ a v,a.isWay=true→A a v→a.ways≠[]) (h:Rep w Φ A p v M):Rep w Φ A' p v M :=
 h.ways _ _ _ fun a v hw hx ha=>by
  rw [hp] at hx
  have h1:=hA a v hw ha
  cases uk:a.ways with
  | nil=>exact absurd uk h1
  | cons z zs=>have:=hx z (by rw [uk];simp);cases this
open Classical in
theorem zPJ (C:Conf w0 U Φ0 w Φ rv E L) {R:List Nat} (hR:R.Nodup) (hRl:∀ r∈R,(E r).isLock=false) (wE:∀ r∈R,r<zAb) (hRn:R.length≤1000) {as:List Arg} (hAn:as.length≤1000) (hΦ:∀ b,Φ b→Φ1 b) (hΦs:∀ b,Φ1 b→b<w.heap.size)
  (hΦR:∀ r∈R,∀ b∈L r,¬ Φ1 b) (hΦa:∀ i,i<as.length→∀ b∈L (zAb+i),¬ Φ1 b) (hA:∀ i x,as[i]? = some x→zW9 w rv E Φ1 i x) :
  ∃ rvc Ec Lc,(∀ s,s<zAb→Ec s=(zBb (as.map (zNy R)) (R.map fun r=>zGy (zDu R) (E r))).get s)∧(∀ s,zAb≤s→Ec s = .bad)∧Conf w (fun b=>∃ s,b∈Lc s) Φ1 w Φ1 rvc Ec Lc ∧
   (∀ i,i<as.length→rvc i=rv (zAb+i))∧(∀ (j r:Nat),R[j]? = some r→rvc (zAl+j)=rv r)∧(∀ s,as.length≤s→s<zAl→rvc s=undef)∧∀ b,(∃ s,b∈Lc s)→(∃ r∈R,b∈L r)∨∃ i,i<as.length∧b∈L (zAb+i):=by
 let K:Nat→Prop:=fun i=>∃ x,as[i]? = some x∧x.byref=false∧Rep w Φ1 zCe x.p (rv (zAb+i)) []
 let src:Nat→Option Nat:=fun s=>if s<as.length then (if K s then none else some (zAb+s)) else if zAl≤s then R[s-zAl]? else none
 let rvc:Nat→Value:=fun s=>if s<as.length then rv (zAb+s) else match src s with | some t=>rv t | none=>undef
 let Lc:Nat→List Nat:=fun s=>match src s with | some t=>L t | none=>[]
 let Ec:Nat→PV:=fun s=>if s<zAb then (zBb (as.map (zNy R)) (R.map fun r=>zGy (zDu R) (E r))).get s else .bad
 have hh:zAl=50000000:=rfl
 have wa:zAb=1000000000:=rfl
 have yW:∀ s,s<zAb→Ec s=if s<as.length then (as.map (zNy R)).getD s .bad else if zAl≤s∧s<zAl+R.length then (R.map fun r=>zGy (zDu R) (E r)).getD (s-zAl) .bad else .bad:=by
  intro s hs
  simp only [Ec,if_pos hs]
  rw [zDl (by simp;omega)]
  simp
 have hEh:∀ (j r:Nat),R[j]? = some r→Ec (zAl+j)=(E r).mapW (zEn (zDu R)):=by
  intro j r hj
  have jQ:j<R.length:=(List.getElem?_eq_some_iff.1 hj).1
  rw [yW _ (by omega),if_neg (by omega),if_pos (by omega)]
  simp [List.getD,hj,zGy]
 have hrh:∀ (j r:Nat),R[j]? = some r→rvc (zAl+j)=rv r:=by
  intro j r hj
  have jQ:j<R.length:=(List.getElem?_eq_some_iff.1 hj).1
  have:src (zAl+j)=some r:=by
   simp only [src]
   rw [if_neg (by omega),if_pos (by omega),Nat.add_sub_cancel_left,hj]
  simp only [rvc,this]
  rw [if_neg (by omega)]
 have ga:∀ s t,src s=some t→(t∈R∧∃ j,s=zAl+j∧R[j]? = some t)∨(s<as.length∧t=zAb+s∧¬ K s):=by
  intro s t h
  simp only [src] at h
  split at h
  ·rename_i hs
   split at h
   ·cases h
   ·rename_i hk;cases h;exact .inr ⟨hs,rfl,hk⟩
  ·split at h
   ·rename_i hs
    exact .inl ⟨List.mem_of_getElem? h,s-zAl,by omega,h⟩
   ·cases h
 have gb:∀ s s' t,src s=some t→src s'=some t→s=s':=by
  intro s s' t h h'
  rcases ga s t h with ⟨h1,j,h2,h3⟩ | ⟨h1,h2,_⟩<;>rcases ga s' t h' with ⟨j5,j',je,wW⟩ | ⟨j5,je,_⟩
  ·have hj:j<R.length:=(List.getElem?_eq_some_iff.1 h3).1
   have:j=j':=(List.getElem?_inj hj hR).1 (h3.trans wW.symm)
   omega
  ·have:=wE t h1;omega
  ·have:=wE t j5;omega
  ·omega
 have uW:∀ a v,a.isWay=true→zA8 w rv E a v→Rep w Φ1 (zA8 w rvc Ec) (zEn (zDu R) a) v []:=by
  intro a v _ ha
  refine zML ha fun r h' hl hr=>?_
  obtain ⟨j,hj,rfl⟩:=zME hl
  have jQ:j<R.length:=(List.getElem?_eq_some_iff.1 hj).1
  refine ⟨by omega,fun pre nv np hn hh=>?_⟩
  rw [hrh j r hj,hEh j r hj,zDv (zC1 _)] at hn
  exact zCX (zC1 _) hn hh
 have hS:zDc w w Φ Φ1:=fun b hb=>⟨hΦ b hb,rfl⟩
 have hLs:∀ s b,b∈Lc s→∃ t,src s=some t∧b∈L t:=by
  intro s b hb
  simp only [Lc] at hb
  cases h:src s with
  | none=>rw [h] at hb;cases hb
  | some t=>rw [h] at hb;exact ⟨t,rfl,hb⟩
 have hU:∀ b,(∃ s,b∈Lc s)→(∃ r∈R,b∈L r)∨∃ i,i<as.length∧b∈L (zAb+i):=by
  rintro b ⟨s,hb⟩
  obtain ⟨t,h1,h2⟩:=hLs s b hb
  rcases ga s t h1 with ⟨h3,_⟩ | ⟨h3,rfl,_⟩
  ·exact .inl ⟨t,h3,h2⟩
  ·exact .inr ⟨s,h3,h2⟩
 have hnΦ:∀ b,(∃ s,b∈Lc s)→¬ Φ1 b:=by
  intro b hb
  rcases hU b hb with ⟨r,h1,h2⟩ | ⟨i,h1,h2⟩
  ·exact hΦR r h1 b h2
  ·exact hΦa i h1 b h2
 refine ⟨rvc,Ec,Lc,fun s hs=>if_pos hs,fun s hs=>if_neg (by omega),⟨fun s=>?_,fun s=>?_,fun s s' hI b hb yG=>?_,fun s b hb=>?_,fun b hb=>⟨hΦs b hb,.inl hb⟩,fun b hb=>hb,Nat.le_refl _,fun _ _ _=>rfl,rfl,rfl,rfl⟩,fun i hi=>if_pos hi,hrh,fun s h1 h2=>by simp only [rvc,src,if_neg (by omega:¬ s<as.length),if_neg (by omega:¬ zAl≤s)],hU⟩
 ·by_cases hs:s<as.length
  ·have hx:as[s]? = some (as[s]):=List.getElem?_eq_getElem hs
   have hE:Ec s=zNy R as[s]:=by rw [yW s (by omega),if_pos hs];simp [List.getD,hx]
   have hrvs:rvc s=rv (zAb+s):=if_pos hs
   rw [hE,hrvs]
   by_cases hk:K s
   ·have hL:Lc s=[]:=by simp only [Lc,src,if_pos hs,if_pos hk]
    rw [hL]
    obtain ⟨x,h1,h2,h3⟩:=hk
    rw [hx] at h1;cases h1
    simp only [zNy,h2,Bool.false_eq_true,if_false]
    exact h3.mono zDc.refl (fun _ _ _ h=>h.elim) (by simp)
   ·have hL:Lc s=L (zAb+s):=by simp only [Lc,src,if_pos hs,if_neg hk]
    rw [hL]
    rcases hA s _ hx with ⟨h1,h2⟩ | ⟨h1,h2,h3⟩ | ⟨h1,h2⟩
    ·simp only [zNy,h1,if_true,h2]
     exact Rep.map (zC1 _).agg hS uW _ _ _ (fun _ _=>rfl) (C.rep (zAb+s))
    ·simp only [zNy,h1,Bool.false_eq_true,if_false,h2]
     exact (zUI h3 (fun a v hw h=>zI0 hw h) (C.rep (zAb+s))).mono (A:=zCe) hS (fun _ _ _ h=>h.elim) (fun _ _=>rfl)
    ·exact absurd ⟨_,hx,h1,h2⟩ hk
  ·by_cases hhs:zAl≤s∧s<zAl+R.length
   ·obtain ⟨j,rfl⟩:∃ j,s=zAl+j:=⟨s-zAl,by omega⟩
    have jQ:j<R.length:=by omega
    obtain ⟨r,hj⟩:∃ r,R[j]? = some r:=⟨_,List.getElem?_eq_getElem jQ⟩
    have hL:Lc (zAl+j)=L r:=by simp only [Lc,src,if_neg hs,if_pos hhs.1,Nat.add_sub_cancel_left,hj]
    rw [hL,hEh j r hj,hrh j r hj]
    exact Rep.map (zC1 _).agg hS uW _ _ _ (fun _ _=>rfl) (C.rep r)
   ·have hL:Lc s=[]:=by
     simp only [Lc,src,if_neg hs]
     by_cases hb:zAl≤s
     ·rw [if_pos hb,List.getElem?_eq_none (by omega)]
     ·rw [if_neg hb]
    have hE:Ec s = .bad:=by
     by_cases hg:s<zAb
     ·rw [yW s hg,if_neg hs,if_neg hhs]
     ·exact if_neg hg
    rw [hL,hE];rfl
 ·simp only [Lc]
  cases h:src s with
  | none=>exact List.nodup_nil
  | some t=>exact C.nodup t
 ·obtain ⟨t,h1,h2⟩:=hLs s b hb
  obtain ⟨t',j5,je⟩:=hLs s' b yG
  have:t=t':=Classical.byContradiction fun h=>C.disj t t' h b h2 je
  subst this
  exact hI (gb s s' t h1 j5)
 ·obtain ⟨t,h1,h2⟩:=hLs s b hb
  exact ⟨(C.own t b h2).1,hnΦ b ⟨s,hb⟩,.inl ⟨s,hb⟩⟩
theorem zMh {x y:PV} (h:zGg x y=true) (hx:x.isLock=false) (hh:y.unlock.heavy0=true):y.unlock=y∧zCl x.unlock y:=by
 cases y<;>simp only [PV.unlock,PV.heavy0] at hh<;>try (cases hh;done)
 ·cases x<;>simp only [zGg] at h<;>try (cases h;done)
  exact ⟨rfl,(Nat.eq_of_beq_eq_true h).symm⟩
 ·cases x<;>simp only [zGg] at h<;>try (cases h;done)
  exact ⟨rfl,trivial⟩
 ·cases x<;>simp only [zGg] at h<;>try (cases h;done)
  exact ⟨rfl,trivial⟩
 ·cases x<;>simp only [zGg] at h<;>cases h
theorem zKi (C:Conf w0 U Φ0 w Φ rv E L) {R:List Nat} (hR:R.Nodup) (hRl:∀ r∈R,(E r).isLock=false) (wE:∀ r∈R,r<zAb) (hRn:R.length≤1000) {m:Nat} {Uc:Nat→Prop}
    (hUc:∀ b,Uc b→(∃ r∈R,b∈L r)∨∃ i,i<m∧b∈L (zAb+i)) (C':Conf w Uc Φ1 w' Φ' rv' E' L') (j3:∀ (j r:Nat),R[j]? = some r→rv' (zAl+j)=rv r)
    (yH:∀ (j r:Nat),R[j]? = some r→zGg (E r) (zGy (zCg R) (E' (zAl+j)))=true) {n:Nat} (hn:n≤1000)
    (hΦ2:∀ b,Φ b→Φ2 b) (hΦ2s:∀ b,Φ2 b→b<w'.heap.size∧(Φ0 b∨U b∨w0.heap.size≤b)) (hΦ2o:∀ s,s<zAb→s∉R→∀ b∈L s,¬ Φ2 b) (hΦ2n:∀ t b,b∈L' t→¬ Φ2 b)
    (hT:∀ t,((∃ j,j<R.length∧t=zAl+j)∨∃ j,j<n∧t=zAA+j)→Rep w' Φ2 (zA8 w' rv' E') (E' t) (rv' t) (L' t)) :
    ∃ rv2 E2 L2,Conf w0 U Φ0 w' Φ2 rv2 E2 L2∧(∀ s,s<zAb→rv2 s=rv s)∧(∀ s,s<zAb→s∉R→E2 s=(E s).mapW (zDP R))∧(∀ (j r:Nat),R[j]? = some r→E2 r=zGy (zCg R) (E' (zAl+j))) ∧
      (∀ j,j<n→E2 (zAb+j)=zGy (zCg R) (E' (zAA+j))∧rv2 (zAb+j)=rv' (zAA+j))∧∀ s,zAb+n≤s→E2 s = .bad:=by
  have hh:zAl=50000000:=rfl
  have ho:zAA=60000000:=rfl
  have wa:zAb=1000000000:=rfl
  let cal:Nat→Option Nat:=fun s=>if s<zAb then (match R.findIdx? (· == s) with | some j=>some (zAl+j) | none=>none) else if s<zAb+n then some (zAA+(s-zAb)) else none
  let rv2:Nat→Value:=fun s=>if s<zAb then rv s else match cal s with | some t=>rv' t | none=>undef
  let E2:Nat→PV:=fun s=>match cal s with | some t=>zGy (zCg R) (E' t) | none=>if s<zAb then (E s).mapW (zDP R) else .bad
  let L2:Nat→List Nat:=fun s=>match cal s with | some t=>L' t | none=>if s<zAb then L s else []
  have uC:∀ (j r:Nat),R[j]? = some r→cal r=some (zAl+j):=by
    intro j r hj
    have hr:=wE r (List.mem_of_getElem? hj)
    have:R.findIdx? (· == r)=some j:=by
      rw [List.findIdx?_eq_some_iff_getElem]
      have jQ:j<R.length:=(List.getElem?_eq_some_iff.1 hj).1
      have hjr:R[j]=r:=(List.getElem?_eq_some_iff.1 hj).2
      refine ⟨jQ,by simp [hjr],fun k hk=>?_⟩
      simp only [beq_iff_eq,Bool.not_eq_true,beq_eq_false_iff_ne]
      intro hc
      have wD:k<R.length:=by omega
      have h1:R[k]? = R[j]?:=by rw [List.getElem?_eq_getElem wD,hc,hj]
      have:=(List.getElem?_inj wD hR).1 h1
      omega
    simp only [cal,if_pos hr,this]
  have wF:∀ s,s<zAb→s∉R→cal s=none:=by
    intro s hs jC
    have:R.findIdx? (· == s)=none:=by
      rw [List.findIdx?_eq_none_iff]
      intro x hx
      simp only [beq_eq_false_iff_ne]
      intro hc;subst hc;exact jC hx
    simp only [cal,if_pos hs,this]
  have yz:∀ s t,cal s=some t→(∃ j,R[j]? = some s∧t=zAl+j∧j<R.length∧s<zAb)∨∃ j,j<n∧s=zAb+j∧t=zAA+j:=by
    intro s t h
    by_cases hs:s<zAb
    · by_cases jC:s∈R
      · obtain ⟨j,hj⟩:=List.getElem?_of_mem jC
        rw [uC j s hj] at h;cases h
        exact .inl ⟨j,hj,rfl,(List.getElem?_eq_some_iff.1 hj).1,hs⟩
      · rw [wF s hs jC] at h;cases h
    · simp only [cal,if_neg hs] at h
      split at h
      · have h:=Option.some.inj h;exact .inr ⟨s-zAb,by omega,by omega,h.symm⟩
      · cases h
  have gb:∀ s s' t,cal s=some t→cal s'=some t→s=s':=by
    intro s s' t h h'
    rcases yz s t h with ⟨j,h1,h2,h3,_⟩ | ⟨j,h1,h2,h3⟩<;>rcases yz s' t h' with ⟨j',j5,je,wW,_⟩ | ⟨j',j5,je,wW⟩
    · have:j=j':=by omega
      subst this
      rw [h1] at j5;simpa using j5
    · omega
    · omega
    · omega
  have yV:∀ s,cal s=none→s<zAb→s∉R:=by
    intro s h hs jC
    obtain ⟨j,hj⟩:=List.getElem?_of_mem jC
    rw [uC j s hj] at h;cases h
  have qm:∀ s,s<zAb→s∉R→∀ b∈L s,¬ Uc b:=by
    intro s hs jC b hb hu
    rcases hUc b hu with ⟨r,h1,h2⟩ | ⟨i,h1,h2⟩
    · exact C.disj s r (fun hc=>jC (hc▸h1)) b hb h2
    · exact C.disj s (zAb+i) (by omega) b hb h2
  have yf:∀ s,s<zAb→s∉R→∀ b∈L s,w'.heap[b]? = w.heap[b]?:=fun s hs jC b hb=>C'.kept b (C.own s b hb).1 (qm s hs jC b hb)
  have hΦsame:zDc w w' Φ Φ2:=fun b hb=>⟨hΦ2 b hb,C'.kept b (C.frz b hb).1 fun hu=>by
    rcases hUc b hu with ⟨r,_,h2⟩ | ⟨i,_,h2⟩
    · exact (C.own r b h2).2.1 hb
    · exact (C.own _ b h2).2.1 hb⟩
  have gc:=zIV R
  have hown:∀ a v,a.isWay=true→zA8 w rv E a v→zDP R a=a→zA8 w' rv2 E2 a v:=by
    intro a v hw ha hk
    have hr:=zC3 ha
    have hy:∀ k,a ≠ .yld k:=fun k hc=>by subst hc;exact ha.elim
    have hl:∀ xs k,a ≠ .log xs k:=fun xs k hc=>by subst hc;exact ha.elim
    by_cases hrR:(zA9 a).1∈R
    · have hp:=zII hw hk hy hl hrR
      obtain ⟨j,hj⟩:=List.getElem?_of_mem hrR
      refine ha.mono fun nv np j2 qb=>?_
      rw [hp] at j2 ⊢
      simp only [zAR,Option.some.injEq,Prod.mk.injEq] at j2
      obtain ⟨h1,h2⟩:=j2
      have hE2:E2 (zA9 a).1=zGy (zCg R) (E' (zAl+j)):=by simp only [E2,uC j _ hj]
      rw [hE2] at h2
      obtain ⟨g1,g2⟩:=zMh (yH j _ hj) (hRl _ hrR) (by rw [h2];exact qb)
      refine ⟨(E (zA9 a).1).unlock,?_,by rw [← h2,g1];exact g2⟩
      simp only [zAR,Option.some.injEq,Prod.mk.injEq,and_true]
      rw [← h1];simp only [rv2,if_pos hr]
    · refine zCM C (zDr gc) ha ?_ ?_ (yf _ hr hrR)
      · simp only [E2,wF _ hr hrR,if_pos hr]
      · simp only [rv2,if_pos hr]
  have hown':∀ a v,a.isWay=true→zA8 w rv E a v→Rep w' Φ2 (zA8 w' rv2 E2) (zDP R a) v []:=by
    intro a v hw ha
    rcases gc a with hk | ⟨_,hk⟩
    · rw [hk];exact zC2 hw (hown a v hw ha hk)
    · rw [hk];rfl
  have hback:∀ a v,a.isWay=true→zA8 w' rv' E' a v→Rep w' Φ2 (zA8 w' rv2 E2) (zEn (zCg R) a) v []:=by
    intro a v _ ha
    refine zML ha fun r h' hl hr=>?_
    obtain ⟨j,hj,rfl⟩:=zNv hl
    have j6:=wE h' (List.mem_of_getElem? hj)
    refine ⟨j6,fun pre nv np j2 qb=>?_⟩
    have e1:rv2 h'=rv' (zAl+j):=by simp only [rv2,if_pos j6];exact (j3 j h' hj).symm
    have e2:E2 h'=(E' (zAl+j)).mapW (zEn (zCg R)):=by simp only [E2,uC j h' hj];rfl
    rw [e1,e2,zDv (zC1 _)] at j2
    exact zCX (zC1 _) j2 qb
  have ur:∀ s b,b∈L2 s→(∃ t,cal s=some t∧b∈L' t)∨(cal s=none∧s<zAb∧b∈L s):=by
    intro s b hb
    simp only [L2] at hb
    cases h:cal s with
    | some t=>rw [h] at hb;exact .inl ⟨t,rfl,hb⟩
    | none =>
      rw [h] at hb
      by_cases hs:s<zAb
      · simp only [if_pos hs] at hb;exact .inr ⟨rfl,hs,hb⟩
      · simp only [if_neg hs] at hb;cases hb
  have wG:∀ t s b,b∈L' t→s<zAb→s∉R→b∉L s:=by
    intro t s b hb hs jC jy
    rcases (C'.own t b hb).2.2 with h1 | h1
    · exact qm s hs jC b jy h1
    · have:=(C.own s b jy).1;omega
  refine ⟨rv2,E2,L2,⟨fun s=>?_,fun s=>?_,fun s s' hI b hb yG=>?_,fun s b hb=>?_,hΦ2s,fun b hb=>hΦ2 b (C.frz0 b hb),Nat.le_trans C.size C'.size,fun b hb hu=>?_,C'.os.trans C.os,C'.tape.trans C.tape,C'.output.trans C.output⟩,fun s hs=>if_pos hs,fun s hs jC=>?_,fun j r hj=>?_,fun j hj=>?_,fun s hs=>?_⟩
  · cases h:cal s with
    | some t =>
      have e1:E2 s=zGy (zCg R) (E' t):=by simp only [E2,h]
      have e2:L2 s=L' t:=by simp only [L2,h]
      have e3:rv2 s=rv' t:=by
        rcases yz s t h with ⟨j,h1,h2,_,h4⟩ | ⟨j,h1,h2,h3⟩
        · simp only [rv2,if_pos h4];rw [h2];exact (j3 j s h1).symm
        · simp only [rv2];rw [if_neg (by omega),h]
      rw [e1,e2,e3]
      refine Rep.map (zC1 _).agg zDc.refl hback _ _ _ (fun _ _=>rfl) (hT t ?_)
      rcases yz s t h with ⟨j,_,h2,h3,_⟩ | ⟨j,h1,_,h3⟩
      · exact .inl ⟨j,h3,h2⟩
      · exact .inr ⟨j,h1,h3⟩
    | none =>
      by_cases hs:s<zAb
      · have e1:E2 s=(E s).mapW (zDP R):=by simp only [E2,h,if_pos hs]
        have e2:L2 s=L s:=by simp only [L2,h,if_pos hs]
        have e3:rv2 s=rv s:=if_pos hs
        rw [e1,e2,e3]
        exact Rep.map (zDr gc).agg hΦsame hown' _ _ _ (yf s hs (yV s h hs)) (C.rep s)
      · have e1:E2 s = .bad:=by simp only [E2,h,if_neg hs]
        have e2:L2 s=[]:=by simp only [L2,h,if_neg hs]
        rw [e1,e2];rfl
  · simp only [L2]
    cases h:cal s with
    | some t=>exact C'.nodup t
    | none => by_cases hs:s<zAb
              · simp only [if_pos hs];exact C.nodup s
              · simp only [if_neg hs];exact List.nodup_nil
  · rcases ur s b hb with ⟨t,h1,h2⟩ | ⟨h1,h2,h3⟩<;>rcases ur s' b yG with ⟨t',j5,je⟩ | ⟨j5,je,wW⟩
    · have:t=t':=Classical.byContradiction fun h=>C'.disj t t' h b h2 je
      subst this;exact hI (gb s s' t h1 j5)
    · exact wG t s' b h2 je (yV s' j5 je) wW
    · exact wG t' s b je h2 (yV s h1 h2) h3
    · exact C.disj s s' hI b h3 wW
  · rcases ur s b hb with ⟨t,h1,h2⟩ | ⟨h1,h2,h3⟩
    · have:=C'.own t b h2
      refine ⟨this.1,hΦ2n t b h2,?_⟩
      rcases this.2.2 with h4 | h4
      · rcases hUc b h4 with ⟨r,_,h5⟩ | ⟨i,_,h5⟩
        · exact (C.own r b h5).2.2
        · exact (C.own _ b h5).2.2
      · exact .inr (Nat.le_trans C.size h4)
    · have:=C.own s b h3
      exact ⟨Nat.lt_of_lt_of_le this.1 C'.size,hΦ2o s h2 (yV s h1 h2) b h3,this.2.2⟩
  · rw [C'.kept b (Nat.lt_of_lt_of_le hb C.size) fun h=>?_]
    · exact C.kept b hb hu
    · have hx:∀ t,b∈L t→False:=fun t ht=>by
        rcases (C.own t b ht).2.2 with h1 | h1
        · exact hu h1
        · omega
      rcases hUc b h with ⟨r,_,h5⟩ | ⟨i,_,h5⟩
      · exact hx r h5
      · exact hx _ h5
  · simp only [E2,wF s hs jC,if_pos hs]
  · simp only [E2,uC j r hj]
  · have:cal (zAb+j)=some (zAA+j):=by
      simp only [cal];rw [if_neg (by omega),if_pos (by omega),Nat.add_sub_cancel_left]
    refine ⟨by simp only [E2,this],?_⟩
    simp only [rv2,this];rw [if_neg (by omega)]
  · have:cal s=none:=by simp only [cal];rw [if_neg (by omega),if_neg (by omega)]
    simp only [E2,this];rw [if_neg (by omega)]
end
theorem zEA {w:World}:∀ {pre:zAU} {v nv:Value} {p q:PV},zAR w v p pre=some (nv,q)→zAz p pre=some q
 | [],v,nv,p,q,h=>by simp only [zAR,Option.some.injEq,Prod.mk.injEq] at h;simp [zAz,h.2]
 | (i,c)::rest,v,nv,p,q,h=>by
  rw [zA6] at h
  rw [zCa]
  cases hc:Eng.child p i c with
  | none=>rw [hc] at h;cases h
  | some x =>
   rw [hc] at h;simp only [Option.bind_some] at h ⊢
   cases hk:kid w v p i c with
   | none=>rw [hk] at h;cases h
   | some u=>rw [hk] at h;exact zEA h
theorem zPz (R:List Nat) (p:PV) (hp:p.isWay=true):(zDP R p).isTup=false:=by
 rcases zIV R p with h | ⟨_,h⟩
 ·rw [h];cases p<;>first | rfl | cases hp
 ·rw [h];rfl
theorem zPF (m:List (Nat×Nat)) (p:PV) (hp:p.isWay=true):(zEn m p).isTup=false:=by
 cases p<;>first | (cases hp;done) | skip
 all_goals
  simp only [zEn]
  first | rfl | (split<;>rfl)
section
variable {P:Program} {w0 w:World} {U Φ0 Φ:Nat→Prop} {nt:Nat} {hv:Hid} {a:Act} {e e':Env} {rv:Nat→Value} {E:Nat→PV} {L:Nat→List Nat} {o:zAF}
def zNE (w:World) (Φ:Nat→Prop) (rv:Nat→Value) (E:Nat→PV) (i:Nat) (x:Arg):Prop :=
 (∀ y∈x.shared,y.1<zAb)∧((x.byref=true∧x.p=E (zAb+i))∨(x.byref=false∧x.p=E (zAb+i)∧(E (zAb+i)).ways=[]) ∨
  (x.byref=false∧∀ Φ1:Nat→Prop,(∀ b,Φ b→Φ1 b)→(∀ y∈x.shared,Cov w Φ rv E Φ1 y)→Rep w Φ1 zCe x.p (rv (zAb+i)) []))
theorem zOE (jF:zGc P o) (S:St w0 U Φ0 nt hv a w e Φ rv E L) {d:Option Nat} (hd:∀ x,d=some x→x<nt) {f:FuncId} {as:List Arg} {vs:Array Value} (yD:vs.size=as.length) (ye:∀ i,i<as.length→vs[i]? = some (rv (zAb+i)))
  (hA:∀ i x,as[i]? = some x→zNE w Φ rv E i x) {again:PM} (h:(zQC d f as again).run o e=some e') :
  again.run o e=some e'∨Callable P f∧Calls P f vs w fun en w''=>∃ u,en = .returned u∧Fr w0 U Φ0 nt hv (a.put d u) w'' e':=by
 have hh:zAl=50000000:=rfl
 have ho:zAA=60000000:=rfl
 have wa:zAb=1000000000:=rfl
 have kA:=S.small
 obtain ⟨R,h1⟩:=zKE h
 obtain ⟨hc,h2⟩:=zAJ h1
 simp only [Bool.and_eq_true] at hc
 obtain ⟨⟨⟨⟨jV,jE⟩,uY⟩,hc4⟩,hc5⟩:=hc
 have hR:=zGj jV
 have wE:∀ r∈R,r<zAb:=fun r hr=>zB3 (List.all_eq_true.1 jE r hr)
 have hRn:=Nat.le_of_ble_eq_true uY
 have hAn:=Nat.le_of_ble_eq_true hc4
 obtain ⟨hRl',h3⟩:=zJF h2
 have hRl:∀ r∈R,(E r).isLock=false:=fun r hr=>by rw [S.env r (wE r hr)];exact hRl' r hr
 have u6:R.map e.get=R.map E:=List.map_congr_left fun r hr=>(S.env r (wE r hr)).symm
 rw [u6] at h3
 simp only [PM.run] at h3
 cases hof:o f (as.map fun a=>if a.byref then zGy (zDu R) a.p else a.p) ((R.map E).map (zGy (zDu R))) with
 | none=>rw [hof] at h3;cases h3
 | some r =>
  obtain ⟨v,hO⟩:=r
  rw [hof] at h3;simp only at h3
  cases hb:((as.flatMap (·.shared)).isEmpty||v.free&&zFk hO) with
  | false=>rw [hb] at h3;exact .inl h3
  | true =>
   rw [hb] at h3;simp only [cond_true] at h3
   refine .inr ⟨(jF f _ _ v hO hof).1,?_⟩
   let sh:=as.flatMap (·.shared)
   let Φ1:Nat→Prop:=fun b=>Φ b∨∃ y∈sh,∃ nv q Li A,zAR w (rv y.1) (E y.1).unlock y.2=some (nv,q)∧Rep w Φ A q nv Li∧b∈Li
   have yw:∀ y∈sh,y.1∉R:=fun y hy hyR=>by
    have:=List.all_eq_true.1 hc5 y hy
    rw [List.contains_iff_mem.2 hyR] at this;cases this
   have kj:∀ (y:Nat×zAU) nv q Li A,zAR w (rv y.1) (E y.1).unlock y.2=some (nv,q)→Rep w Φ A q nv Li→∀ b∈Li,b∈L y.1:=by
    intro y nv q Li A hf hr b jL
    obtain ⟨nv',Li',h4,h5,h6⟩:=zBO (zB7 (S.conf.rep y.1)) (zEA hf)
    rw [hf] at h4;cases h4
    have:=Rep.uniq _ _ _ _ hr h6
    subst this;exact h5 b jL
   have hshg:∀ y∈sh,y.1<zAb:=by
    intro y hy
    obtain ⟨x,hx,hyx⟩:=List.mem_flatMap.1 hy
    obtain ⟨i,hi⟩:=List.getElem?_of_mem hx
    exact (hA i x hi).1 y hyx
   have hΦ:∀ b,Φ b→Φ1 b:=fun b hb => .inl hb
   have vF:∀ t,(∀ y∈sh,y.1≠t)→∀ b∈L t,¬ Φ1 b:=by
    intro t ht b kX y7
    rcases y7 with h4 | ⟨y,hy,nv,q,Li,A,h4,h5,h6⟩
    ·exact (S.conf.own t b kX).2.1 h4
    ·exact S.conf.disj y.1 t (ht y hy) b (kj y nv q Li A h4 h5 b h6) kX
   have hΦs:∀ b,Φ1 b→b<w.heap.size:=by
    rintro b (y7 | ⟨y,hy,nv,q,Li,A,h4,h5,h6⟩)
    ·exact (S.conf.frz b y7).1
    ·exact (S.conf.own _ b (kj y nv q Li A h4 h5 b h6)).1
   have hA':∀ i x,as[i]? = some x→zW9 w rv E Φ1 i x:=by
    intro i x hx
    rcases (hA i x hx).2 with h4 | h4 | ⟨h4,h5⟩
    ·exact .inl h4
    ·exact .inr (.inl h4)
    ·refine .inr (.inr ⟨h4,h5 Φ1 hΦ fun y hy nv q Li A hf hr b jL => .inr ⟨y,List.mem_flatMap.2 ⟨x,List.mem_of_getElem? hx,hy⟩,nv,q,Li,A,hf,hr,jL⟩⟩)
   obtain ⟨rvc,Ec,Lc,q1,q2,q3,q4,q5,q5u,q6⟩:=zPJ S.conf hR hRl wE hRn hAn hΦ hΦs (fun r hr=>vF r fun y hy hc=>yw y hy (hc▸hr)) (fun i hi=>vF (zAb+i) fun y hy hc=>by have:=hshg y hy;omega) hA'
   have gd:=(jF f _ _ v hO hof).2 w Φ1 rvc Ec Lc vs (fun s hs=>by rw [q1 s hs,List.map_map];rfl) q2 q3 (by simpa using yD) (fun i hi=>by
    have gP:i<as.length:=by simpa using hi
    rw [q4 i gP];exact ye i gP) (fun s h1 h2=>q5u s (by simpa using h1) h2)
   refine gd.mono fun en w' wH=>?_
   obtain ⟨u,Φ',rv',E',L',rfl,C',hZ,u7,uy⟩:=wH
   refine ⟨u,rfl,?_⟩
   obtain ⟨e1,g1,g2⟩:=zKy h3
   obtain ⟨e2,g3,g4,g5,g6,g7,g8⟩:=zM4 hR g1
   simp only [List.length_map] at g4 hZ u7
   have hE'h:∀ (j r:Nat),R[j]? = some r→∃ p,hO[j]? = some p∧E' (zAl+j)=p:=by
    intro j r hj
    have jQ:j<R.length:=(List.getElem?_eq_some_iff.1 hj).1
    have qI:j<hO.length:=by omega
    refine ⟨hO[j],List.getElem?_eq_getElem qI,?_⟩
    rw [(u7 j jQ).1];simp [List.getD,List.getElem?_eq_getElem qI]
   have j3:∀ (j r:Nat),R[j]? = some r→rv' (zAl+j)=rv r:=fun j r hj=>by
    rw [(u7 j (List.getElem?_eq_some_iff.1 hj).1).2,q5 j r hj]
   have yH:∀ (j r:Nat),R[j]? = some r→zGg (E r) (zGy (zCg R) (E' (zAl+j)))=true:=by
    intro j r hj
    obtain ⟨p,vm,wi⟩:=hE'h j r hj
    rw [wi]
    exact g6 j _ _ (by simp [hj]) (by simp [vm])
   have hΦ1sh:sh.isEmpty=true→∀ b,Φ1 b→Φ b:=by
    intro hs b y7
    rcases y7 with h4 | ⟨y,hy,_⟩
    ·exact h4
    ·rw [List.isEmpty_iff.1 hs] at hy;cases hy
   have yj:∀ s,s<zAb→s∉R→∀ b∈L s,¬ (∃ t,b∈Lc t):=by
    intro s hs jC b hb hu
    rcases q6 b hu with ⟨r,h4,h5⟩ | ⟨i,h4,h5⟩
    ·exact S.conf.disj s r (fun hc=>jC (hc▸h4)) b hb h5
    ·exact S.conf.disj s (zAb+i) (by omega) b hb h5
   have wI:zFk hO=true→∀ j,j<R.length→(E' (zAl+j)).free=true:=by
    intro hf j hj
    rw [(u7 j hj).1]
    have qI:j<hO.length:=by omega
    have key:∀ (l:List PV),zFk l=true→∀ j,j<l.length→(l.getD j .bad).free=true:=by
     intro l
     induction l with
     | nil=>intro _ j hj;simp at hj
     | cons x l ih =>
      intro h j hj
      simp only [zFk,Bool.and_eq_true] at h
      cases j with
      | zero=>exact h.1
      | succ j=>simpa using ih h.2 j (by simpa using hj)
    exact key hO hf j qI
   have back : ∀ n,n≤1000→(v.free=true→∀ j,j<n→(E' (zAA+j)).free=true) →
     ∃ Φ2 rv2 E2 L2,Conf w0 U Φ0 w' Φ2 rv2 E2 L2∧(∀ s,s<zAb→rv2 s=rv s)∧(∀ s,s<zAb→s∉R→E2 s=(E s).mapW (zDP R))∧(∀ (j r:Nat),R[j]? = some r→E2 r=zGy (zCg R) (E' (zAl+j))) ∧
     (∀ j,j<n→E2 (zAb+j)=zGy (zCg R) (E' (zAA+j))∧rv2 (zAb+j)=rv' (zAA+j))∧∀ s,zAb+n≤s→E2 s = .bad:=by
    intro n hn vY
    by_cases jc:sh.isEmpty=true
    ·obtain ⟨rv2,E2,L2,hl⟩:=zKi (Φ2:=Φ') S.conf hR hRl wE hRn q6 C' j3 yH hn (fun b y7=>C'.frz0 b (hΦ b y7))
      (fun b y7=>by
       refine ⟨(C'.frz b y7).1,?_⟩
       rcases (C'.frz b y7).2 with h4 | h4 | h4
       ·exact (S.conf.frz b (hΦ1sh jc b h4)).2
       ·rcases q6 b h4 with ⟨r,_,h5⟩ | ⟨i,_,h5⟩
        ·exact .inr (S.conf.own r b h5).2.2
        ·exact .inr (S.conf.own _ b h5).2.2
       ·exact .inr (.inr (Nat.le_trans S.conf.size h4)))
      (fun s hs jC b y7 hp=>by
       rcases (C'.frz b hp).2 with h4 | h4 | h4
       ·exact (S.conf.own s b y7).2.1 (hΦ1sh jc b h4)
       ·exact yj s hs jC b y7 h4
       ·have:=(S.conf.own s b y7).1;omega)
      (fun t b y7=>(C'.own t b y7).2.1) (fun t _=>C'.rep t)
     exact ⟨Φ',rv2,E2,L2,hl⟩
    ·have hvf:v.free=true∧zFk hO=true:=by
      have hse':sh.isEmpty=false:=by simpa using jc
      rw [show (as.flatMap (·.shared)).isEmpty=false from hse'] at hb
      simpa using hb
     obtain ⟨rv2,E2,L2,hl⟩:=zKi (Φ2:=Φ) S.conf hR hRl wE hRn q6 C' j3 yH hn (fun b y7=>y7)
      (fun b y7=>⟨Nat.lt_of_lt_of_le (S.conf.frz b y7).1 C'.size,(S.conf.frz b y7).2⟩)
      (fun s _ _ b y7=>(S.conf.own s b y7).2.1)
      (fun t b y7 hp=>(C'.own t b y7).2.1 (C'.frz0 b (hΦ b hp)))
      (fun t ht=>by
       refine Rep.free _ _ _ ?_ (C'.rep t)
       rcases ht with ⟨j,hj,rfl⟩ | ⟨j,hj,rfl⟩
       ·exact wI hvf.2 j hj
       ·exact vY hvf.1 j hj)
     exact ⟨Φ,rv2,E2,L2,hl⟩
   have st:∀ {Φ2:Nat→Prop} {rv2:Nat→Value} {E2:Nat→PV} {L2:Nat→List Nat},Conf w0 U Φ0 w' Φ2 rv2 E2 L2→(∀ s,s<zAb→rv2 s=rv s)→(∀ s,s<zAb→s∉R→E2 s=(E s).mapW (zDP R)) →
     (∀ (j r:Nat),R[j]? = some r→E2 r=zGy (zCg R) (E' (zAl+j)))→St w0 U Φ0 nt hv a w' e2 Φ2 rv2 E2 L2:=by
    intro Φ2 rv2 E2 L2 C2 k1 k2 k3
    refine S.turn C2 (fun s hs=>?_) k1 (fun d ps hd hp=>?_)
    ·by_cases jC:s∈R
     ·obtain ⟨j,hj⟩:=List.getElem?_of_mem jC
      obtain ⟨p,vm,wi⟩:=hE'h j s hj
      rw [k3 j s hj,g8 j s (zGy (zCg R) p) hj (by simp [vm]),wi]
     ·rw [k2 s hs jC,g7 s jC,g2 s,S.env s hs]
    ·have ug:d<zAb:=by omega
     by_cases hdR:d∈R
     ·obtain ⟨j,hj⟩:=List.getElem?_of_mem hdR
      have:=yH j d hj
      rw [k3 j d hj] at hp
      rw [hp] at this
      cases E d<;>cases this
     ·rw [k2 d ug hdR] at hp
      exact zD3 (zPz R) hp
   cases d with
   | none =>
    obtain ⟨Φ2,rv2,E2,L2,C2,k1,k2,k3,k4,k5⟩:=back 0 (by omega) (fun _ j hj=>by omega)
    have jt:(put none (zGy (zCg R) v)).run o e2=some e':=by
     revert g3;cases zGy (zCg R) v<;>exact fun h=>h
    simp only [put,PM.run,Option.some.injEq] at jt
    subst jt
    exact ⟨Φ2,rv2,E2,L2,st C2 k1 k2 k3,fun g hg=>k5 g hg⟩
   | some d =>
    have uM:=hd d rfl
    cases hvt:v.isTup with
    | false =>
     have u9:∀ ps,v ≠ .tup ps:=fun ps hc=>by rw [hc] at hvt;cases hvt
     obtain ⟨o1,o2⟩:=uy.one u9
     obtain ⟨Φ2,rv2,E2,L2,C2,k1,k2,k3,k4,k5⟩:=back 1 (by omega) (fun hf j hj=>by
      have:j=0:=by omega
      subst this;rw [Nat.add_zero,o1];exact hf)
     obtain ⟨m1,m2⟩:=k4 0 (by omega)
     simp only [Nat.add_zero] at m1 m2
     have jt:(put (some d) (zGy (zCg R) v)).run o e2=some e':=by
      have hnt2:∀ ps,zGy (zCg R) v ≠ .tup ps:=fun ps hc=>by
       obtain ⟨ps',jh,_⟩:=zD3 (zPF _) hc
       exact u9 ps' jh
      revert g3
      simp only [zDp]
      split
      ·rename_i hc;exact absurd hc (hnt2 _)
      ·exact fun h=>h
     have:=zFu (st C2 k1 k2 k3) hd (g:=zAb) (Nat.le_refl _) (by rw [m1,o1];exact jt) (fun s hs hI=>k5 s (by omega))
     rw [m2,o2] at this;exact this
    | true =>
     cases kd:v<;>rw [kd] at hvt<;>try (cases hvt;done)
     rename_i ps
     subst kd
     obtain ⟨us,rfl,o2,o3⟩:=uy.many ps rfl
     have e1:zGy (zCg R) (.tup ps) = .tup (zCt (zEn (zCg R)) ps):=rfl
     rw [e1] at g3
     simp only [zDp] at g3
     obtain ⟨u5,g9⟩:=zAJ g3
     simp only [Bool.and_eq_true] at u5
     have hl16:=Nat.le_of_ble_eq_true u5.1
     rw [zC7] at hl16
     obtain ⟨Φ2,rv2,E2,L2,C2,k1,k2,k3,k4,k5⟩:=back ps.length (by omega) (fun hf j hj=>by
      obtain ⟨p,hp⟩:∃ p,ps[j]? = some p:=⟨_,List.getElem?_eq_getElem hj⟩
      rw [(o3 j p hp).1]
      have key:∀ (l:List PV),zFk l=true→∀ p∈l,p.free=true:=by
       intro l
       induction l with
       | nil=>intro _ p hp;cases hp
       | cons x l ih =>
        intro h p hp
        simp only [zFk,Bool.and_eq_true] at h
        rcases List.mem_cons.1 hp with rfl | hp
        ·exact h.1
        ·exact ih h.2 p hp
      exact key ps hf p (List.mem_of_getElem? hp))
     simp only [PM.run] at g9
     obtain ⟨L3,S3⟩:=(st C2 k1 k2 k3).empty uM
     have vG:∀ g,zAb≤g→g≠d:=fun g hg=>by omega
     refine zE0 uM (vs:=us) (zCt (zEn (zCg R)) ps) 0 S3 (fun ps hp=>by rw [zAj] at hp;cases hp) (by rw [zC7];omega) (by rw [zC7];omega) (fun j p hp=>?_) (fun g hg hI=>?_) (fun x hx=>?_) (fun j hj=>by omega) g9
     ·rw [zHd] at hp
      cases vN:ps[j]? with
      | none=>rw [vN] at hp;cases hp
      | some p0 =>
       rw [vN] at hp;simp only [Option.map_some,Option.some.injEq] at hp
       have hj:j<ps.length:=(List.getElem?_eq_some_iff.1 vN).1
       obtain ⟨m1,m2⟩:=k4 j hj
       obtain ⟨m3,m4⟩:=o3 j p0 vN
       simp only [Nat.add_zero,Nat.zero_add]
       rw [zAf (vG _ (by omega)),m1,m3,m2]
       exact ⟨hp,m4⟩
     ·rw [zAf (vG g hg)]
      refine k5 g ?_
      refine Nat.le_of_not_lt fun yK=>hI (g-zAb) (by rw [zC7];omega) (by omega)
     ·have:=List.all_eq_true.1 u5.2 x hx
      simpa using this
end
end Go.Eng
namespace Go.Eng
open Go
theorem zPe (off:Nat):∀ (vs:List Value) (k:Nat) (cells:Array Value),off+k+vs.length≤cells.size →
  ((vs.zipIdx k).foldl (fun cs x=>cs.setIfInBounds (off+x.2) x.1) cells).toList=cells.toList.take (off+k)++vs++cells.toList.drop (off+k+vs.length)
 | [],k,cells,h=>by simp
 | v :: vs,k,cells,h=>by
  simp only [List.length_cons] at h
  simp only [List.zipIdx_cons,List.foldl_cons]
  rw [zPe off vs (k+1) (cells.setIfInBounds (off+k) v) (by simp;omega)]
  apply List.ext_getElem?
  intro m
  rw [zC0 (by simp;omega),zC0 (by simp;omega)]
  simp only [Array.toList_setIfInBounds,List.getElem?_set,List.length_cons,Array.length_toList]
  by_cases h1:m<off+k
  ·have:¬ off+k=m:=by omega
   rw [if_pos (by omega),if_pos h1,if_neg this]
  ·by_cases h2:m=off+k
   ·subst h2
    have h5:off+k<off+(k+1):=by omega
    have h6:off+k<cells.size:=by omega
    have h7:off+k<off+k+(vs.length+1):=by omega
    simp [h5,h6,h7]
   ·have h3:¬ off+k=m:=by omega
    by_cases h4:m<off+k+(vs.length+1)
    ·rw [if_neg (by omega),if_pos (by omega),if_neg h1,if_pos h4]
     rw [show m-(off+k)=(m-(off+(k+1)))+1 by omega];simp
    ·rw [if_neg (by omega),if_neg (by omega),if_neg h1,if_neg h4,if_neg h3]
theorem zOa (off:Nat) (v:Value) (cells:Array Value) (h:off+v.cells.size≤cells.size):v.cells.zipIdx.foldl (fun cs (c,j)=>cs.setIfInBounds (off+j) c) cells=zBi cells off v.cells.toList:=by
 apply Array.ext'
 rw [← Array.foldl_toList,Array.toList_zipIdx]
 have:=zPe off v.cells.toList 0 cells (by simpa using h)
 simpa [zBi] using this
section
variable {P:Program} {w0 w:World} {U Φ0 Φ:Nat→Prop} {nt:Nat} {hv:Hid} {a:Act} {e e':Env} {rv:Nat→Value} {E:Nat→PV} {L:Nat→List Nat} {o:zAF} {A:Al}
theorem zOG:∀ (xs:List Operand) (i:Nat) {k:List PV→PM} {e:Env} {rv:Nat→Value} {E:Nat→PV} {L:Nat→List Nat},St w0 U Φ0 nt hv a w e Φ rv E L→(∀ x∈xs,zAQ nt x=true)→(zTf xs k).run o e=some e' →
  ∃ e1 rv1 E1 L1 ps,(k ps).run o e1=some e'∧St w0 U Φ0 nt hv a w e1 Φ rv1 E1 L1∧ps.length=xs.length∧(∀ (j:Nat) (p:PV) (x:Operand),ps[j]? = some p→xs[j]? = some x→E1 (zAb+i+j)=p∧rv1 (zAb+i+j)=a.eval x) ∧
   ∀ s,zAb≤s→(s<zAb+i∨zAb+i+xs.length≤s)→E1 s=E s∧rv1 s=rv s
 | [],i,k,e,rv,E,L,S,hx,h=>⟨e,rv,E,L,[],h,S,rfl,by simp,fun _ _ _=>⟨rfl,rfl⟩⟩
 | x :: xs,i,k,e,rv,E,L,S,hx,h=>by
  simp only [zTf] at h
  obtain ⟨e1,rv1,E1,L1,h1,S1,h2,h3⟩:=zGx S (hx x (by simp)) (g:=zAb+i) (by omega) h
  obtain ⟨e2,rv2,E2,L2,ps,h4,S2,h5,h6,h7⟩:=zOG xs (i+1) S1 (fun y hy=>hx y (by simp [hy])) h1
  refine ⟨e2,rv2,E2,L2,E1 (zAb+i)::ps,h4,S2,by simp [h5],fun j p y hp hy=>?_,fun s hs jo=>?_⟩
  ·cases j with
   | zero =>
    simp at hp hy;subst hp;subst hy
    obtain ⟨k1,k2⟩:=h7 (zAb+i) (by omega) (.inl (by omega))
    simp only [Nat.add_zero]
    rw [k1,k2];exact ⟨rfl,h2⟩
   | succ j =>
    have:=h6 j p y (by simpa using hp) (by simpa using hy)
    rwa [show zAb+i+(j+1)=zAb+(i+1)+j by omega]
  ·obtain ⟨k1,k2⟩:=h7 s hs (by simp at jo;omega)
   obtain ⟨k3,k4,_⟩:=h3 s hs (by simp at jo;omega)
   exact ⟨k1.trans k3,k2.trans k4⟩
theorem zVb (S:St w0 U Φ0 nt hv a w e Φ rv E L) {nz:Option Nat} {x:Operand} (hx:zAQ nt x=true) {g:Nat} (hg:zAb≤g) {k:PV→PM} (h:(zW6 nz x k).run o e=some e') :
  ∃ e1 rv1 E1 L1,(k (E1 g)).run o e1=some e'∧St w0 U Φ0 nt hv a w e1 Φ rv1 E1 L1∧rv1 g=a.eval x∧zWk g rv rv1 E E1 L L1:=by
 unfold zW6 at h
 split at h
 ·rename_i s
  have hr:Rep w Φ (zA8 w rv E) (.own s []) (a.eval (.const (.slice none 0 0))) [] := .inl ⟨rfl,rfl,rfl⟩
  refine ⟨e,_,_,_,?_,S.hold hg hr,zAj,fun s _ hI=>⟨zAf hI,zAf hI,zAf hI⟩⟩
  rw [zAj];exact h
 ·exact zGx S hx hg h
theorem zOm {nz:Option Nat}:∀ (xs:List Operand) (i:Nat) {k:List PV→PM} {e:Env} {rv:Nat→Value} {E:Nat→PV} {L:Nat→List Nat},St w0 U Φ0 nt hv a w e Φ rv E L→(∀ x∈xs,zAQ nt x=true)→(zQa nz xs k).run o e=some e' →
  ∃ e1 rv1 E1 L1 ps,(k ps).run o e1=some e'∧St w0 U Φ0 nt hv a w e1 Φ rv1 E1 L1∧ps.length=xs.length∧(∀ (j:Nat) (p:PV) (x:Operand),ps[j]? = some p→xs[j]? = some x→E1 (zAb+i+j)=p∧rv1 (zAb+i+j)=a.eval x) ∧
   ∀ s,zAb≤s→(s<zAb+i∨zAb+i+xs.length≤s)→E1 s=E s∧rv1 s=rv s
 | [],i,k,e,rv,E,L,S,hx,h=>⟨e,rv,E,L,[],h,S,rfl,by simp,fun _ _ _=>⟨rfl,rfl⟩⟩
 | x :: xs,i,k,e,rv,E,L,S,hx,h=>by
  simp only [zQa] at h
  obtain ⟨e1,rv1,E1,L1,h1,S1,h2,h3⟩:=zVb S (hx x (by simp)) (g:=zAb+i) (by omega) h
  obtain ⟨e2,rv2,E2,L2,ps,h4,S2,h5,h6,h7⟩:=zOm xs (i+1) S1 (fun y hy=>hx y (by simp [hy])) h1
  refine ⟨e2,rv2,E2,L2,E1 (zAb+i)::ps,h4,S2,by simp [h5],fun j p y hp hy=>?_,fun s hs jo=>?_⟩
  ·cases j with
   | zero =>
    simp at hp hy;subst hp;subst hy
    obtain ⟨k1,k2⟩:=h7 (zAb+i) (by omega) (.inl (by omega))
    simp only [Nat.add_zero]
    rw [k1,k2];exact ⟨rfl,h2⟩
   | succ j =>
    have:=h6 j p y (by simpa using hp) (by simpa using hy)
    rwa [show zAb+i+(j+1)=zAb+(i+1)+j by omega]
  ·obtain ⟨k1,k2⟩:=h7 s hs (by simp at jo;omega)
   obtain ⟨k3,k4,_⟩:=h3 s hs (by simp at jo;omega)
   exact ⟨k1.trans k3,k2.trans k4⟩
theorem zJK (hA:∀ a v,a.isWay=true→A a v→v.oneCell'=true) {p:PV} {v:Value} {M:List Nat} (h:Rep w Φ A p v M) (hw:p.whole=true):zCi v=p.isAgg∧v.cells.size=p.cells.length:=by
 simp only [PV.whole,Bool.or_eq_true] at hw
 have ha:zCi v=p.isAgg:=by
  rcases hw with hw | hw
  ·cases p<;>simp [PV.isAgg] at hw
   obtain ⟨vs,rfl,_⟩:=h;rfl
  ·rw [(zBN (zCb hA h hw)).2,(zBp hw).2]
 have:=(h.cellsAll ha).length
 exact ⟨ha,by simpa using this⟩
theorem zR6 (C:Conf w0 U Φ0 w Φ rv E L) {place place':Nat→Option (Nat×Nat)} (uu:∀ i x,place i=some x→place' i=some x):∀ (ps:List (Nat×PV)) (vs:List (Nat×Value)) (k:Nat) (z cs:List PV) (zc:Array Value) (Lz:List Nat),
  zFx place z ps=some cs→vs.length=ps.length→(∀ (j:Nat) (x:Nat×PV) (y:Nat×Value),ps[j]? = some x→vs[j]? = some y→x.1=y.1∧E (zAb+k+j)=x.2∧rv (zAb+k+j)=y.2) →
  zA2 w Φ (zA8 w rv E) z zc.toList Lz→Lz.Nodup→(∀ b∈Lz,∃ t,zAb≤t∧t<zAb+k∧b∈L t) →
  ∃ cells Lc,Instr.fill place' zc vs=some cells∧zA2 w Φ (zA8 w rv E) cs cells.toList Lc∧Lc.Nodup∧∀ b∈Lc,∃ t,zAb≤t∧t<zAb+k+ps.length∧b∈L t
 | [],vs,k,z,cs,zc,Lz,h,hl,_,hr,hn,hm=>by
  have:vs=[]:=List.eq_nil_of_length_eq_zero (by simpa using hl)
  subst this
  simp only [zFx,Option.some.injEq] at h;subst h
  exact ⟨zc,Lz,rfl,hr,hn,by simpa using hm⟩
 | (i, p) :: ps,vs,k,z,cs,zc,Lz,h,hl,hj,hr,hn,hm=>by
  match vs,hl,hj with
  | (i', v) :: vs,hl,hj =>
   obtain ⟨h1,h2,h3⟩:=hj 0 (i,p) (i',v) rfl rfl
   simp only [Nat.add_zero] at h1 h2 h3
   subst h1
   simp only [zFx] at h
   cases hp:place i with
   | none=>rw [hp] at h;cases h
   | some x =>
    obtain ⟨off,n⟩:=x
    rw [hp] at h;simp only at h
    split at h
    ·rename_i hc
     obtain ⟨c1,c2,c3⟩:=hc
     have hX:=C.rep (zAb+k)
     rw [h2,h3] at hX
     obtain ⟨q1,q2⟩:=zJK (fun a v hw h=>zC8 hw h) hX c3
     have kR:zc.size=z.length:=by have:=hr.length;simpa using this
     obtain ⟨L1,L2,L3,hL,hk⟩:=hr.replace off n
     subst hL
     have jG:=hk (w':=w) (Φ':=Φ) (A':=zA8 w rv E) (fun _ _ _ h=>h) zDc.refl (fun _ _=>rfl) (hX.cellsAll q1)
     have js:v.cells.toList.length=n:=by simp;omega
     have y4:(zBi zc off v.cells.toList).toList=zc.toList.take off++v.cells.toList++zc.toList.drop (off+n):=by
      simp only [zBi];rw [js]
     simp only [List.nodup_append] at hn
     have uD:∀ b∈L (zAb+k),b∉L1++L2++L3:=by
      intro b hb j1
      obtain ⟨t,k1,k2,k3⟩:=hm b j1
      exact C.disj t (zAb+k) (by omega) b k3 hb
     obtain ⟨cells,Lc,g1,g2,g3,g4⟩:=zR6 C uu ps vs (k+1) _ cs (zBi zc off v.cells.toList) (L1++L (zAb+k)++L3) h (by simpa using hl) (fun j x y hx hy=>by
      rw [show zAb+(k+1)+j=zAb+k+(j+1) by omega];exact hj (j+1) x y (by simpa using hx) (by simpa using hy)) (by rw [y4];exact jG)
      (by
       simp only [List.nodup_append]
       refine ⟨⟨hn.1.1,C.nodup _,fun x hx y hy e=>uD y hy (by rw [← e];simp [hx])⟩,hn.2.1,fun x hx y hy e=>?_⟩
       rcases List.mem_append.1 hx with hx | hx
       ·exact hn.2.2 x (by simp [hx]) y hy e
       ·exact uD x hx (by rw [e];simp [hy]))
      (fun b hb=>by
       simp only [List.mem_append] at hb
       rcases hb with (hb | hb) | hb
       ·obtain ⟨t,k1,k2,k3⟩:=hm b (by simp [hb]);exact ⟨t,k1,by omega,k3⟩
       ·exact ⟨zAb+k,by omega,by omega,hb⟩
       ·obtain ⟨t,k1,k2,k3⟩:=hm b (by simp [hb]);exact ⟨t,k1,by omega,k3⟩)
     refine ⟨cells,Lc,?_,g2,g3,fun b hb=>?_⟩
     ·simp only [Instr.fill,uu i _ hp]
      rw [if_neg (by simp;omega),zOa off v zc (by omega)]
      exact g1
     ·obtain ⟨t,k1,k2,k3⟩:=g4 b hb
      exact ⟨t,k1,by simp;omega,k3⟩
    ·cases h
theorem St.madeN (S:St w0 U Φ0 nt hv a w e Φ rv E L) (N:Nat) (hb:∀ s,zAb+N≤s→E s = .bad) {d:Option Nat} (hd:∀ x,d=some x→x<nt) {w':World} {p:PV} {v:Value} {Lp:List Nat} (hr:∀ A:Al,(∀ a u,a.isWay=true→zA8 w rv E a u→A a u)→Rep w' Φ A p v Lp) (uM:Lp.Nodup)
  (ho:∀ b∈Lp,(∃ t,zAb≤t∧t<zAb+N∧b∈L t)∨(w.heap.size≤b∧b<w'.heap.size)) (hw:w.heap.size≤w'.heap.size)
  (hk:∀ b,b<w.heap.size→(∀ t,zAb≤t→t<zAb+N→b∉L t)→w'.heap[b]? = w.heap[b]?) (uJ:w'.os=w.os∧w'.tape=w.tape∧w'.output=w.output) (h:(put d p).run o e=some e') :
  Fr w0 U Φ0 nt hv (a.put d v) w' e':=by
 have hG:∀ s,decide (zAb≤s∧s<zAb+N)=true↔zAb≤s∧s<zAb+N:=fun s=>decide_eq_true_iff
 have hc:=S.conf.make (w':=w') (fun s=>decide (zAb≤s∧s<zAb+N)) (fun s hs=>((hG s).1 hs).1) (g:=zAb+N) (by omega) (fun A hA=>hr A hA) uM
  (fun b hb=>(ho b hb).imp (fun ⟨t,h1,h2,h3⟩=>⟨t,h3,(hG t).2 ⟨h1,h2⟩⟩) id) hw
  (fun b hb hn=>hk b hb fun t h1 h2 h3=>by have:=hn t h3;rw [(hG t).2 ⟨h1,h2⟩] at this;cases this) uJ
 have S1:=S.turn (e':=e) hc (fun s hs=>by
  rw [zAf (by omega)]
  have:decide (zAb≤s∧s<zAb+N)=false:=decide_eq_false (by omega)
  simp only [this,Bool.false_eq_true,if_false];exact S.env s hs) (fun s hs=>zAf (by omega)) (fun d ps hd hp=>by
  rw [zAf (by simp only [zAb];omega)] at hp
  have:decide (zAb≤d∧d<zAb+N)=false:=decide_eq_false (by simp only [zAb];omega)
  simp only [this,Bool.false_eq_true,if_false] at hp;exact ⟨ps,hp,rfl⟩)
 have:=zFu S1 hd (g:=zAb+N) (by omega) (by rw [zAj];exact h) (fun s hs hI=>by
  rw [zAf hI]
  by_cases h3:s<zAb+N
  ·have:decide (zAb≤s∧s<zAb+N)=true:=(hG s).2 ⟨hs,h3⟩
   simp [this]
  ·have:decide (zAb≤s∧s<zAb+N)=false:=decide_eq_false (by omega)
   simp only [this,Bool.false_eq_true,if_false];exact hb s (by omega))
 rwa [zAj] at this
theorem zPb (S:St w0 U Φ0 nt hv a w e Φ rv E L) (hb:zBs E) {d:Option Nat} (hd:∀ x,d=some x→x<nt) {place place':Nat→Option (Nat×Nat)} (uu:∀ i x,place i=some x→place' i=some x) {t:TypeId} {z:PV} (hz:zCK P t=some z) {ps:List (Nat×Operand)} (y1:∀ x∈ps,zAQ nt x.2=true)
  (h:(zPc place z.cells ps fun cs=>put d (.agg cs)).run o e=some e'):∃ v cells,(∀ w:World,(zeroValue t).run P w = .ok v w)∧Instr.fill place' v.cells (ps.map fun x=>(x.1,a.eval x.2))=some cells∧Fr w0 U Φ0 nt hv (a.put d (.agg cells)) w e':=by
 obtain ⟨i,zv,hi,hzv,yA,kL⟩:=zDJ hz
 simp only [zPc] at h
 obtain ⟨e1,rv1,E1,L1,vs,h1,S1,h2,h3,h4⟩:=zOG (ps.map (·.2)) 0 S (fun x hx=>by
  obtain ⟨y,hy,rfl⟩:=List.mem_map.1 hx;exact y1 y hy) h
 simp only [List.length_map] at h2 h4
 split at h1
 ·rename_i cs hf
  obtain ⟨hr,vI,ke,_⟩:=zCj (w:=w) (Φ:=Φ) (A:=zA8 w rv1 E1) kL
  obtain ⟨cells,Lc,g1,g2,g3,g4⟩:=zR6 S1.conf uu ((ps.map (·.1)).zip vs) (ps.map fun x=>(x.1,a.eval x.2)) 0 z.cells cs zv.cells [] hf (by simp [h2]) (fun j x y hx hy=>by
   obtain ⟨j9,jY⟩:=List.getElem?_zip_eq_some.1 hx
   rw [List.getElem?_map] at j9 hy
   cases vN:ps[j]? with
   | none=>rw [vN] at hy;cases hy
   | some q =>
    rw [vN] at j9 hy
    simp only [Option.map_some,Option.some.injEq] at j9 hy
    obtain ⟨k1,k2⟩:=h3 j x.2 q.2 jY (by rw [List.getElem?_map,vN];rfl)
    exact ⟨by rw [← j9,← hy],k1,by rw [k2,← hy]⟩) (hr.cellsAll ke) List.nodup_nil (by simp)
  refine ⟨zv,cells,yA,g1,S1.madeN ps.length (fun s hs=>?_) hd (p := .agg cs) (v := .agg cells) (w':=w) (Lp:=Lc) (fun A hA=>⟨cells,rfl,g2.mono zDc.refl hA (fun _ _=>rfl)⟩) g3 (fun b hb => .inl ?_) (Nat.le_refl _) (fun _ _ _=>rfl) ⟨rfl,rfl,rfl⟩ h1⟩
  ·rw [(h4 s (by omega) (.inr (by omega))).1];exact hb s (by omega)
  ·obtain ⟨t,k1,k2,k3⟩:=g4 b hb
   have hl:((ps.map (·.1)).zip vs).length=ps.length:=by simp [h2]
   exact ⟨t,k1,by omega,k3⟩
 ·cases h1
theorem zSy {α β:Type} {f:α→Sem β} {g:α→β} (l:List α) (h:∀ x∈l,∀ w:World,(f x).run P w = .ok (g x) w) (w:World):(l.mapM f).run P w = .ok (l.map g) w:=by
 induction l with
 | nil=>rfl
 | cons x l ih=>simp only [List.mapM_cons,Sem.run_bind,h x (by simp),Result.andThen_ok,ih (fun y hy=>h y (by simp [hy])),Sem.run_pure,List.map_cons]
theorem zTI (S:St w0 U Φ0 nt hv a w e Φ rv E L) (hb:zBs E) {d:Option Nat} (hd:∀ x,d=some x→x<nt) {t:TypeId} {ps:Array (Nat×Operand)} (y1:∀ x∈ps.toList,zAQ nt x.2=true) (h:(zNc P d t ps.toList).run o e=some e') :
  ∃ v,(Instr.build t (ps.map fun x=>(x.1,a.eval x.2))).run P w = .ok v w∧Fr w0 U Φ0 nt hv (a.put d v) w e':=by
 have u6:(ps.map fun x=>(x.1,a.eval x.2)).toList=ps.toList.map fun x=>(x.1,a.eval x.2):=by simp
 simp only [zNc] at h
 split at h
 ·rename_i fs z ht hz
  obtain ⟨wt,h1⟩:=zAJ h
  simp only [Option.map_eq_some_iff] at hz
  obtain ⟨zp,hz,rfl⟩:=hz
  let sz:Field→Nat:=fun f=>(szT P f.type).getD 0
  have wA:∀ f∈fs.toList,∀ w:World,(sizeOf f.type).run P w = .ok (sz f) w:=by
   intro f hf w
   rw [← Array.all_toList] at wt
   have:=List.all_eq_true.1 wt f hf
   obtain ⟨n,hn⟩:=Option.isSome_iff_exists.1 this
   obtain ⟨i,hi,vc⟩:=zCq hn
   simp only [sz,hn,Option.getD_some]
   rw [zAY hi,vc]
  obtain ⟨zv,cells,k1,k2,k3⟩:=zPb (P:=P) S hb hd (place':=fun i=>(fs.map fun f=>(f.offset,sz f))[i]?) (fun i x hx=>by
   cases hfi:fs[i]? with
   | none=>rw [hfi] at hx;cases hx
   | some f =>
    rw [hfi] at hx;simp only [Option.bind_some] at hx
    cases hs:szT P f.type with
    | none=>rw [hs] at hx;cases hx
    | some n =>
     rw [hs] at hx;simp only [Option.map_some,Option.some.injEq] at hx
     subst hx
     simp [hfi,sz,hs]) hz y1 h1
  refine ⟨.agg cells,?_,k3⟩
  have hm:∀ w:World,(fs.mapM fun f=>(do pure (f.offset,← sizeOf f.type):Sem (Nat×Nat))).run P w = .ok (fs.map fun f=>(f.offset,sz f)) w:=by
   intro w
   have:=zSy (P:=P) (f:=fun f=>(do pure (f.offset,← sizeOf f.type):Sem (Nat×Nat))) (g:=fun f=>(f.offset,sz f)) fs.toList (fun f hf w=>by
    simp only [Sem.run_bind,wA f hf w,Result.andThen_ok,Sem.run_pure]) w
   rw [Array.mapM_eq_mapM_toList]
   simp only [Sem.run_map,this,Result.andThen_ok]
   rw [← Array.toList_map,Array.toArray_toList]
  simp only [Instr.build,Sem.run_bind,k1,Result.andThen_ok,run_underlying ht,hm]
  rw [u6,k2]
  rfl
 ·rename_i len el z ht hz
  obtain ⟨n,hn,h1⟩:=zBG h
  simp only [Option.map_eq_some_iff] at hz
  obtain ⟨zp,hz,rfl⟩:=hz
  obtain ⟨i,hi,vc⟩:=zCq hn
  obtain ⟨zv,cells,k1,k2,k3⟩:=zPb (P:=P) S hb hd (place':=fun i=>some (i*n,n)) (fun i x hx=>hx) hz y1 h1
  refine ⟨.agg cells,?_,k3⟩
  simp only [Instr.build,Sem.run_bind,k1,Result.andThen_ok,run_underlying ht,zAY hi,vc]
  rw [u6,k2]
  rfl
 ·cases h
theorem zKr {tk:Bool}:∀ (ps:List PV) (i:Nat) {k:List PV→PM} {e:Env} {Φ:Nat→Prop} {rv:Nat→Value} {E:Nat→PV} {L:Nat→List Nat},St w0 U Φ0 nt hv a w e Φ rv E L→(∀ (j:Nat) (p:PV),ps[j]? = some p→E (zAb+i+j)=p)→(zFX tk ps k).run o e=some e' →
  ∃ e1 Φ1 rv1 E1 L1 qs,(k qs).run o e1=some e'∧St w0 U Φ0 nt hv a w e1 Φ1 rv1 E1 L1∧qs.length=ps.length∧(∀ (j:Nat) (q:PV),qs[j]? = some q→E1 (zAb+i+j)=q∧rv1 (zAb+i+j)=rv (zAb+i+j)) ∧
   ∀ s,zAb≤s→(s<zAb+i∨zAb+i+ps.length≤s)→E1 s=E s∧rv1 s=rv s
 | [],i,k,e,Φ,rv,E,L,S,hp,h=>⟨e,Φ,rv,E,L,[],h,S,rfl,by simp,fun _ _ _=>⟨rfl,rfl⟩⟩
 | p :: ps,i,k,e,Φ,rv,E,L,S,hp,h=>by
  simp only [zFX] at h
  have hE:=hp 0 p rfl
  simp only [Nat.add_zero] at hE
  rw [← hE] at h
  obtain ⟨e1,rv1,E1,h1,W⟩:=zMt S (g:=zAb+i) (by omega) h
  obtain ⟨Φ1,L1,S1⟩:=W.st
  obtain ⟨e2,Φ2,rv2,E2,L2,qs,h2,S2,h3,h4,h5⟩:=zKr ps (i+1) S1 (fun j q hq=>by
   rw [(W.rest _ (by omega) (by omega)).1,show zAb+(i+1)+j=zAb+i+(j+1) by omega];exact hp (j+1) q (by simpa using hq)) h1
  refine ⟨e2,Φ2,rv2,E2,L2,E1 (zAb+i)::qs,h2,S2,by simp [h3],fun j q hq=>?_,fun s hs jo=>?_⟩
  ·cases j with
   | zero =>
    simp at hq;subst hq
    obtain ⟨k1,k2⟩:=h5 (zAb+i) (by omega) (.inl (by omega))
    simp only [Nat.add_zero]
    exact ⟨k1,k2.trans W.val⟩
   | succ j =>
    obtain ⟨k1,k2⟩:=h4 j q (by simpa using hq)
    rw [show zAb+(i+1)+j=zAb+i+(j+1) by omega] at k1 k2
    exact ⟨k1,k2.trans (W.rest _ (by omega) (by omega)).2⟩
  ·obtain ⟨k1,k2⟩:=h5 s hs (by simp at jo;omega)
   obtain ⟨k3,k4⟩:=W.rest s hs (by simp at jo;omega)
   exact ⟨k1.trans k3,k2.trans k4⟩
theorem zOv (C:Conf w0 U Φ0 w Φ rv E L) {s n:Nat}:∀ (ps:List (Nat×PV)) (vs:List (Nat×Value)) (k:Nat) (xs:List PV) (us:List Value) (cells:Array Value) (Lx:List Nat),vs.length=ps.length →
  (∀ (j:Nat) (x:Nat×PV) (y:Nat×Value),ps[j]? = some x→vs[j]? = some y→x.1=y.1∧x.1<n∧E (zAb+k+j)=x.2∧rv (zAb+k+j)=y.2∧x.2.ways=[]∧x.2.whole=true∧x.2.cells.length=s) →
  xs.length=n→us.length=n→cells.toList=flat us→(∀ x∈xs,x.cells.length=s)→(∀ u∈us,u.cells.size=s)→us.map zCi=xs.map PV.isAgg→zA2 w Φ zCe xs us Lx→Lx.Nodup→(∀ b∈Lx,∃ t,zAb≤t∧t<zAb+k∧b∈L t) →
  ∃ cells' us' Lc,Instr.fill (fun i=>some (i*s,s)) cells vs=some cells'∧cells'.toList=flat us'∧us'.length=n∧(∀ u∈us',u.cells.size=s)∧(∀ x∈ps.foldl (fun xs (i,v)=>xs.set i v) xs,x.cells.length=s)∧us'.map zCi=(ps.foldl (fun xs (i,v)=>xs.set i v) xs).map PV.isAgg ∧
   zA2 w Φ zCe (ps.foldl (fun xs (i,v)=>xs.set i v) xs) us' Lc∧Lc.Nodup∧∀ b∈Lc,∃ t,zAb≤t∧t<zAb+k+ps.length∧b∈L t
 | [],vs,k,xs,us,cells,Lx,hl,_,h1,h2,h3,h4,h5,h6,h7,h8,h9=>by
  have:vs=[]:=List.eq_nil_of_length_eq_zero (by simpa using hl)
  subst this
  exact ⟨cells,us,Lx,rfl,h3,h2,h5,h4,h6,h7,h8,by simpa using h9⟩
 | (i, p)::ps,vs,k,xs,us,cells,Lx,hl,hj,h1,h2,h3,h4,h5,h6,h7,h8,h9=>by
  match vs,hl,hj with
  | (i',v)::vs,hl,hj =>
   obtain ⟨q1,q2,q3,q4,q5,q6,q7⟩:=hj 0 (i,p) (i',v) rfl rfl
   simp only [Nat.add_zero] at q1 q2 q3 q4 q5 q6 q7
   subst q1
   have hX:=C.rep (zAb+k)
   rw [q3,q4] at hX
   obtain ⟨w1,w2⟩:=zJK (fun a v hw h=>zC8 hw h) hX q6
   have ye:v.cells.size=s:=by omega
   have hrep0:Rep w Φ zCe p v (L (zAb+k)):=zUI q5 (fun a v hw h=>zI0 hw h) hX
   obtain ⟨L1,L2,L3,hL,hk⟩:=h7.replace i 1
   subst hL
   have jG:=hk (w':=w) (Φ':=Φ) (A':=zCe) (fun _ _ _ h=>h) zDc.refl (fun _ _=>rfl) (show zA2 w Φ zCe [p] [v] (L (zAb+k)) from ⟨v,[],_,[],rfl,by simp,hrep0,rfl,rfl⟩)
   rw [← zED (by omega),← zED (by omega)] at jG
   have qn:cells.size=n*s:=by
    have:=congrArg List.length h3
    rw [zBr h5,h2] at this;simpa using this
   have ww:i*s+s≤n*s:=by rw [← Nat.succ_mul];exact Nat.mul_le_mul_right _ q2
   have v7:(zBi cells (i*s) v.cells.toList).toList=flat (us.set i v):=by
    simp only [zBi]
    rw [h3,zED (by omega:i<us.length),zCY,zCY,show (v.cells.toList).length=s by simpa using ye,zJE h5]
    have:i*s+s=(i+1)*s:=by rw [Nat.succ_mul]
    rw [this,zIU h5]
    simp [flat]
   simp only [List.nodup_append] at h8
   have uD:∀ b∈L (zAb+k),b∉L1++L2++L3:=by
    intro b hb j1
    obtain ⟨t,k1,k2,k3⟩:=h9 b j1
    exact C.disj t (zAb+k) (by omega) b k3 hb
   have yv:(us.set i v).map zCi=(xs.set i p).map PV.isAgg:=by
    apply List.ext_getElem?
    intro m
    have hm:=congrArg (·[m]?) h6
    simp only [List.getElem?_map,List.getElem?_set] at hm ⊢
    by_cases hmi:i=m
    ·subst hmi
     have e1:i<us.length:=by omega
     have e2:i<xs.length:=by omega
     simp [e1,e2,w1]
    ·simp only [hmi,if_false];exact hm
   obtain ⟨cells',us',Lc,g1,g2,g3,g4,g5,g6,g7,g8,g9⟩:=zOv C ps vs (k+1) (xs.set i p) (us.set i v) (zBi cells (i*s) v.cells.toList) (L1++L (zAb+k)++L3) (by simpa using hl) (fun j x y hx hy=>by
    rw [show zAb+(k+1)+j=zAb+k+(j+1) by omega];exact hj (j+1) x y (by simpa using hx) (by simpa using hy)) (by simpa using h1) (by simpa using h2) v7
    (fun x hx=>(List.mem_or_eq_of_mem_set hx).elim (h4 x) (fun h=>h▸q7)) (fun u hu=>(List.mem_or_eq_of_mem_set hu).elim (h5 u) (fun h=>h▸ye)) yv jG
    (by
     simp only [List.nodup_append]
     refine ⟨⟨h8.1.1,C.nodup _,fun x hx y hy e=>uD y hy (by rw [← e];simp [hx])⟩,h8.2.1,fun x hx y hy e=>?_⟩
     rcases List.mem_append.1 hx with hx | hx
     ·exact h8.2.2 x (by simp [hx]) y hy e
     ·exact uD x hx (by rw [e];simp [hy]))
    (fun b hb=>by
     simp only [List.mem_append] at hb
     rcases hb with (hb | hb) | hb
     ·obtain ⟨t,k1,k2,k3⟩:=h9 b (by simp [hb]);exact ⟨t,k1,by omega,k3⟩
     ·exact ⟨zAb+k,by omega,by omega,hb⟩
     ·obtain ⟨t,k1,k2,k3⟩:=h9 b (by simp [hb]);exact ⟨t,k1,by omega,k3⟩)
   refine ⟨cells',us',Lc,?_,g2,g3,g4,g5,g6,g7,g8,fun b hb=>?_⟩
   ·simp only [Instr.fill]
    rw [if_neg (by simp;omega),zOa (i*s) v cells (by omega)]
    exact g1
   ·obtain ⟨t,k1,k2,k3⟩:=g9 b hb
    exact ⟨t,k1,by simp;omega,k3⟩
theorem zL6:∀ {ps:List PV},zBA ps=[]→∀ p∈ps,p.ways=[]
 | [],_,_,h=>by cases h
 | q::qs,h,p,hp=>by
  simp only [zBA,List.append_eq_nil_iff] at h
  rcases List.mem_cons.1 hp with rfl | hp
  ·exact h.1
  ·exact zL6 h.2 p hp
theorem zLL (S:St w0 U Φ0 nt hv a w e Φ rv E L) (hb:zBs E) {d:Option Nat} (hd:∀ x,d=some x→x<nt) {tk:Bool} {t:TypeId} {n:Nat} {ps:Array (Nat×Operand)} (y1:∀ x∈ps.toList,zAQ nt x.2=true) (h:(zDI P tk d t n ps.toList).run o e=some e') :
  ∃ v w',(Instr.buildSlice t n (ps.map fun x=>(x.1,a.eval x.2))).run P w = .ok v w'∧Fr w0 U Φ0 nt hv (a.put d v) w' e':=by
 have u6:(ps.map fun x=>(x.1,a.eval x.2)).toList=ps.toList.map fun x=>(x.1,a.eval x.2):=by simp
 simp only [zDI] at h
 split at h
 ·rename_i el y5
  split at h
  ·rename_i s z hs hz
   obtain ⟨hc,h1⟩:=zDk h
   simp only [Bool.and_eq_true,decide_eq_true_eq,List.all_eq_true] at hc
   obtain ⟨⟨hns,kR⟩,hpn⟩:=hc
   have kR:=Nat.eq_of_beq_eq_true kR
   obtain ⟨i,zv,hi,hzv,yA,kL⟩:=zDJ hz
   obtain ⟨i2,vV,vc⟩:=zCq hs
   rw [hi] at vV;cases vV
   have ht:=zCC y5
   obtain ⟨e1,rv1,E1,L1,vs,h2,S1,h3,h4,h5⟩:=zOm (ps.toList.map (·.2)) 0 S (fun x hx=>by
    obtain ⟨y,hy,rfl⟩:=List.mem_map.1 hx;exact y1 y hy) h1
   obtain ⟨e2,Φ2,rv2,E2,L2,qs,h6,S2,h7,h8,h9⟩:=zKr vs 0 S1 (fun j p hp=>by
    have hj:j<(ps.toList.map (·.2)).length:=by
     have:=(List.getElem?_eq_some_iff.1 hp).1;omega
    exact (h4 j p _ hp (List.getElem?_eq_getElem hj)).1) h2
   obtain ⟨hq,jS⟩:=zDk h6
   simp only [Bool.and_eq_true,List.all_eq_true,List.isEmpty_iff,decide_eq_true_eq] at hq
   obtain ⟨hw,hq⟩:=hq
   simp only [List.length_map] at h3 h5
   have hZ:((ps.toList.map (·.1)).zip qs).length=ps.toList.length:=by simp;simp at h3;omega
   obtain ⟨u3,vI,ke,_⟩:=zCj (w:=w) (Φ:=Φ2) (A:=zCe) kL
   have uw:zv.cells.size=s:=by rw [vI,kR]
   have hzz:zA2 w Φ2 zCe (List.replicate n z) (List.replicate n zv) []:=by
    clear jS hZ hq h6 h2 hns hpn h1 h kR
    induction n with
    | zero=>exact ⟨rfl,rfl⟩
    | succ n ih=>exact ⟨zv,_,[],[],rfl,rfl,(zCj kL).1,ih⟩
   have kE:(madeCells zv.cells (n*s)).toList=flat (List.replicate n zv):=by
    have hl:(flat (List.replicate n zv)).length=n*s:=by
     rw [zBr (sz:=s) (fun u hu=>by rw [List.eq_of_mem_replicate hu];exact uw)];simp
    apply List.ext_getElem?
    intro m
    by_cases hm:m<n*s
    ·have:=zGm uw (l:=n) (k:=m) (List.getElem?_eq_getElem (by omega))
     rw [Array.getElem?_toList,zOM (m:=m+1) hm (by omega),this,List.getElem?_eq_getElem (by omega)]
    ·rw [List.getElem?_eq_none (by simp [size_madeCells];omega),List.getElem?_eq_none (by omega)]
   obtain ⟨cells',us',Lc,g1,g2,g3,g4,g5,g6,g7,g8,g9⟩:=zOv S2.conf (s:=s) (n:=n) ((ps.toList.map (·.1)).zip qs) (ps.toList.map fun x=>(x.1,a.eval x.2)) 0 (List.replicate n z) (List.replicate n zv) (madeCells zv.cells (n*s)) [] (by simp;simp at h3;omega)
    (fun j x y hx hy=>by
     obtain ⟨j9,jY⟩:=List.getElem?_zip_eq_some.1 hx
     rw [List.getElem?_map] at j9 hy
     cases vN:ps.toList[j]? with
     | none=>rw [vN] at hy;cases hy
     | some q =>
      rw [vN] at j9 hy
      simp only [Option.map_some,Option.some.injEq] at j9 hy
      have yy:q∈ps.toList:=List.mem_of_getElem? vN
      obtain ⟨k1,k2⟩:=h8 j x.2 jY
      have hvj:j<vs.length:=by have:=(List.getElem?_eq_some_iff.1 jY).1;omega
      obtain ⟨k3,k4⟩:=h4 j _ q.2 (List.getElem?_eq_getElem hvj) (by rw [List.getElem?_map,vN];rfl)
      have hqx:=hq x.2 (List.mem_of_getElem? jY)
      refine ⟨by rw [← j9,← hy],by rw [← j9];exact hpn q yy,k1,?_,zL6 hw _ (List.mem_of_getElem? jY),hqx.2,hqx.1.1⟩
      rw [Nat.add_zero] at k2 k4 ⊢
      rw [k2,k4,← hy])
    (by simp) (by simp) kE (fun x hx=>by rw [List.eq_of_mem_replicate hx];exact kR) (fun u hu=>by rw [List.eq_of_mem_replicate hu];exact uw) (by simp [ke]) hzz List.nodup_nil (by simp)
   have j7:cells'.size=n*s:=by
    have:=congrArg List.length g2
    rw [zBr g4,g3] at this;simpa using this
   refine ⟨.slice (some ⟨w.heap.size,0,none⟩) n n,zGt w cells' el,?_,?_⟩
   ·subst vc
    have vd:∀ y:Array Value,(n*i.size=0∨y=zv.cells)→(Array.range (n*i.size)).map (fun k=>y[k % y.size]!)=madeCells zv.cells (n*i.size):=by
     rintro y (h0 | rfl)
     ·simp [h0,madeCells]
     ·rfl
    have yK:¬ n*i.size>2 ^ 24:=by omega
    simp only [Instr.buildSlice,Sem.run_bind,run_underlying ht,Result.andThen_ok,zAY hi]
    rw [if_neg yK]
    split
    ·rename_i h0
     simp only [Sem.run_pure,Result.andThen_ok,Sem.run_bind,vd #[] (.inl h0),u6,g1,zE8]
    ·simp only [Sem.run_pure,Result.andThen_ok,Sem.run_bind,yA,vd zv.cells (.inr rfl),u6,g1,zE8]
   ·have hold:∀ b,b<w.heap.size→(zGt w cells' el).heap[b]? = w.heap[b]?:=fun b hb=>zHl hb
    have hΦ:zDc w (zGt w cells' el) Φ2 Φ2:=fun b hb=>⟨hb,hold b (S2.conf.frz b hb).1⟩
    have jI:zA2 (zGt w cells' el) Φ2 zCe (zLR n z ((ps.toList.map (·.1)).zip qs)) us' Lc:=g7.mono hΦ (fun _ _ _ h=>h) fun b hb=>by
     obtain ⟨t,_,_,k3⟩:=g9 b hb
     exact hold b (S2.conf.own t b k3).1
    have jj:(zLR n z ((ps.toList.map (·.1)).zip qs)).length=n:=jI.length.symm.trans g3
    refine S2.madeN ps.toList.length (fun s hs=>?_) hd (p := .own s (zLR n z ((ps.toList.map (·.1)).zip qs))) (Lp:=w.heap.size::Lc) (fun A _=>?_) ?_ (fun b yG=>?_) (by rw [zFY];omega) (fun b yG _=>hold b yG) ⟨rfl,rfl,rfl⟩ jS
    ·rw [(h9 s (by omega) (.inr (by omega))).1,(h5 s (by omega) (.inr (by omega))).1];exact hb s (by omega)
    ·refine .inr ⟨⟨w.heap.size,0,none⟩,n,cells',us',Lc,rfl,by rw [jj],rfl,by omega,zM8,by rw [j7];simp,g5,⟨g4,g6⟩,?_,jI⟩
     rw [jj]
     refine zFt (by rw [zBr g4,g3]) fun k u hk=>?_
     rw [Nat.zero_add,← hk,← g2,Array.getElem?_toList]
    ·refine List.nodup_cons.2 ⟨fun hm=>?_,g8⟩
     obtain ⟨t,_,_,k3⟩:=g9 _ hm
     exact absurd (S2.conf.own t _ k3).1 (Nat.lt_irrefl _)
    ·rcases List.mem_cons.1 yG with rfl | yG
     ·exact .inr ⟨Nat.le_refl _,by rw [zFY];omega⟩
     ·obtain ⟨t,k1,k2,k3⟩:=g9 b yG
      exact .inl ⟨t,k1,by omega,k3⟩
  ·cases h
 ·cases h
end
end Go.Eng
namespace Go.Eng
open Go
section
variable {P:Program} {w0 w:World} {U Φ0 Φ:Nat→Prop} {nt:Nat} {hv:Hid} {a:Act} {e e':Env} {rv:Nat→Value} {E:Nat→PV} {L:Nat→List Nat} {o:zAF} {A:Al}
theorem zUQ (S:St w0 U Φ0 nt hv a w e Φ rv E L) (hb:zBs E) {d:Option Nat} (hd:∀ x,d=some x→x<nt) {t t2 ty:TypeId} {x y:Operand} (hx:zAQ nt x=true) (hy:zAQ nt y=true)
  (h:(zBu P d .copy [t,t2] [x,y]).run o e=some e'):∃ v w',(Builtin.copy_ #[t,t2] ty #[a.eval x,a.eval y]).run P w = .ok v w'∧Fr w0 U Φ0 nt hv (a.put d v) w' e':=by
 simp only [zBu] at h
 obtain ⟨sz,yD,h1⟩:=zBG h
 obtain ⟨el,y5,jc⟩:=zV5 (el:=0) yD
 have ht:=zCC y5
 obtain ⟨i,hi,yr⟩:=zCq jc
 obtain ⟨p,h2,hp⟩:=zBv S hx h1
 obtain ⟨q,h3,hq⟩:=zBv S hy h2
 obtain ⟨ys,us,Ly,h4,kS⟩:=zMv S hq h3
 obtain ⟨⟨xb,xc,vK,yQ⟩,jO,wA,jx⟩:=kS
 cases p<;>try (cases h4;done)
 rename_i r pre z lo n
 obtain ⟨hc,h5⟩:=zAJ h4
 simp only [Bool.and_eq_true,List.all_eq_true] at hc
 obtain ⟨⟨⟨uw,kM⟩,w8⟩,km⟩:=hc
 have uw:=Nat.eq_of_beq_eq_true uw
 have kM:=zB3 kM
 have w8:=Nat.le_of_ble_eq_true w8
 subst uw
 have uz:∀ y∈ys,y.plain=true∧y.cells.length=z:=fun y hy=>⟨(km y hy).1,Nat.eq_of_beq_eq_true (km y hy).2⟩
 have qk:Ly=[]:=zF9 (fun y hy=>(uz y hy).1) jO
 subst qk
 have uO:=wA z (fun y hy=>(uz y hy).2)
 have S1:=S.hold (g:=zAb+2) (by omega) hp
 obtain ⟨w1,e1,rv1,E1,L1,k1,S2,k3,_,k4⟩:=zK8 (z:=z) (lo:=lo) (n:=n) (v:=a.eval x) kM ys us 0 S1 zAj zAj (fun s hs hI=>by rw [zAf hI];exact hb s hs) uz jx jO (by omega) (by simpa using h5)
 have yI:Fr w0 U Φ0 nt hv (a.put d (.int .i64 ys.length)) w1 e':=by
  obtain ⟨Φ2,rv2,E2,L2,S3,qo⟩:=S2.clear
  exact zAw S3 qo hd k1 (v := .int .i64 ys.length) ⟨rfl,rfl⟩
 have hf:=yQ z (fun y hy=>(uz y hy).2) P w (fun _=>rfl)
 have hmin:Nat.min ys.length n=ys.length:=Nat.min_eq_left w8
 obtain ⟨_,hg,⟨b,cap,wo,yR,yV,y8⟩,hn⟩:=hp
 rcases k4 with ⟨rfl,rfl⟩ | ⟨b',cap',row,yE,y4,yC,yB,yM,rfl⟩
 ·refine ⟨.int .i64 0,w1,?_,yI⟩
  have jB:us=[]:=List.eq_nil_of_length_eq_zero (by have:=jO.length;simpa using this)
  subst jB
  rw [wo,vK]
  rw [vK] at hf
  have hf0:(Builtin.firstCells z 0 (.slice xb 0 xc)).run P w1 = .ok #[] w1:=hf
  cases b with
  | none=>simp [Builtin.copy_,run_underlying ht,Builtin.lenOf,zAY hi,yr,hf0,goInt]
  | some b=>simp [Builtin.copy_,run_underlying ht,Builtin.lenOf,zAY hi,yr,hf0,goInt,storeCells]
 ·rw [yE] at wo
  simp only [Value.slice.injEq] at wo
  refine ⟨_,_,?_,yI⟩
  rw [yE,vK]
  rw [vK] at hf
  obtain ⟨et,jj⟩:=yC
  have yJ:=run_storeCells_at (P:=P) b'.block b'.off et (flat us) 0 row w jj (by simpa using yB) yM
  simp only [Nat.add_zero] at yJ
  have yG:b'=⟨b'.block,b'.off,none⟩:=by cases b';simp_all
  rw [← yG] at yJ
  simp [Builtin.copy_,run_underlying ht,Builtin.lenOf,zAY hi,yr,hmin,hf,yJ,goInt,zBi]
theorem zGp {z:Value} {n:Nat}:flat (List.replicate n z)=(Builtin.zeroCells z.cells n).toList:=by
 have hZ:(flat (List.replicate n z)).length=n*z.cells.size:=by
  rw [zBr (sz:=z.cells.size) (fun u hu=>by rw [List.eq_of_mem_replicate hu])];simp
 apply List.ext_getElem
 ·rw [hZ];simp [Builtin.zeroCells]
 ·intro k h1 h2
  rw [hZ] at h1
  have hs:0<z.cells.size:=Nat.pos_of_ne_zero fun h0=>by rw [h0] at h1;simp at h1
  have hdm:k / z.cells.size*z.cells.size+k % z.cells.size=k:=Nat.div_add_mod' k _
  have hq:k / z.cells.size<n:=Nat.div_lt_of_lt_mul (by rw [Nat.mul_comm];exact h1)
  have hr:k % z.cells.size<z.cells.size:=Nat.mod_lt _ hs
  have hzc : z.cells.toList[k % z.cells.size]? = some (z.cells[k % z.cells.size]'hr) := by simp
  have:=zDA (sz:=z.cells.size) (us:=List.replicate n z) (fun u hu=>by rw [List.eq_of_mem_replicate hu]) (i:=k / z.cells.size) (c:=k % z.cells.size) (x:=z) (by simp [hq]) hzc
  rw [hdm] at this
  have h3:=(List.getElem?_eq_some_iff.1 this).2
  rw [h3]
  simp [Builtin.zeroCells,getElem!_pos z.cells (k % z.cells.size) hr]
theorem zTC (S:St w0 U Φ0 nt hv a w e Φ rv E L) (hb:zBs E) {d:Option Nat} (hd:∀ x,d=some x→x<nt) {t ty:TypeId} {ts:List TypeId} {x:Operand} (hx:zAQ nt x=true)
  (h:(zBu P d .clear (t::ts) [x]).run o e=some e'):∃ w',(Builtin.clear_ (t::ts).toArray ty #[a.eval x]).run P w = .ok (.tuple #[]) w'∧Fr w0 U Φ0 nt hv (a.put d (.tuple #[])) w' e':=by
 simp only [zBu] at h
 obtain ⟨p,h1,hp⟩:=zBv S hx h
 simp only [zRg] at h1
 have light:∀ {v:Value},a.eval x=v→d=none→PM.ok.run o e=some e'→(∃ el,P.underlying t=some (.slice el))→((∃ b c,v = .slice b 0 c))→∃ w',(Builtin.clear_ (t::ts).toArray ty #[a.eval x]).run P w = .ok (.tuple #[]) w'∧Fr w0 U Φ0 nt hv (a.put d (.tuple #[])) w' e':=by
  intro v yE uM yH ⟨el,ht⟩ ⟨b,c,hvb⟩
  subst uM
  have vY:Fr w0 U Φ0 nt hv (a.put none (.tuple #[])) w e':=by
   simp only [PM.run,Option.some.injEq] at yH
   subst yH
   exact ⟨Φ,rv,E,L,S,hb⟩
  refine ⟨w,?_,vY⟩
  rw [yE,hvb]
  cases b<;>simp [Builtin.clear_,run_underlying ht]
 split at h1
 ·rename_i r pre z lo n q s vI ke
  obtain ⟨hc,h2⟩:=zAJ h1
  simp only [Bool.and_eq_true] at hc
  obtain ⟨⟨⟨c1,c2⟩,c3⟩,c4⟩:=hc
  have c1:=zB3 c1
  have c2:=Nat.eq_of_beq_eq_true c2
  have c3:=Nat.eq_of_beq_eq_true c3
  subst c2
  cases y5:zBW P t with
  | none=>rw [y5] at vI;cases vI
  | some el =>
  rw [y5] at vI ke
  simp only [Option.bind_some] at vI ke
  have ht:=zCC y5
  obtain ⟨i,z0,hi,_,kM,kL⟩:=zDJ vI
  have hrz:=zCj (w:=w) (Φ:=Φ) (A:=zCe) kL
  have qF:z0.cells.size=z:=by rw [hrz.2.1,c3]
  by_cases kK:n=0
  ·subst kK
   obtain ⟨_,_,⟨b,cap,wo,_⟩,_⟩:=hp
   exact light wo rfl (by simpa [zGo] using h2) ⟨el,ht⟩ ⟨b,cap,rfl⟩
  have uf:∀ k,zA2 w Φ zCe (List.replicate k q) (List.replicate k z0) []:=by
   intro k
   induction k with
   | zero=>exact ⟨rfl,rfl⟩
   | succ k ih=>exact ⟨z0,_,[],[],rfl,rfl,hrz.1,ih⟩
  have S1:=S.hold (g:=zAb+2) (by omega) hp
  obtain ⟨w1,e1,rv1,E1,L1,k1,S2,k3,_,k4⟩:=zK8 (z:=z) (lo:=lo) (n:=n) (v:=a.eval x) c1 (List.replicate n q) (List.replicate n z0) 0 S1 zAj zAj (fun s hs hI=>by rw [zAf hI];exact hb s hs) (fun y hy=>by rw [List.eq_of_mem_replicate hy];exact ⟨c4,c3⟩) (by simp [hrz.2.2.1]) (uf n) (by simp) (by simpa using h2)
  have yI:Fr w0 U Φ0 nt hv (a.put none (.tuple #[])) w1 e':=by
   obtain ⟨Φ2,rv2,E2,L2,S3,qo⟩:=S2.clear
   simp only [PM.run,Option.some.injEq] at k1
   subst k1
   exact ⟨_,_,_,_,S3,qo⟩
  obtain ⟨_,hg,⟨b,cap,wo,yR,yV,y8⟩,hn⟩:=hp
  refine ⟨w1,?_,yI⟩
  rcases k4 with ⟨u3,rfl⟩ | ⟨b',cap',row,yE,y4,yC,yB,yM,rfl⟩
  ·exact absurd (by simpa using u3) kK
  ·obtain ⟨et,jj⟩:=yC
   have yJ:=run_storeCells_at (P:=P) b'.block b'.off et (flat (List.replicate n z0)) 0 row w jj (by simpa using yB) yM
   simp only [Nat.add_zero] at yJ
   have yG:b'=⟨b'.block,b'.off,none⟩:=by cases b';simp_all
   rw [← yG,zGp] at yJ
   rw [yE]
   obtain ⟨m,rfl⟩:∃ m,n=m+1:=⟨n-1,by omega⟩
   simp [Builtin.clear_,run_underlying ht,kM,yJ,zBi,zGp]
 ·rename_i h3 h4
  obtain ⟨el,y5⟩:∃ el,zBW P t=some el:=by
   cases y5:zBW P t with
   | none=>rw [y5] at h3;cases h3
   | some el=>exact ⟨el,rfl⟩
  obtain ⟨_,⟨_,b,c,yE,_⟩ | ⟨b,n',c,us,sz,yE,_⟩⟩:=hp
  ·exact light yE rfl h1 ⟨el,zCC y5⟩ ⟨b,c,rfl⟩
  ·exact light yE rfl h1 ⟨el,zCC y5⟩ ⟨some b,n',rfl⟩
 ·rename_i h3 h4
  obtain ⟨el,y5⟩:∃ el,zBW P t=some el:=by
   cases y5:zBW P t with
   | none=>rw [y5] at h3;cases h3
   | some el=>exact ⟨el,rfl⟩
  exact light hp.1 rfl h1 ⟨el,zCC y5⟩ ⟨none,0,rfl⟩
 ·cases h1
end
end Go.Eng
