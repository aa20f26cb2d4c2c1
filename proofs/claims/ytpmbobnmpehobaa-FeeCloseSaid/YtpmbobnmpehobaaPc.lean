/- No zAk that is tried has a lesser spread than the closest one; a settled zAk where all may cry all. -/
import Derived.Test.YtpmbobnmpehobaaPb
import Derived.MapKept
import Derived.OrdersIn
import Derived.LoopNIn
import Derived.RangeFuncRecord
import Derived.RangeFuncLeaves
import Derived.RangeFuncSeq
set_option linter.unusedVariables false
set_option linter.unusedSimpArgs false
set_option linter.unusedSectionVars false
namespace Go.Eng
open Go
theorem zOG (off:Nat):∀ (vs:List Value) (k:Nat) (cells:Array Value),off+k+vs.length≤cells.size →
  ((vs.zipIdx k).foldl (fun cs x=>cs.setIfInBounds (off+x.2) x.1) cells).toList=cells.toList.take (off+k)++vs++cells.toList.drop (off+k+vs.length)
 | [],k,cells,h=>by simp
 | v :: vs,k,cells,h=>by
  simp only [List.length_cons] at h
  simp only [List.zipIdx_cons,List.foldl_cons]
  rw [zOG off vs (k+1) (cells.setIfInBounds (off+k) v) (by simp;omega)]
  apply List.ext_getElem?
  intro m
  rw [zCU (by simp;omega),zCU (by simp;omega)]
  simp only [Array.toList_setIfInBounds,List.getElem?_set,List.length_cons,Array.length_toList]
  by_cases h1:m<off+k
  ·have:¬ off+k=m:=by omega
   rw [if_pos (by omega),if_pos h1,if_neg this]
  ·by_cases h2:m=off+k
   ·subst h2
    have h5:off+k<off+(k+1):=by omega
    have h6:off+k<cells.size:=by omega
    have h7:off+k<off+k+(vs.length+1):=by omega
    simp [h5,h6,h7]
   ·have h3:¬ off+k=m:=by omega
    by_cases h4:m<off+k+(vs.length+1)
    ·rw [if_neg (by omega),if_pos (by omega),if_neg h1,if_pos h4]
     rw [show m-(off+k)=(m-(off+(k+1)))+1 by omega];simp
    ·rw [if_neg (by omega),if_neg (by omega),if_neg h1,if_neg h4,if_neg h3]
theorem zN5 (off:Nat) (v:Value) (cells:Array Value) (h:off+v.cells.size≤cells.size):v.cells.zipIdx.foldl (fun cs (c,j)=>cs.setIfInBounds (off+j) c) cells=zBe cells off v.cells.toList:=by
 apply Array.ext'
 rw [← Array.foldl_toList,Array.toList_zipIdx]
 have:=zOG off v.cells.toList 0 cells (by simpa using h)
 simpa [zBe] using this
section
variable {P:Program} {w0 w:World} {U Φ0 Φ:Nat→Prop} {nt:Nat} {hv:Hid} {a:Act} {e e':Env} {rv:Nat→Value} {E:Nat→PV} {L:Nat→List Nat} {o:zAF} {A:Al}
theorem zOC:∀ (xs:List Operand) (i:Nat) {k:List PV→PM} {e:Env} {rv:Nat→Value} {E:Nat→PV} {L:Nat→List Nat},St w0 U Φ0 nt hv a w e Φ rv E L→(∀ x∈xs,zAW nt x=true)→(zSr xs k).run o e=some e' →
  ∃ e1 rv1 E1 L1 ps,(k ps).run o e1=some e'∧St w0 U Φ0 nt hv a w e1 Φ rv1 E1 L1∧ps.length=xs.length∧(∀ (j:Nat) (p:PV) (x:Operand),ps[j]? = some p→xs[j]? = some x→E1 (zAb+i+j)=p∧rv1 (zAb+i+j)=a.eval x) ∧
   ∀ s,zAb≤s→(s<zAb+i∨zAb+i+xs.length≤s)→E1 s=E s∧rv1 s=rv s
 | [],i,k,e,rv,E,L,S,hx,h=>⟨e,rv,E,L,[],h,S,rfl,by simp,fun _ _ _=>⟨rfl,rfl⟩⟩
 | x :: xs,i,k,e,rv,E,L,S,hx,h=>by
  simp only [zSr] at h
  obtain ⟨e1,rv1,E1,L1,h1,S1,h2,h3⟩:=zHI S (hx x (by simp)) (g:=zAb+i) (by omega) h
  obtain ⟨e2,rv2,E2,L2,ps,h4,S2,h5,h6,h7⟩:=zOC xs (i+1) S1 (fun y hy=>hx y (by simp [hy])) h1
  refine ⟨e2,rv2,E2,L2,E1 (zAb+i)::ps,h4,S2,by simp [h5],fun j p y hp hy=>?_,fun s hs jp=>?_⟩
  ·cases j with
   | zero =>
    simp at hp hy;subst hp;subst hy
    obtain ⟨k1,k2⟩:=h7 (zAb+i) (by omega) (.inl (by omega))
    simp only [Nat.add_zero]
    rw [k1,k2];exact ⟨rfl,h2⟩
   | succ j =>
    have:=h6 j p y (by simpa using hp) (by simpa using hy)
    rwa [show zAb+i+(j+1)=zAb+(i+1)+j by omega]
  ·obtain ⟨k1,k2⟩:=h7 s hs (by simp at jp;omega)
   obtain ⟨k3,k4,_⟩:=h3 s hs (by simp at jp;omega)
   exact ⟨k1.trans k3,k2.trans k4⟩
theorem zTL (S:St w0 U Φ0 nt hv a w e Φ rv E L) {nz:Option Nat} {x:Operand} (hx:zAW nt x=true) {g:Nat} (hg:zAb≤g) {k:PV→PM} (h:(zUQ nz x k).run o e=some e') :
  ∃ e1 rv1 E1 L1,(k (E1 g)).run o e1=some e'∧St w0 U Φ0 nt hv a w e1 Φ rv1 E1 L1∧rv1 g=a.eval x∧zUy g rv rv1 E E1 L L1:=by
 unfold zUQ at h
 split at h
 ·rename_i s
  have hr:Rep w Φ (zA2 w rv E) (.own s []) (a.eval (.const (.slice none 0 0))) [] := .inl ⟨rfl,rfl,rfl⟩
  refine ⟨e,_,_,_,?_,S.hold hg hr,zAh,fun s _ hH=>⟨zAf hH,zAf hH,zAf hH⟩⟩
  rw [zAh];exact h
 ·exact zHI S hx hg h
theorem zOr {nz:Option Nat}:∀ (xs:List Operand) (i:Nat) {k:List PV→PM} {e:Env} {rv:Nat→Value} {E:Nat→PV} {L:Nat→List Nat},St w0 U Φ0 nt hv a w e Φ rv E L→(∀ x∈xs,zAW nt x=true)→(zOV nz xs k).run o e=some e' →
  ∃ e1 rv1 E1 L1 ps,(k ps).run o e1=some e'∧St w0 U Φ0 nt hv a w e1 Φ rv1 E1 L1∧ps.length=xs.length∧(∀ (j:Nat) (p:PV) (x:Operand),ps[j]? = some p→xs[j]? = some x→E1 (zAb+i+j)=p∧rv1 (zAb+i+j)=a.eval x) ∧
   ∀ s,zAb≤s→(s<zAb+i∨zAb+i+xs.length≤s)→E1 s=E s∧rv1 s=rv s
 | [],i,k,e,rv,E,L,S,hx,h=>⟨e,rv,E,L,[],h,S,rfl,by simp,fun _ _ _=>⟨rfl,rfl⟩⟩
 | x :: xs,i,k,e,rv,E,L,S,hx,h=>by
  simp only [zOV] at h
  obtain ⟨e1,rv1,E1,L1,h1,S1,h2,h3⟩:=zTL S (hx x (by simp)) (g:=zAb+i) (by omega) h
  obtain ⟨e2,rv2,E2,L2,ps,h4,S2,h5,h6,h7⟩:=zOr xs (i+1) S1 (fun y hy=>hx y (by simp [hy])) h1
  refine ⟨e2,rv2,E2,L2,E1 (zAb+i)::ps,h4,S2,by simp [h5],fun j p y hp hy=>?_,fun s hs jp=>?_⟩
  ·cases j with
   | zero =>
    simp at hp hy;subst hp;subst hy
    obtain ⟨k1,k2⟩:=h7 (zAb+i) (by omega) (.inl (by omega))
    simp only [Nat.add_zero]
    rw [k1,k2];exact ⟨rfl,h2⟩
   | succ j =>
    have:=h6 j p y (by simpa using hp) (by simpa using hy)
    rwa [show zAb+i+(j+1)=zAb+(i+1)+j by omega]
  ·obtain ⟨k1,k2⟩:=h7 s hs (by simp at jp;omega)
   obtain ⟨k3,k4,_⟩:=h3 s hs (by simp at jp;omega)
   exact ⟨k1.trans k3,k2.trans k4⟩
theorem zJa (hA:∀ a v,a.isWay=true→A a v→v.oneCell'=true) {p:PV} {v:Value} {M:List Nat} (h:Rep w Φ A p v M) (hw:p.whole=true):zCf v=p.isAgg∧v.cells.size=p.cells.length:=by
 simp only [PV.whole,Bool.or_eq_true] at hw
 have ha:zCf v=p.isAgg:=by
  rcases hw with hw | hw
  ·cases p<;>simp [PV.isAgg] at hw
   obtain ⟨vs,rfl,_⟩:=h;rfl
  ·rw [(zBC (zB7 hA h hw)).2,(zBj hw).2]
 have:=(h.cellsAll ha).length
 exact ⟨ha,by simpa using this⟩
theorem zRs (C:Conf w0 U Φ0 w Φ rv E L) {place place':Nat→Option (Nat×Nat)} (vi:∀ i x,place i=some x→place' i=some x):∀ (ps:List (Nat×PV)) (vs:List (Nat×Value)) (k:Nat) (z cs:List PV) (zc:Array Value) (Lz:List Nat),
  zFs place z ps=some cs→vs.length=ps.length→(∀ (j:Nat) (x:Nat×PV) (y:Nat×Value),ps[j]? = some x→vs[j]? = some y→x.1=y.1∧E (zAb+k+j)=x.2∧rv (zAb+k+j)=y.2) →
  zAZ w Φ (zA2 w rv E) z zc.toList Lz→Lz.Nodup→(∀ b∈Lz,∃ t,zAb≤t∧t<zAb+k∧b∈L t) →
  ∃ cells Lc,Instr.fill place' zc vs=some cells∧zAZ w Φ (zA2 w rv E) cs cells.toList Lc∧Lc.Nodup∧∀ b∈Lc,∃ t,zAb≤t∧t<zAb+k+ps.length∧b∈L t
 | [],vs,k,z,cs,zc,Lz,h,hl,_,hr,hn,hm=>by
  have:vs=[]:=List.eq_nil_of_length_eq_zero (by simpa using hl)
  subst this
  simp only [zFs,Option.some.injEq] at h;subst h
  exact ⟨zc,Lz,rfl,hr,hn,by simpa using hm⟩
 | (i, p) :: ps,vs,k,z,cs,zc,Lz,h,hl,hj,hr,hn,hm=>by
  match vs,hl,hj with
  | (i', v) :: vs,hl,hj =>
   obtain ⟨h1,h2,h3⟩:=hj 0 (i,p) (i',v) rfl rfl
   simp only [Nat.add_zero] at h1 h2 h3
   subst h1
   simp only [zFs] at h
   cases hp:place i with
   | none=>rw [hp] at h;cases h
   | some x =>
    obtain ⟨off,n⟩:=x
    rw [hp] at h;simp only at h
    split at h
    ·rename_i hc
     obtain ⟨c1,c2,c3⟩:=hc
     have hI:=C.rep (zAb+k)
     rw [h2,h3] at hI
     obtain ⟨q1,q2⟩:=zJa (fun a v hw h=>zC4 hw h) hI c3
     have ko:zc.size=z.length:=by have:=hr.length;simpa using this
     obtain ⟨L1,L2,L3,hL,hk⟩:=hr.replace off n
     subst hL
     have j8:=hk (w':=w) (Φ':=Φ) (A':=zA2 w rv E) (fun _ _ _ h=>h) zDo.refl (fun _ _=>rfl) (hI.cellsAll q1)
     have vI:v.cells.toList.length=n:=by simp;omega
     have yS:(zBe zc off v.cells.toList).toList=zc.toList.take off++v.cells.toList++zc.toList.drop (off+n):=by
      simp only [zBe];rw [vI]
     simp only [List.nodup_append] at hn
     have kx:∀ b∈L (zAb+k),b∉L1++L2++L3:=by
      intro b hb jS
      obtain ⟨t,k1,k2,k3⟩:=hm b jS
      exact C.disj t (zAb+k) (by omega) b k3 hb
     obtain ⟨cells,Lc,g1,g2,g3,g4⟩:=zRs C vi ps vs (k+1) _ cs (zBe zc off v.cells.toList) (L1++L (zAb+k)++L3) h (by simpa using hl) (fun j x y hx hy=>by
      rw [show zAb+(k+1)+j=zAb+k+(j+1) by omega];exact hj (j+1) x y (by simpa using hx) (by simpa using hy)) (by rw [yS];exact j8)
      (by
       simp only [List.nodup_append]
       refine ⟨⟨hn.1.1,C.nodup _,fun x hx y hy e=>kx y hy (by rw [← e];simp [hx])⟩,hn.2.1,fun x hx y hy e=>?_⟩
       rcases List.mem_append.1 hx with hx | hx
       ·exact hn.2.2 x (by simp [hx]) y hy e
       ·exact kx x hx (by rw [e];simp [hy]))
      (fun b hb=>by
       simp only [List.mem_append] at hb
       rcases hb with (hb | hb) | hb
       ·obtain ⟨t,k1,k2,k3⟩:=hm b (by simp [hb]);exact ⟨t,k1,by omega,k3⟩
       ·exact ⟨zAb+k,by omega,by omega,hb⟩
       ·obtain ⟨t,k1,k2,k3⟩:=hm b (by simp [hb]);exact ⟨t,k1,by omega,k3⟩)
     refine ⟨cells,Lc,?_,g2,g3,fun b hb=>?_⟩
     ·simp only [Instr.fill,vi i _ hp]
      rw [if_neg (by simp;omega),zN5 off v zc (by omega)]
      exact g1
     ·obtain ⟨t,k1,k2,k3⟩:=g4 b hb
      exact ⟨t,k1,by simp;omega,k3⟩
    ·cases h
theorem St.madeN (S:St w0 U Φ0 nt hv a w e Φ rv E L) (N:Nat) (hb:∀ s,zAb+N≤s→E s = .bad) {d:Option Nat} (hd:∀ x,d=some x→x<nt) {w':World} {p:PV} {v:Value} {Lp:List Nat} (hr:∀ A:Al,(∀ a u,a.isWay=true→zA2 w rv E a u→A a u)→Rep w' Φ A p v Lp) (vF:Lp.Nodup)
  (ho:∀ b∈Lp,(∃ t,zAb≤t∧t<zAb+N∧b∈L t)∨(w.heap.size≤b∧b<w'.heap.size)) (hw:w.heap.size≤w'.heap.size)
  (hk:∀ b,b<w.heap.size→(∀ t,zAb≤t→t<zAb+N→b∉L t)→w'.heap[b]? = w.heap[b]?) (uB:w'.os=w.os∧w'.tape=w.tape∧w'.output=w.output) (h:(put d p).run o e=some e') :
  Fr w0 U Φ0 nt hv (a.put d v) w' e':=by
 have hG:∀ s,decide (zAb≤s∧s<zAb+N)=true↔zAb≤s∧s<zAb+N:=fun s=>decide_eq_true_iff
 have hc:=S.conf.make (w':=w') (fun s=>decide (zAb≤s∧s<zAb+N)) (fun s hs=>((hG s).1 hs).1) (g:=zAb+N) (by omega) (fun A hA=>hr A hA) vF
  (fun b hb=>(ho b hb).imp (fun ⟨t,h1,h2,h3⟩=>⟨t,h3,(hG t).2 ⟨h1,h2⟩⟩) id) hw
  (fun b hb hn=>hk b hb fun t h1 h2 h3=>by have:=hn t h3;rw [(hG t).2 ⟨h1,h2⟩] at this;cases this) uB
 have S1:=S.turn (e':=e) hc (fun s hs=>by
  rw [zAf (by omega)]
  have:decide (zAb≤s∧s<zAb+N)=false:=decide_eq_false (by omega)
  simp only [this,Bool.false_eq_true,if_false];exact S.env s hs) (fun s hs=>zAf (by omega)) (fun d ps hd hp=>by
  rw [zAf (by simp only [zAb];omega)] at hp
  have:decide (zAb≤d∧d<zAb+N)=false:=decide_eq_false (by simp only [zAb];omega)
  simp only [this,Bool.false_eq_true,if_false] at hp;exact ⟨ps,hp,rfl⟩)
 have:=zFy S1 hd (g:=zAb+N) (by omega) (by rw [zAh];exact h) (fun s hs hH=>by
  rw [zAf hH]
  by_cases h3:s<zAb+N
  ·have:decide (zAb≤s∧s<zAb+N)=true:=(hG s).2 ⟨hs,h3⟩
   simp [this]
  ·have:decide (zAb≤s∧s<zAb+N)=false:=decide_eq_false (by omega)
   simp only [this,Bool.false_eq_true,if_false];exact hb s (by omega))
 rwa [zAh] at this
theorem zOh (S:St w0 U Φ0 nt hv a w e Φ rv E L) (hb:zBw E) {d:Option Nat} (hd:∀ x,d=some x→x<nt) {place place':Nat→Option (Nat×Nat)} (vi:∀ i x,place i=some x→place' i=some x) {t:TypeId} {z:PV} (hz:zDc P t=some z) {ps:List (Nat×Operand)} (yc:∀ x∈ps,zAW nt x.2=true)
  (h:(zOI place z.cells ps fun cs=>put d (.agg cs)).run o e=some e'):∃ v cells,(∀ w:World,(zeroValue t).run P w = .ok v w)∧Instr.fill place' v.cells (ps.map fun x=>(x.1,a.eval x.2))=some cells∧Fr w0 U Φ0 nt hv (a.put d (.agg cells)) w e':=by
 obtain ⟨i,zv,hi,hzv,hZ,kg⟩:=zEf hz
 simp only [zOI] at h
 obtain ⟨e1,rv1,E1,L1,vs,h1,S1,h2,h3,h4⟩:=zOC (ps.map (·.2)) 0 S (fun x hx=>by
  obtain ⟨y,hy,rfl⟩:=List.mem_map.1 hx;exact yc y hy) h
 simp only [List.length_map] at h2 h4
 split at h1
 ·rename_i cs hf
  obtain ⟨hr,uL,kC,_⟩:=zCD (w:=w) (Φ:=Φ) (A:=zA2 w rv1 E1) kg
  obtain ⟨cells,Lc,g1,g2,g3,g4⟩:=zRs S1.conf vi ((ps.map (·.1)).zip vs) (ps.map fun x=>(x.1,a.eval x.2)) 0 z.cells cs zv.cells [] hf (by simp [h2]) (fun j x y hx hy=>by
   obtain ⟨jZ,jY⟩:=List.getElem?_zip_eq_some.1 hx
   rw [List.getElem?_map] at jZ hy
   cases vN:ps[j]? with
   | none=>rw [vN] at hy;cases hy
   | some q =>
    rw [vN] at jZ hy
    simp only [Option.map_some,Option.some.injEq] at jZ hy
    obtain ⟨k1,k2⟩:=h3 j x.2 q.2 jY (by rw [List.getElem?_map,vN];rfl)
    exact ⟨by rw [← jZ,← hy],k1,by rw [k2,← hy]⟩) (hr.cellsAll kC) List.nodup_nil (by simp)
  refine ⟨zv,cells,hZ,g1,S1.madeN ps.length (fun s hs=>?_) hd (p := .agg cs) (v := .agg cells) (w':=w) (Lp:=Lc) (fun A hA=>⟨cells,rfl,g2.mono zDo.refl hA (fun _ _=>rfl)⟩) g3 (fun b hb => .inl ?_) (Nat.le_refl _) (fun _ _ _=>rfl) ⟨rfl,rfl,rfl⟩ h1⟩
  ·rw [(h4 s (by omega) (.inr (by omega))).1];exact hb s (by omega)
  ·obtain ⟨t,k1,k2,k3⟩:=g4 b hb
   have hl:((ps.map (·.1)).zip vs).length=ps.length:=by simp [h2]
   exact ⟨t,k1,by omega,k3⟩
 ·cases h1
theorem zQn {α β:Type} {f:α→Sem β} {g:α→β} (l:List α) (h:∀ x∈l,∀ w:World,(f x).run P w = .ok (g x) w) (w:World):(l.mapM f).run P w = .ok (l.map g) w:=by
 induction l with
 | nil=>rfl
 | cons x l ih=>simp only [List.mapM_cons,Sem.run_bind,h x (by simp),Result.andThen_ok,ih (fun y hy=>h y (by simp [hy])),Sem.run_pure,List.map_cons]
theorem zSo (S:St w0 U Φ0 nt hv a w e Φ rv E L) (hb:zBw E) {d:Option Nat} (hd:∀ x,d=some x→x<nt) {t:TypeId} {ps:Array (Nat×Operand)} (yc:∀ x∈ps.toList,zAW nt x.2=true) (h:(zNd P d t ps.toList).run o e=some e') :
  ∃ v,(Instr.build t (ps.map fun x=>(x.1,a.eval x.2))).run P w = .ok v w∧Fr w0 U Φ0 nt hv (a.put d v) w e':=by
 have uT:(ps.map fun x=>(x.1,a.eval x.2)).toList=ps.toList.map fun x=>(x.1,a.eval x.2):=by simp
 simp only [zNd] at h
 split at h
 ·rename_i fs z ht hz
  obtain ⟨wL,h1⟩:=zAV h
  simp only [Option.map_eq_some_iff] at hz
  obtain ⟨zp,hz,rfl⟩:=hz
  let sz:Field→Nat:=fun f=>(szT P f.type).getD 0
  have vk:∀ f∈fs.toList,∀ w:World,(sizeOf f.type).run P w = .ok (sz f) w:=by
   intro f hf w
   rw [← Array.all_toList] at wL
   have:=List.all_eq_true.1 wL f hf
   obtain ⟨n,hn⟩:=Option.isSome_iff_exists.1 this
   obtain ⟨i,hi,qT⟩:=zCh hn
   simp only [sz,hn,Option.getD_some]
   rw [zAX hi,qT]
  obtain ⟨zv,cells,k1,k2,k3⟩:=zOh (P:=P) S hb hd (place':=fun i=>(fs.map fun f=>(f.offset,sz f))[i]?) (fun i x hx=>by
   cases hfi:fs[i]? with
   | none=>rw [hfi] at hx;cases hx
   | some f =>
    rw [hfi] at hx;simp only [Option.bind_some] at hx
    cases hs:szT P f.type with
    | none=>rw [hs] at hx;cases hx
    | some n =>
     rw [hs] at hx;simp only [Option.map_some,Option.some.injEq] at hx
     subst hx
     simp [hfi,sz,hs]) hz yc h1
  refine ⟨.agg cells,?_,k3⟩
  have hm:∀ w:World,(fs.mapM fun f=>(do pure (f.offset,← sizeOf f.type):Sem (Nat×Nat))).run P w = .ok (fs.map fun f=>(f.offset,sz f)) w:=by
   intro w
   have:=zQn (P:=P) (f:=fun f=>(do pure (f.offset,← sizeOf f.type):Sem (Nat×Nat))) (g:=fun f=>(f.offset,sz f)) fs.toList (fun f hf w=>by
    simp only [Sem.run_bind,vk f hf w,Result.andThen_ok,Sem.run_pure]) w
   rw [Array.mapM_eq_mapM_toList]
   simp only [Sem.run_map,this,Result.andThen_ok]
   rw [← Array.toList_map,Array.toArray_toList]
  simp only [Instr.build,Sem.run_bind,k1,Result.andThen_ok,run_underlying ht,hm]
  rw [uT,k2]
  rfl
 ·rename_i len el z ht hz
  obtain ⟨n,hn,h1⟩:=zBD h
  simp only [Option.map_eq_some_iff] at hz
  obtain ⟨zp,hz,rfl⟩:=hz
  obtain ⟨i,hi,qT⟩:=zCh hn
  obtain ⟨zv,cells,k1,k2,k3⟩:=zOh (P:=P) S hb hd (place':=fun i=>some (i*n,n)) (fun i x hx=>hx) hz yc h1
  refine ⟨.agg cells,?_,k3⟩
  simp only [Instr.build,Sem.run_bind,k1,Result.andThen_ok,run_underlying ht,zAX hi,qT]
  rw [uT,k2]
  rfl
 ·cases h
theorem zKA {tk:Bool}:∀ (ps:List PV) (i:Nat) {k:List PV→PM} {e:Env} {Φ:Nat→Prop} {rv:Nat→Value} {E:Nat→PV} {L:Nat→List Nat},St w0 U Φ0 nt hv a w e Φ rv E L→(∀ (j:Nat) (p:PV),ps[j]? = some p→E (zAb+i+j)=p)→(zF8 tk ps k).run o e=some e' →
  ∃ e1 Φ1 rv1 E1 L1 qs,(k qs).run o e1=some e'∧St w0 U Φ0 nt hv a w e1 Φ1 rv1 E1 L1∧qs.length=ps.length∧(∀ (j:Nat) (q:PV),qs[j]? = some q→E1 (zAb+i+j)=q∧rv1 (zAb+i+j)=rv (zAb+i+j)) ∧
   ∀ s,zAb≤s→(s<zAb+i∨zAb+i+ps.length≤s)→E1 s=E s∧rv1 s=rv s
 | [],i,k,e,Φ,rv,E,L,S,hp,h=>⟨e,Φ,rv,E,L,[],h,S,rfl,by simp,fun _ _ _=>⟨rfl,rfl⟩⟩
 | p :: ps,i,k,e,Φ,rv,E,L,S,hp,h=>by
  simp only [zF8] at h
  have hE:=hp 0 p rfl
  simp only [Nat.add_zero] at hE
  rw [← hE] at h
  obtain ⟨e1,rv1,E1,h1,W⟩:=zMQ S (g:=zAb+i) (by omega) h
  obtain ⟨Φ1,L1,S1⟩:=W.st
  obtain ⟨e2,Φ2,rv2,E2,L2,qs,h2,S2,h3,h4,h5⟩:=zKA ps (i+1) S1 (fun j q hq=>by
   rw [(W.rest _ (by omega) (by omega)).1,show zAb+(i+1)+j=zAb+i+(j+1) by omega];exact hp (j+1) q (by simpa using hq)) h1
  refine ⟨e2,Φ2,rv2,E2,L2,E1 (zAb+i)::qs,h2,S2,by simp [h3],fun j q hq=>?_,fun s hs jp=>?_⟩
  ·cases j with
   | zero =>
    simp at hq;subst hq
    obtain ⟨k1,k2⟩:=h5 (zAb+i) (by omega) (.inl (by omega))
    simp only [Nat.add_zero]
    exact ⟨k1,k2.trans W.val⟩
   | succ j =>
    obtain ⟨k1,k2⟩:=h4 j q (by simpa using hq)
    rw [show zAb+(i+1)+j=zAb+i+(j+1) by omega] at k1 k2
    exact ⟨k1,k2.trans (W.rest _ (by omega) (by omega)).2⟩
  ·obtain ⟨k1,k2⟩:=h5 s hs (by simp at jp;omega)
   obtain ⟨k3,k4⟩:=W.rest s hs (by simp at jp;omega)
   exact ⟨k1.trans k3,k2.trans k4⟩
theorem zNR (C:Conf w0 U Φ0 w Φ rv E L) {s n:Nat}:∀ (ps:List (Nat×PV)) (vs:List (Nat×Value)) (k:Nat) (xs:List PV) (us:List Value) (cells:Array Value) (Lx:List Nat),vs.length=ps.length →
  (∀ (j:Nat) (x:Nat×PV) (y:Nat×Value),ps[j]? = some x→vs[j]? = some y→x.1=y.1∧x.1<n∧E (zAb+k+j)=x.2∧rv (zAb+k+j)=y.2∧x.2.ways=[]∧x.2.whole=true∧x.2.cells.length=s) →
  xs.length=n→us.length=n→cells.toList=flat us→(∀ x∈xs,x.cells.length=s)→(∀ u∈us,u.cells.size=s)→us.map zCf=xs.map PV.isAgg→zAZ w Φ zCn xs us Lx→Lx.Nodup→(∀ b∈Lx,∃ t,zAb≤t∧t<zAb+k∧b∈L t) →
  ∃ cells' us' Lc,Instr.fill (fun i=>some (i*s,s)) cells vs=some cells'∧cells'.toList=flat us'∧us'.length=n∧(∀ u∈us',u.cells.size=s)∧(∀ x∈ps.foldl (fun xs (i,v)=>xs.set i v) xs,x.cells.length=s)∧us'.map zCf=(ps.foldl (fun xs (i,v)=>xs.set i v) xs).map PV.isAgg ∧
   zAZ w Φ zCn (ps.foldl (fun xs (i,v)=>xs.set i v) xs) us' Lc∧Lc.Nodup∧∀ b∈Lc,∃ t,zAb≤t∧t<zAb+k+ps.length∧b∈L t
 | [],vs,k,xs,us,cells,Lx,hl,_,h1,h2,h3,h4,h5,h6,h7,h8,h9=>by
  have:vs=[]:=List.eq_nil_of_length_eq_zero (by simpa using hl)
  subst this
  exact ⟨cells,us,Lx,rfl,h3,h2,h5,h4,h6,h7,h8,by simpa using h9⟩
 | (i, p)::ps,vs,k,xs,us,cells,Lx,hl,hj,h1,h2,h3,h4,h5,h6,h7,h8,h9=>by
  match vs,hl,hj with
  | (i',v)::vs,hl,hj =>
   obtain ⟨q1,q2,q3,q4,q5,q6,q7⟩:=hj 0 (i,p) (i',v) rfl rfl
   simp only [Nat.add_zero] at q1 q2 q3 q4 q5 q6 q7
   subst q1
   have hI:=C.rep (zAb+k)
   rw [q3,q4] at hI
   obtain ⟨w1,w2⟩:=zJa (fun a v hw h=>zC4 hw h) hI q6
   have yq:v.cells.size=s:=by omega
   have hrep0:Rep w Φ zCn p v (L (zAb+k)):=zTd q5 (fun a v hw h=>zJn hw h) hI
   obtain ⟨L1,L2,L3,hL,hk⟩:=h7.replace i 1
   subst hL
   have j8:=hk (w':=w) (Φ':=Φ) (A':=zCn) (fun _ _ _ h=>h) zDo.refl (fun _ _=>rfl) (show zAZ w Φ zCn [p] [v] (L (zAb+k)) from ⟨v,[],_,[],rfl,by simp,hrep0,rfl,rfl⟩)
   rw [← zEQ (by omega),← zEQ (by omega)] at j8
   have hci:cells.size=n*s:=by
    have:=congrArg List.length h3
    rw [zBn h5,h2] at this;simpa using this
   have w6:i*s+s≤n*s:=by rw [← Nat.succ_mul];exact Nat.mul_le_mul_right _ q2
   have jo:(zBe cells (i*s) v.cells.toList).toList=flat (us.set i v):=by
    simp only [zBe]
    rw [h3,zEQ (by omega:i<us.length),zCZ,zCZ,show (v.cells.toList).length=s by simpa using yq,zJi h5]
    have:i*s+s=(i+1)*s:=by rw [Nat.succ_mul]
    rw [this,zJs h5]
    simp [flat]
   simp only [List.nodup_append] at h8
   have kx:∀ b∈L (zAb+k),b∉L1++L2++L3:=by
    intro b hb jS
    obtain ⟨t,k1,k2,k3⟩:=h9 b jS
    exact C.disj t (zAb+k) (by omega) b k3 hb
   have yt:(us.set i v).map zCf=(xs.set i p).map PV.isAgg:=by
    apply List.ext_getElem?
    intro m
    have hm:=congrArg (·[m]?) h6
    simp only [List.getElem?_map,List.getElem?_set] at hm ⊢
    by_cases hmi:i=m
    ·subst hmi
     have e1:i<us.length:=by omega
     have e2:i<xs.length:=by omega
     simp [e1,e2,w1]
    ·simp only [hmi,if_false];exact hm
   obtain ⟨cells',us',Lc,g1,g2,g3,g4,g5,g6,g7,g8,g9⟩:=zNR C ps vs (k+1) (xs.set i p) (us.set i v) (zBe cells (i*s) v.cells.toList) (L1++L (zAb+k)++L3) (by simpa using hl) (fun j x y hx hy=>by
    rw [show zAb+(k+1)+j=zAb+k+(j+1) by omega];exact hj (j+1) x y (by simpa using hx) (by simpa using hy)) (by simpa using h1) (by simpa using h2) jo
    (fun x hx=>(List.mem_or_eq_of_mem_set hx).elim (h4 x) (fun h=>h▸q7)) (fun u hu=>(List.mem_or_eq_of_mem_set hu).elim (h5 u) (fun h=>h▸yq)) yt j8
    (by
     simp only [List.nodup_append]
     refine ⟨⟨h8.1.1,C.nodup _,fun x hx y hy e=>kx y hy (by rw [← e];simp [hx])⟩,h8.2.1,fun x hx y hy e=>?_⟩
     rcases List.mem_append.1 hx with hx | hx
     ·exact h8.2.2 x (by simp [hx]) y hy e
     ·exact kx x hx (by rw [e];simp [hy]))
    (fun b hb=>by
     simp only [List.mem_append] at hb
     rcases hb with (hb | hb) | hb
     ·obtain ⟨t,k1,k2,k3⟩:=h9 b (by simp [hb]);exact ⟨t,k1,by omega,k3⟩
     ·exact ⟨zAb+k,by omega,by omega,hb⟩
     ·obtain ⟨t,k1,k2,k3⟩:=h9 b (by simp [hb]);exact ⟨t,k1,by omega,k3⟩)
   refine ⟨cells',us',Lc,?_,g2,g3,g4,g5,g6,g7,g8,fun b hb=>?_⟩
   ·simp only [Instr.fill]
    rw [if_neg (by simp;omega),zN5 (i*s) v cells (by omega)]
    exact g1
   ·obtain ⟨t,k1,k2,k3⟩:=g9 b hb
    exact ⟨t,k1,by simp;omega,k3⟩
theorem zLN:∀ {ps:List PV},zBy ps=[]→∀ p∈ps,p.ways=[]
 | [],_,_,h=>by cases h
 | q::qs,h,p,hp=>by
  simp only [zBy,List.append_eq_nil_iff] at h
  rcases List.mem_cons.1 hp with rfl | hp
  ·exact h.1
  ·exact zLN h.2 p hp
theorem zKC (S:St w0 U Φ0 nt hv a w e Φ rv E L) (hb:zBw E) {d:Option Nat} (hd:∀ x,d=some x→x<nt) {tk:Bool} {t:TypeId} {n:Nat} {ps:Array (Nat×Operand)} (yc:∀ x∈ps.toList,zAW nt x.2=true) (h:(zDH P tk d t n ps.toList).run o e=some e') :
  ∃ v w',(Instr.buildSlice t n (ps.map fun x=>(x.1,a.eval x.2))).run P w = .ok v w'∧Fr w0 U Φ0 nt hv (a.put d v) w' e':=by
 have uT:(ps.map fun x=>(x.1,a.eval x.2)).toList=ps.toList.map fun x=>(x.1,a.eval x.2):=by simp
 simp only [zDH] at h
 split at h
 ·rename_i el jG
  split at h
  ·rename_i s z hs hz
   obtain ⟨hc,h1⟩:=zDk h
   simp only [Bool.and_eq_true,decide_eq_true_eq,List.all_eq_true] at hc
   obtain ⟨⟨hns,ko⟩,hpn⟩:=hc
   have ko:=Nat.eq_of_beq_eq_true ko
   obtain ⟨i,zv,hi,hzv,hZ,kg⟩:=zEf hz
   obtain ⟨i2,uG,qT⟩:=zCh hs
   rw [hi] at uG;cases uG
   have ht:=zCz jG
   obtain ⟨e1,rv1,E1,L1,vs,h2,S1,h3,h4,h5⟩:=zOr (ps.toList.map (·.2)) 0 S (fun x hx=>by
    obtain ⟨y,hy,rfl⟩:=List.mem_map.1 hx;exact yc y hy) h1
   obtain ⟨e2,Φ2,rv2,E2,L2,qs,h6,S2,h7,h8,h9⟩:=zKA vs 0 S1 (fun j p hp=>by
    have hj:j<(ps.toList.map (·.2)).length:=by
     have:=(List.getElem?_eq_some_iff.1 hp).1;omega
    exact (h4 j p _ hp (List.getElem?_eq_getElem hj)).1) h2
   obtain ⟨hq,h10⟩:=zDk h6
   simp only [Bool.and_eq_true,List.all_eq_true,List.isEmpty_iff,decide_eq_true_eq] at hq
   obtain ⟨hw,hq⟩:=hq
   simp only [List.length_map] at h3 h5
   have hO:((ps.toList.map (·.1)).zip qs).length=ps.toList.length:=by simp;simp at h3;omega
   obtain ⟨vW,uL,kC,_⟩:=zCD (w:=w) (Φ:=Φ2) (A:=zCn) kg
   have ut:zv.cells.size=s:=by rw [uL,ko]
   have hzz:zAZ w Φ2 zCn (List.replicate n z) (List.replicate n zv) []:=by
    clear h10 hO hq h6 h2 hns hpn h1 h ko
    induction n with
    | zero=>exact ⟨rfl,rfl⟩
    | succ n ih=>exact ⟨zv,_,[],[],rfl,rfl,(zCD kg).1,ih⟩
   have hmade:(madeCells zv.cells (n*s)).toList=flat (List.replicate n zv):=by
    have hl:(flat (List.replicate n zv)).length=n*s:=by
     rw [zBn (sz:=s) (fun u hu=>by rw [List.eq_of_mem_replicate hu];exact ut)];simp
    apply List.ext_getElem?
    intro m
    by_cases hm:m<n*s
    ·have:=zGp ut (l:=n) (k:=m) (List.getElem?_eq_getElem (by omega))
     rw [Array.getElem?_toList,zNI (m:=m+1) hm (by omega),this,List.getElem?_eq_getElem (by omega)]
    ·rw [List.getElem?_eq_none (by simp [size_madeCells];omega),List.getElem?_eq_none (by omega)]
   obtain ⟨cells',us',Lc,g1,g2,g3,g4,g5,g6,g7,g8,g9⟩:=zNR S2.conf (s:=s) (n:=n) ((ps.toList.map (·.1)).zip qs) (ps.toList.map fun x=>(x.1,a.eval x.2)) 0 (List.replicate n z) (List.replicate n zv) (madeCells zv.cells (n*s)) [] (by simp;simp at h3;omega)
    (fun j x y hx hy=>by
     obtain ⟨jZ,jY⟩:=List.getElem?_zip_eq_some.1 hx
     rw [List.getElem?_map] at jZ hy
     cases vN:ps.toList[j]? with
     | none=>rw [vN] at hy;cases hy
     | some q =>
      rw [vN] at jZ hy
      simp only [Option.map_some,Option.some.injEq] at jZ hy
      have jA:q∈ps.toList:=List.mem_of_getElem? vN
      obtain ⟨k1,k2⟩:=h8 j x.2 jY
      have hvj:j<vs.length:=by have:=(List.getElem?_eq_some_iff.1 jY).1;omega
      obtain ⟨k3,k4⟩:=h4 j _ q.2 (List.getElem?_eq_getElem hvj) (by rw [List.getElem?_map,vN];rfl)
      have hqx:=hq x.2 (List.mem_of_getElem? jY)
      refine ⟨by rw [← jZ,← hy],by rw [← jZ];exact hpn q jA,k1,?_,zLN hw _ (List.mem_of_getElem? jY),hqx.2,hqx.1.1⟩
      rw [Nat.add_zero] at k2 k4 ⊢
      rw [k2,k4,← hy])
    (by simp) (by simp) hmade (fun x hx=>by rw [List.eq_of_mem_replicate hx];exact ko) (fun u hu=>by rw [List.eq_of_mem_replicate hu];exact ut) (by simp [kC]) hzz List.nodup_nil (by simp)
   have j2:cells'.size=n*s:=by
    have:=congrArg List.length g2
    rw [zBn g4,g3] at this;simpa using this
   refine ⟨.slice (some ⟨w.heap.size,0,none⟩) n n,zGG w cells' el,?_,?_⟩
   ·subst qT
    have uw:∀ y:Array Value,(n*i.size=0∨y=zv.cells)→(Array.range (n*i.size)).map (fun k=>y[k % y.size]!)=madeCells zv.cells (n*i.size):=by
     rintro y (h0 | rfl)
     ·simp [h0,madeCells]
     ·rfl
    have yL:¬ n*i.size>2 ^ 24:=by omega
    simp only [Instr.buildSlice,Sem.run_bind,run_underlying ht,Result.andThen_ok,zAX hi]
    rw [if_neg yL]
    split
    ·rename_i h0
     simp only [Sem.run_pure,Result.andThen_ok,Sem.run_bind,uw #[] (.inl h0),uT,g1,zFd]
    ·simp only [Sem.run_pure,Result.andThen_ok,Sem.run_bind,hZ,uw zv.cells (.inr rfl),uT,g1,zFd]
   ·have hold:∀ b,b<w.heap.size→(zGG w cells' el).heap[b]? = w.heap[b]?:=fun b hb=>zG6 hb
    have hΦ:zDo w (zGG w cells' el) Φ2 Φ2:=fun b hb=>⟨hb,hold b (S2.conf.frz b hb).1⟩
    have jl:zAZ (zGG w cells' el) Φ2 zCn (zMr n z ((ps.toList.map (·.1)).zip qs)) us' Lc:=g7.mono hΦ (fun _ _ _ h=>h) fun b hb=>by
     obtain ⟨t,_,_,k3⟩:=g9 b hb
     exact hold b (S2.conf.own t b k3).1
    have jg:(zMr n z ((ps.toList.map (·.1)).zip qs)).length=n:=jl.length.symm.trans g3
    refine S2.madeN ps.toList.length (fun s hs=>?_) hd (p := .own s (zMr n z ((ps.toList.map (·.1)).zip qs))) (Lp:=w.heap.size::Lc) (fun A _=>?_) ?_ (fun b yF=>?_) (by rw [zF9];omega) (fun b yF _=>hold b yF) ⟨rfl,rfl,rfl⟩ h10
    ·rw [(h9 s (by omega) (.inr (by omega))).1,(h5 s (by omega) (.inr (by omega))).1];exact hb s (by omega)
    ·refine .inr ⟨⟨w.heap.size,0,none⟩,n,cells',us',Lc,rfl,by rw [jg],rfl,by omega,zME,by rw [j2];simp,g5,⟨g4,g6⟩,?_,jl⟩
     rw [jg]
     refine zHG (by rw [zBn g4,g3]) fun k u hk=>?_
     rw [Nat.zero_add,← hk,← g2,Array.getElem?_toList]
    ·refine List.nodup_cons.2 ⟨fun hm=>?_,g8⟩
     obtain ⟨t,_,_,k3⟩:=g9 _ hm
     exact absurd (S2.conf.own t _ k3).1 (Nat.lt_irrefl _)
    ·rcases List.mem_cons.1 yF with rfl | yF
     ·exact .inr ⟨Nat.le_refl _,by rw [zF9];omega⟩
     ·obtain ⟨t,k1,k2,k3⟩:=g9 b yF
      exact .inl ⟨t,k1,by omega,k3⟩
  ·cases h
 ·cases h
end
end Go.Eng
namespace Go.Eng
open Go
section
variable {P:Program} {w0 w:World} {U Φ0 Φ:Nat→Prop} {nt:Nat} {hv:Hid} {a:Act} {e e':Env} {rv:Nat→Value} {E:Nat→PV} {L:Nat→List Nat} {o:zAF} {A:Al}
theorem zTx (S:St w0 U Φ0 nt hv a w e Φ rv E L) (hb:zBw E) {d:Option Nat} (hd:∀ x,d=some x→x<nt) {t t2 ty:TypeId} {x y:Operand} (hx:zAW nt x=true) (hy:zAW nt y=true)
  (h:(zBr P d .copy [t,t2] [x,y]).run o e=some e'):∃ v w',(Builtin.copy_ #[t,t2] ty #[a.eval x,a.eval y]).run P w = .ok v w'∧Fr w0 U Φ0 nt hv (a.put d v) w' e':=by
 simp only [zBr] at h
 obtain ⟨sz,yD,h1⟩:=zBD h
 obtain ⟨el,jG,j3⟩:=zT9 (el:=0) yD
 have ht:=zCz jG
 obtain ⟨i,hi,yp⟩:=zCh j3
 obtain ⟨p,h2,hp⟩:=zBz S hx h1
 obtain ⟨q,h3,hq⟩:=zBz S hy h2
 obtain ⟨ys,us,Ly,h4,kQ⟩:=zMo S hq h3
 obtain ⟨⟨xb,xc,vK,yN⟩,jR,vk,jy⟩:=kQ
 cases p<;>try (cases h4;done)
 rename_i r pre z lo n
 obtain ⟨hc,h5⟩:=zAV h4
 simp only [Bool.and_eq_true,List.all_eq_true] at hc
 obtain ⟨⟨⟨ut,kL⟩,hln⟩,jI⟩:=hc
 have ut:=Nat.eq_of_beq_eq_true ut
 have kL:=zBY kL
 have hln:=Nat.le_of_ble_eq_true hln
 subst ut
 have uy:∀ y∈ys,y.plain=true∧y.cells.length=z:=fun y hy=>⟨(jI y hy).1,Nat.eq_of_beq_eq_true (jI y hy).2⟩
 have qQ:Ly=[]:=zF0 (fun y hy=>(uy y hy).1) jR
 subst qQ
 have hsu:=vk z (fun y hy=>(uy y hy).2)
 have S1:=S.hold (g:=zAb+2) (by omega) hp
 obtain ⟨w1,e1,rv1,E1,L1,k1,S2,k3,_,k4⟩:=zKL (z:=z) (lo:=lo) (n:=n) (v:=a.eval x) kL ys us 0 S1 zAh zAh (fun s hs hH=>by rw [zAf hH];exact hb s hs) uy jy jR (by omega) (by simpa using h5)
 have yJ:Fr w0 U Φ0 nt hv (a.put d (.int .i64 ys.length)) w1 e':=by
  obtain ⟨Φ2,rv2,E2,L2,S3,wn⟩:=S2.clear
  exact zAw S3 wn hd k1 (v := .int .i64 ys.length) ⟨rfl,rfl⟩
 have hf:=yN z (fun y hy=>(uy y hy).2) P w (fun _=>rfl)
 have hmin:Nat.min ys.length n=ys.length:=Nat.min_eq_left hln
 obtain ⟨_,hg,⟨b,cap,wV,yQ,yW,y8⟩,hn⟩:=hp
 rcases k4 with ⟨rfl,rfl⟩ | ⟨b',cap',row,yC,yS,yB,yA,yI,rfl⟩
 ·refine ⟨.int .i64 0,w1,?_,yJ⟩
  have yz:us=[]:=List.eq_nil_of_length_eq_zero (by have:=jR.length;simpa using this)
  subst yz
  rw [wV,vK]
  rw [vK] at hf
  have hf0:(Builtin.firstCells z 0 (.slice xb 0 xc)).run P w1 = .ok #[] w1:=hf
  cases b with
  | none=>simp [Builtin.copy_,run_underlying ht,Builtin.lenOf,zAX hi,yp,hf0,goInt]
  | some b=>simp [Builtin.copy_,run_underlying ht,Builtin.lenOf,zAX hi,yp,hf0,goInt,storeCells]
 ·rw [yC] at wV
  simp only [Value.slice.injEq] at wV
  refine ⟨_,_,?_,yJ⟩
  rw [yC,vK]
  rw [vK] at hf
  obtain ⟨et,jg⟩:=yB
  have yZ:=run_storeCells_at (P:=P) b'.block b'.off et (flat us) 0 row w jg (by simpa using yA) yI
  simp only [Nat.add_zero] at yZ
  have yF:b'=⟨b'.block,b'.off,none⟩:=by cases b';simp_all
  rw [← yF] at yZ
  simp [Builtin.copy_,run_underlying ht,Builtin.lenOf,zAX hi,yp,hmin,hf,yZ,goInt,zBe]
theorem zGm {z:Value} {n:Nat}:flat (List.replicate n z)=(Builtin.zeroCells z.cells n).toList:=by
 have hO:(flat (List.replicate n z)).length=n*z.cells.size:=by
  rw [zBn (sz:=z.cells.size) (fun u hu=>by rw [List.eq_of_mem_replicate hu])];simp
 apply List.ext_getElem
 ·rw [hO];simp [Builtin.zeroCells]
 ·intro k h1 h2
  rw [hO] at h1
  have hs:0<z.cells.size:=Nat.pos_of_ne_zero fun h0=>by rw [h0] at h1;simp at h1
  have hdm:k / z.cells.size*z.cells.size+k % z.cells.size=k:=Nat.div_add_mod' k _
  have hq:k / z.cells.size<n:=Nat.div_lt_of_lt_mul (by rw [Nat.mul_comm];exact h1)
  have hr:k % z.cells.size<z.cells.size:=Nat.mod_lt _ hs
  have hzc : z.cells.toList[k % z.cells.size]? = some (z.cells[k % z.cells.size]'hr) := by simp
  have:=zDT (sz:=z.cells.size) (us:=List.replicate n z) (fun u hu=>by rw [List.eq_of_mem_replicate hu]) (i:=k / z.cells.size) (c:=k % z.cells.size) (x:=z) (by simp [hq]) hzc
  rw [hdm] at this
  have h3:=(List.getElem?_eq_some_iff.1 this).2
  rw [h3]
  simp [Builtin.zeroCells,getElem!_pos z.cells (k % z.cells.size) hr]
theorem zSU (S:St w0 U Φ0 nt hv a w e Φ rv E L) (hb:zBw E) {d:Option Nat} (hd:∀ x,d=some x→x<nt) {t ty:TypeId} {ts:List TypeId} {x:Operand} (hx:zAW nt x=true)
  (h:(zBr P d .clear (t::ts) [x]).run o e=some e'):∃ w',(Builtin.clear_ (t::ts).toArray ty #[a.eval x]).run P w = .ok (.tuple #[]) w'∧Fr w0 U Φ0 nt hv (a.put d (.tuple #[])) w' e':=by
 simp only [zBr] at h
 obtain ⟨p,h1,hp⟩:=zBz S hx h
 simp only [zTg] at h1
 have light:∀ {v:Value},a.eval x=v→d=none→PM.ok.run o e=some e'→(∃ el,P.underlying t=some (.slice el))→((∃ b c,v = .slice b 0 c))→∃ w',(Builtin.clear_ (t::ts).toArray ty #[a.eval x]).run P w = .ok (.tuple #[]) w'∧Fr w0 U Φ0 nt hv (a.put d (.tuple #[])) w' e':=by
  intro v yC vF yE ⟨el,ht⟩ ⟨b,c,hvb⟩
  subst vF
  have qE:Fr w0 U Φ0 nt hv (a.put none (.tuple #[])) w e':=by
   simp only [PM.run,Option.some.injEq] at yE
   subst yE
   exact ⟨Φ,rv,E,L,S,hb⟩
  refine ⟨w,?_,qE⟩
  rw [yC,hvb]
  cases b<;>simp [Builtin.clear_,run_underlying ht]
 split at h1
 ·rename_i r pre z lo n q s uL kC
  obtain ⟨hc,h2⟩:=zAV h1
  simp only [Bool.and_eq_true] at hc
  obtain ⟨⟨⟨c1,c2⟩,c3⟩,c4⟩:=hc
  have c1:=zBY c1
  have c2:=Nat.eq_of_beq_eq_true c2
  have c3:=Nat.eq_of_beq_eq_true c3
  subst c2
  cases jG:zBX P t with
  | none=>rw [jG] at uL;cases uL
  | some el =>
  rw [jG] at uL kC
  simp only [Option.bind_some] at uL kC
  have ht:=zCz jG
  obtain ⟨i,z0,hi,_,kL,kg⟩:=zEf uL
  have hrz:=zCD (w:=w) (Φ:=Φ) (A:=zCn) kg
  have wj:z0.cells.size=z:=by rw [hrz.2.1,c3]
  by_cases kJ:n=0
  ·subst kJ
   obtain ⟨_,_,⟨b,cap,wV,_⟩,_⟩:=hp
   exact light wV rfl (by simpa [zGl] using h2) ⟨el,ht⟩ ⟨b,cap,rfl⟩
  have ub:∀ k,zAZ w Φ zCn (List.replicate k q) (List.replicate k z0) []:=by
   intro k
   induction k with
   | zero=>exact ⟨rfl,rfl⟩
   | succ k ih=>exact ⟨z0,_,[],[],rfl,rfl,hrz.1,ih⟩
  have S1:=S.hold (g:=zAb+2) (by omega) hp
  obtain ⟨w1,e1,rv1,E1,L1,k1,S2,k3,_,k4⟩:=zKL (z:=z) (lo:=lo) (n:=n) (v:=a.eval x) c1 (List.replicate n q) (List.replicate n z0) 0 S1 zAh zAh (fun s hs hH=>by rw [zAf hH];exact hb s hs) (fun y hy=>by rw [List.eq_of_mem_replicate hy];exact ⟨c4,c3⟩) (by simp [hrz.2.2.1]) (ub n) (by simp) (by simpa using h2)
  have yJ:Fr w0 U Φ0 nt hv (a.put none (.tuple #[])) w1 e':=by
   obtain ⟨Φ2,rv2,E2,L2,S3,wn⟩:=S2.clear
   simp only [PM.run,Option.some.injEq] at k1
   subst k1
   exact ⟨_,_,_,_,S3,wn⟩
  obtain ⟨_,hg,⟨b,cap,wV,yQ,yW,y8⟩,hn⟩:=hp
  refine ⟨w1,?_,yJ⟩
  rcases k4 with ⟨vW,rfl⟩ | ⟨b',cap',row,yC,yS,yB,yA,yI,rfl⟩
  ·exact absurd (by simpa using vW) kJ
  ·obtain ⟨et,jg⟩:=yB
   have yZ:=run_storeCells_at (P:=P) b'.block b'.off et (flat (List.replicate n z0)) 0 row w jg (by simpa using yA) yI
   simp only [Nat.add_zero] at yZ
   have yF:b'=⟨b'.block,b'.off,none⟩:=by cases b';simp_all
   rw [← yF,zGm] at yZ
   rw [yC]
   obtain ⟨m,rfl⟩:∃ m,n=m+1:=⟨n-1,by omega⟩
   simp [Builtin.clear_,run_underlying ht,kL,yZ,zBe,zGm]
 ·rename_i h3 h4
  obtain ⟨el,jG⟩:∃ el,zBX P t=some el:=by
   cases jG:zBX P t with
   | none=>rw [jG] at h3;cases h3
   | some el=>exact ⟨el,rfl⟩
  obtain ⟨_,⟨_,b,c,yC,_⟩ | ⟨b,n',c,us,sz,yC,_⟩⟩:=hp
  ·exact light yC rfl h1 ⟨el,zCz jG⟩ ⟨b,c,rfl⟩
  ·exact light yC rfl h1 ⟨el,zCz jG⟩ ⟨some b,n',rfl⟩
 ·rename_i h3 h4
  obtain ⟨el,jG⟩:∃ el,zBX P t=some el:=by
   cases jG:zBX P t with
   | none=>rw [jG] at h3;cases h3
   | some el=>exact ⟨el,rfl⟩
  exact light hp.1 rfl h1 ⟨el,zCz jG⟩ ⟨none,0,rfl⟩
 ·cases h1
end
end Go.Eng
namespace Go.Eng
open Go
section
variable {P:Program} {w0 w:World} {U Φ0 Φ:Nat→Prop} {nt:Nat} {hv:Hid} {a:Act} {e e':Env} {rv:Nat→Value} {E:Nat→PV} {L:Nat→List Nat} {o:zAF} {A:Al}
theorem zN7 {empty:Bool} {n:Nat} {ok:TypeId→PV→Bool} {p:PV} {xs:Array Value} (hp:Rep w Φ A p (.agg xs) [])
    (hd:∀ t p x,ok t p=true→Rep w Φ A p x []→(Instr.checkKey empty n t x).run P w = .ok () w) :
    ∀ (fs:List Field),zSc ok (shT P) p fs=true→((forIn fs () fun f _=>do
      if f.name ≠ "_" then
        Instr.checkKey empty n f.type (← part f.type xs f.offset)
        pure (.yield ())
      else pure (.yield ()):Sem Unit)).run P w = .ok () w
  | [],_=>by simp
  | f :: fs,h=>by
    simp only [zSc,Bool.and_eq_true] at h
    have ih:=zN7 hp hd fs h.2
    simp only [List.forIn_cons,Sem.run_bind]
    by_cases hn : f.name = "_"
    · simp only [hn,ne_eq,not_true_eq_false,if_false,Sem.run_pure,Result.andThen_ok]
      exact ih
    · have h1:=h.1
      rw [if_neg hn] at h1
      rw [if_pos hn]
      cases hs:shT P f.type with
      | none=>rw [hs] at h1;cases h1
      | some sh =>
        rw [hs] at h1;simp only at h1
        cases y9:sub p f.offset sh with
        | none=>rw [y9] at h1;cases h1
        | some q =>
          rw [y9] at h1;simp only at h1
          obtain ⟨u,h3,h4⟩:=zFz hs hp y9
          simp only [Sem.run_bind,h3,Result.andThen_ok,hd _ _ _ h1 h4,Sem.run_pure]
          exact ih
theorem zNU {empty:Bool} {n:Nat} {ok:PV→Bool} {el:TypeId} {sh:Option Nat} {i:TypeInfo} (hs:shT P el=some sh) (hi:P.info? el=some i) {p:PV} {xs:Array Value} (hp:Rep w Φ A p (.agg xs) [])
  (hd:∀ p x,ok p=true→Rep w Φ A p x []→(Instr.checkKey empty n el x).run P w = .ok () w) :
  ∀ (m k:Nat),zSS ok sh i.size p k m=true→((forIn (List.range' k m 1) () fun j _=>do
   Instr.checkKey empty n el (← part el xs (j*(← sizeOf el)))
   pure (.yield ()):Sem Unit)).run P w = .ok () w
 | 0,k,_=>by simp
 | m + 1,k,h=>by
  simp only [zSS,Bool.and_eq_true] at h
  have ih:=zNU (empty:=empty) hs hi hp hd m (k+1) h.2
  have h1:=h.1
  simp only [List.range'_succ,List.forIn_cons,Sem.run_bind]
  cases y9:sub p (k*i.size) sh with
  | none=>rw [y9] at h1;cases h1
  | some q =>
   rw [y9] at h1;simp only at h1
   obtain ⟨u,h3,h4⟩:=zFz hs hp y9
   simp only [zAX hi,Result.andThen_ok,h3,hd _ _ h1 h4,Sem.run_pure]
   exact ih
theorem zK7 {empty:Bool}:∀ (n d:Nat) (t:TypeId) (p:PV) (x:Value),n≤d→zPx P n t p=true→Rep w Φ A p x []→(Instr.checkKey empty d t x).run P w = .ok () w
 | 0,d,t,p,x,_,h,_=>by cases h
 | n+1,0,t,p,x,hd,h,_=>by omega
 | n + 1,d+1,t,p,x,hd,h,hp=>by
  have yK:n≤d:=by omega
  simp only [zPx] at h
  split at h
  ·rename_i ht
   rw [hp.1];simp [Instr.checkKey,run_underlying ht]
  ·rename_i ht
   rw [hp.1];simp [Instr.checkKey,run_underlying ht]
  ·rename_i fs xs ht
   obtain ⟨vs,rfl,je⟩:=hp
   have:=zN7 (empty:=empty) (n:=d) (p := .agg xs) ⟨vs,rfl,je⟩ (fun t p x h1 h2=>zK7 n d t p x yK h1 h2) fs.toList h
   simp only [Instr.checkKey,Sem.run_bind,run_underlying ht,Result.andThen_ok]
   simp only [ne_eq,ite_not] at this ⊢
   simp at this ⊢
   rw [this];rfl
  ·rename_i len el xs ht
   split at h
   ·rename_i sz sh yD jU
    obtain ⟨vs,rfl,je⟩:=hp
    obtain ⟨i,hi,_⟩:=zE7 (w:=w) jU
    have qo:i.size=sz:=by simp only [szT,hi,Option.map_some,Option.some.injEq] at yD;exact yD
    subst qo
    have:=zNU (empty:=empty) (n:=d) (p := .agg xs) jU hi ⟨vs,rfl,je⟩ (fun p x h1 h2=>zK7 n d el p x yK h1 h2) len 0 h
    simp only [Instr.checkKey,Sem.run_bind,run_underlying ht,Result.andThen_ok,Std.Legacy.Range.forIn_eq_forIn_range',Std.Legacy.Range.size,Nat.sub_zero,Nat.add_sub_cancel,Nat.div_one]
    simp at this ⊢
    rw [this];rfl
   ·cases h
  ·cases h
theorem zKg {kt:TypeId} {d:TypeDesc} {kv:Value} (hd:P.underlying kt=some d):∀ {ms:List MapEntry} {i:Nat},(∀ x y,Instr.sameNow d x y=none)→Instr.findNow d kv ms i=none∨ms=[]
 | [],_,_ => .inr rfl
 | m::ms,i,h => .inl (by simp only [Instr.findNow,h])
theorem zD3 {kt:TypeId} {key:PV} {kv:Value} (hk:Rep w Φ A key kv []):∀ (es:List (PV×PV)) (ms:List MapEntry) (i:Nat) (r:Option Nat),zDE P kt key es i=some r→zEq w Φ es ms i →
  (Instr.findAsking kt kv ms i).run P w = .ok (r.bind fun j=>(ms[j-i]?).map fun m=>(j,m.val)) w∧∀ j,r=some j→i≤j∧j-i<ms.length∧∃ k v m,es[j-i]? = some (k,v)∧ms[j-i]? = some m∧zFw key.cells k.cells=some true∧Rep w Φ zCn k m.key []∧Rep w Φ zCn v m.val []∧m.born=j
 | [],ms,i,r,h,hm=>by
  simp only [zDE,Option.some.injEq] at h;subst h
  simp only [zEq] at hm;subst hm
  exact ⟨rfl,fun j hj=>by cases hj⟩
 | (k, p)::es,ms,i,r,h,hm=>by
  obtain ⟨m,ms',rfl,hb,h1,h2,h3⟩:=hm
  have jX:Rep w Φ A k m.key []:=h1.mono zDo.refl (fun _ _ _ h=>h.elim) (by simp)
  simp only [zDE] at h
  split at h
  ·rename_i he
   split at h
   ·rename_i hc
    simp only [Option.some.injEq] at h;subst h
    have:=zKn 20 kt key k true kv m.key Op.maxDepth (by decide) he hk jX
    refine ⟨?_,fun j hj=>?_⟩
    ·simp [Instr.findAsking,Op.equal,this]
    ·cases hj
     exact ⟨Nat.le_refl _,by simp,k,p,m,by simp,by simp,hc,h1,h2,hb⟩
   ·cases h
  ·rename_i he
   have:=zKn 20 kt key k false kv m.key Op.maxDepth (by decide) he hk jX
   obtain ⟨g1,g2⟩:=zD3 hk es ms' (i+1) r h h3
   refine ⟨?_,fun j hj=>?_⟩
   ·simp only [Instr.findAsking,Op.equal,Sem.run_bind,this,Result.andThen_ok,Bool.false_eq_true,if_false,g1]
    cases r with
    | none=>rfl
    | some j =>
     obtain ⟨k1,k2,_⟩:=g2 j rfl
     simp only [Option.bind_some]
     rw [show j-i=(j-(i+1))+1 by omega];simp
   ·obtain ⟨k1,k2,k',v',m',k3,k4,k5⟩:=g2 j hj
    have vh:j-i=(j-(i+1))+1:=by omega
    refine ⟨by omega,by rw [vh];simp;omega,k',v',m',by rw [vh];simpa using k3,by rw [vh];simpa using k4,k5⟩
  ·cases h
theorem zJk {kt:TypeId} {k:IntKind} {n:Int} {key:PV} {kv:Value} (hd:∃ k0,P.underlying kt=some (.int k0)) (wo:kv = .int k n) (yf:key = .int k n):∀ (es:List (PV×PV)) (ms:List MapEntry) (i:Nat) (r:Option Nat),zDE P kt key es i=some r→zEq w Φ es ms i →
  ∀ k0,Instr.findNow (.int k0) kv ms i=some (r.bind fun j=>(ms[j-i]?).map fun m=>(j,m.val))
 | [],ms,i,r,h,hm,_=>by
  simp only [zDE,Option.some.injEq] at h;subst h
  simp only [zEq] at hm;subst hm;rfl
 | (q, p)::es,ms,i,r,h,hm,k0=>by
  obtain ⟨k1,hd⟩:=hd
  obtain ⟨m,ms',rfl,hb,h1,h2,h3⟩:=hm
  simp only [zDE] at h
  have hq:∀ b,eqT P 20 kt key q=some b→∃ n',q = .int k n'∧b=(n==n'):=by
   intro b he
   rw [yf] at he
   simp only [eqT,hd] at he
   cases q<;>simp only at he<;>try (cases he;done)
   split at he
   ·rename_i vr;subst vr;cases he;exact ⟨_,rfl,rfl⟩
   ·cases he
  split at h
  ·rename_i he
   obtain ⟨n',rfl,hn⟩:=hq _ he
   split at h
   ·simp only [Option.some.injEq] at h;subst h
    simp only [Instr.findNow,h1.1,wo,Instr.sameNow,if_true,← hn]
    simp
   ·cases h
  ·rename_i he
   obtain ⟨n',rfl,hn⟩:=hq _ he
   have g1:=zJk ⟨k1,hd⟩ wo yf es ms' (i+1) r h h3 k0
   simp only [Instr.findNow,h1.1,wo,Instr.sameNow,if_true,← hn]
   rw [wo] at g1
   rw [g1]
   cases r with
   | none=>rfl
   | some j =>
    obtain ⟨k1,_⟩:=(zD3 (P:=P) (A:=zCn) (key:=key) (kv := .int k n) (by rw [yf];exact ⟨rfl,rfl⟩) es ms' (i+1) (some j) h h3).2 j rfl
    simp only [Option.bind_some]
    rw [show j-i=(j-(i+1))+1 by omega];simp
  ·cases h
theorem zH6 {kt:TypeId} {n:Bool} {key:PV} {kv:Value} (hd:P.underlying kt=some .bool) (wo:kv = .bool n) (yf:key = .bool n):∀ (es:List (PV×PV)) (ms:List MapEntry) (i:Nat) (r:Option Nat),zDE P kt key es i=some r→zEq w Φ es ms i →
  Instr.findNow .bool kv ms i=some (r.bind fun j=>(ms[j-i]?).map fun m=>(j,m.val))
 | [],ms,i,r,h,hm=>by
  simp only [zDE,Option.some.injEq] at h;subst h
  simp only [zEq] at hm;subst hm;rfl
 | (q, p)::es,ms,i,r,h,hm=>by
  obtain ⟨m,ms',rfl,hb,h1,h2,h3⟩:=hm
  simp only [zDE] at h
  have hq:∀ b,eqT P 20 kt key q=some b→∃ n',q = .bool n'∧b=(n==n'):=by
   intro b he
   rw [yf] at he
   simp only [eqT,hd] at he
   cases q<;>simp only at he<;>try (cases he;done)
   cases he;exact ⟨_,rfl,rfl⟩
  split at h
  ·rename_i he
   obtain ⟨n',rfl,hn⟩:=hq _ he
   split at h
   ·simp only [Option.some.injEq] at h;subst h
    simp only [Instr.findNow,h1.1,wo,Instr.sameNow,← hn]
    simp
   ·cases h
  ·rename_i he
   obtain ⟨n',rfl,hn⟩:=hq _ he
   have g1:=zH6 hd wo yf es ms' (i+1) r h h3
   simp only [Instr.findNow,h1.1,wo,Instr.sameNow,← hn]
   rw [wo] at g1
   rw [g1]
   cases r with
   | none=>rfl
   | some j =>
    obtain ⟨k1,_⟩:=(zD3 (P:=P) (A:=zCn) (key:=key) (kv := .bool n) (by rw [yf];exact ⟨rfl,rfl⟩) es ms' (i+1) (some j) h h3).2 j rfl
    simp only [Option.bind_some]
    rw [show j-i=(j-(i+1))+1 by omega];simp
  ·cases h
theorem zKk {kt:TypeId} {key:PV} {kv:Value} (ht:zPx P 20 kt key=true) (hk:Rep w Φ A key kv []) {es:List (PV×PV)} {ms:List MapEntry} {r:Option Nat} (h:zDE P kt key es 0=some r) (hm:zEq w Φ es ms 0) :
  (Instr.findKey kt kv ms).run P w = .ok (r.bind fun j=>(ms[j]?).map fun m=>(j,m.val)) w:=by
 have h1:=(zD3 hk es ms 0 r h hm).1
 simp only [Nat.sub_zero] at h1
 simp only [zPx] at ht
 split at ht
 ·rename_i k0 k n hd
  have h2:=zJk (key := .int k n) ⟨_,hd⟩ hk.1 rfl es ms 0 r h hm k0
  simp only [Nat.sub_zero] at h2
  simp only [Instr.findKey,Sem.run_bind,run_underlying hd,Result.andThen_ok,h2,Sem.run_pure]
 ·rename_i b hd
  have h2:=zH6 (key := .bool b) hd hk.1 rfl es ms 0 r h hm
  simp only [Nat.sub_zero] at h2
  simp only [Instr.findKey,Sem.run_bind,run_underlying hd,Result.andThen_ok,h2,Sem.run_pure]
 ·rename_i fs xs hd
  simp only [Instr.findKey,Sem.run_bind,run_underlying hd,Result.andThen_ok]
  rcases zKg (kv:=kv) hd (ms:=ms) (i:=0) (fun x y=>by simp [Instr.sameNow]) with h2 | rfl
  ·rw [h2];exact h1
  ·simp only [Instr.findNow,Sem.run_pure];rw [← h1];rfl
 ·rename_i len el xs hd
  simp only [Instr.findKey,Sem.run_bind,run_underlying hd,Result.andThen_ok]
  rcases zKg (kv:=kv) hd (ms:=ms) (i:=0) (fun x y=>by simp [Instr.sameNow]) with h2 | rfl
  ·rw [h2];exact h1
  ·simp only [Instr.findNow,Sem.run_pure];rw [← h1];rfl
 ·cases ht
theorem zMy {p:PV} {v:Value} {M:List Nat} (hp:p.lone0=true) (h:Rep w Φ A p v M):M=[]∧Rep w Φ zCn p v []:=by
 cases p<;>first | (cases hp;done) | skip
 case int=>exact ⟨h.2,h.1,rfl⟩
 case bool=>exact ⟨h.2,h.1,rfl⟩
 case nilp=>exact ⟨h.2,h.1,rfl⟩
 case nilf=>exact ⟨h.2,h.1,rfl⟩
 case nilm=>exact ⟨h.2,h.1,rfl⟩
 case nn=>exact ⟨h.1,rfl,h.2⟩
 case nils=>exact ⟨h.2,h.1,rfl⟩
 case sl=>exact ⟨h.1,rfl,h.2⟩
 case map=>exact ⟨h.1,rfl,h.2⟩
theorem zJX:∀ {ps:List PV} {vs:List Value} {M:List Nat},ps.all PV.lone0=true→zAZ w Φ A ps vs M→M=[]∧zAZ w Φ zCn ps vs []
 | [],vs,M,_,h=>⟨h.2,h.1,rfl⟩
 | p::ps,vs,M,hp,h=>by
  simp only [List.all_cons,Bool.and_eq_true] at hp
  obtain ⟨v,vs',L1,L2,rfl,rfl,h1,h2⟩:=h
  obtain ⟨rfl,h3⟩:=zMy hp.1 h1
  obtain ⟨rfl,h4⟩:=zJX hp.2 h2
  exact ⟨rfl,v,vs',[],[],rfl,rfl,h3,h4⟩
theorem zLa {p:PV} {v:Value} {M:List Nat} (hp:p.lone=true) (h:Rep w Φ A p v M):M=[]∧Rep w Φ zCn p v []:=by
 cases p<;>first | exact zMy hp h | skip
 obtain ⟨vs,rfl,h⟩:=h
 obtain ⟨rfl,h2⟩:=zJX hp h
 exact ⟨rfl,vs,rfl,h2⟩
theorem zKm (S:St w0 U Φ0 nt hv a w e Φ rv E L) (hb:zBw E) {d:Option Nat} (hd:∀ x,d=some x→x<nt) {p:PV} {v:Value} {b:Bool} (hp:Rep w Φ zCn p v []) (vi:p.lone=true) (h:(zEY d (.tup [p,.bool b])).run o e=some e') :
  Fr w0 U Φ0 nt hv (a.put d (.tuple #[v,.bool b])) w e':=by
 have jc:=S.small
 cases d with
 | none =>
  simp only [zEY] at h
  exact zAw S hb hd h ⟨#[v,.bool b],rfl,v,[.bool b],[],[],rfl,rfl,hp.mono zDo.refl (fun _ _ _ h=>h.elim) (by simp),.bool b,[],[],[],rfl,rfl,⟨rfl,rfl⟩,rfl,rfl⟩
 | some d =>
  have vF:=hd d rfl
  simp only [zEY] at h
  obtain ⟨uu,h⟩:=zAV h
  simp only [PM.run] at h
  simp only [Bool.and_eq_true] at uu
  obtain ⟨L1,S1⟩:=S.empty vF
  have S2:=S1.hold (g:=zAb) (Nat.le_refl _) (hp.mono (A':=zA2 w rv (upd E d .bad)) zDo.refl (fun _ _ _ h=>h.elim) (by simp))
  have S3:=S2.hold (g:=zAb+1) (by omega) (p := .bool b) (v := .bool b) ⟨rfl,rfl⟩
  refine zGy vF (vs:=#[v,.bool b]) [p,.bool b] 0 S3 (fun ps hp=>?_) (by simp) (by simp) (fun j q hq=>?_) (fun g hg hH=>?_) (fun x hx=>?_) (fun j hj=>by omega) h
  ·rw [zAf (by simp only [zAb];omega),zAf (by simp only [zAb];omega),zAh] at hp;cases hp
  ·match j,hq with
   | 0,hq =>
    simp at hq;subst hq
    rw [show zAb+0+0=zAb from rfl]
    refine ⟨by rw [zAf (by omega),zAh],?_⟩
    rw [zAf (by omega),zAh];rfl
   | 1,hq =>
    simp at hq;subst hq
    rw [show zAb+0+1=zAb+1 from rfl]
    refine ⟨by rw [zAh],?_⟩
    rw [zAh];rfl
  ·have h0:=hH 0 (by simp)
   have h1:=hH 1 (by simp)
   rw [zAf (by omega),zAf (by omega)]
   by_cases hgd:g=d
   ·subst hgd;rw [zAh]
   ·rw [zAf hgd];exact hb g hg
  ·simpa using List.all_eq_true.1 uu.2 x hx
theorem zLb (S:St w0 U Φ0 nt hv a w e Φ rv E L) (hb:zBw E) {d:Option Nat} (hd:∀ x,d=some x→x<nt) {t kt el:TypeId} {z key:PV} {kv zv:Value} {ok:Bool} {es:List (PV×PV)} {ms:Array MapEntry} {mv:Value} (ht:P.underlying t=some (.map kt el)) (wp:zPx P 20 kt key=true) (hk:Rep w Φ (zA2 w rv E) key kv [])
  (hz:(zeroValue el).run P w = .ok zv w) (gj:Rep w Φ zCn z zv []) (hzp:z.lone=true) (hm:zEq w Φ es ms.toList 0) (gk:mv = .map none∧ms=#[]∨∃ b n,mv = .map (some b)∧w.heap[b]? = some (.map ms n))
  (h:(zIC P d kt z key ok es).run o e=some e'):∃ v,(Instr.lookup t mv kv ok).run P w = .ok v w∧Fr w0 U Φ0 nt hv (a.put d v) w e':=by
 simp only [zIC] at h
 cases hf:zDE P kt key es 0 with
 | none=>rw [hf] at h;cases h
 | some r =>
  rw [hf] at h
  have yf:=zKk wp hk hf hm
  have qV:=zK7 (empty:=ms.isEmpty) 20 10000 kt key kv (by decide) wp hk
  have hZ:∀ v ok',(match (r.bind fun j=>(ms.toList[j]?).map fun m=>(j,m.val)) with
    | some (_,v)=>(v,true)
    | none=>(zv,false))=(v,ok')→(Instr.lookup t mv kv ok).run P w = .ok (if ok then .tuple #[v,.bool ok'] else v) w:=by
   intro v ok' he
   revert he yf
   generalize (r.bind fun j=>(ms.toList[j]?).map fun m=>(j,m.val))=q
   intro yf he
   rcases gk with ⟨rfl,rfl⟩ | ⟨b,n,rfl,yF⟩
   ·cases q with
    | none=>cases he;simp only [Instr.lookup,Sem.run_bind,run_underlying ht,Result.andThen_ok,Sem.run_pure,qV,yf,hz]
    | some x=>cases he;simp only [Instr.lookup,Sem.run_bind,run_underlying ht,Result.andThen_ok,Sem.run_pure,qV,yf]
   ·cases q with
    | none=>cases he;simp only [Instr.lookup,Sem.run_bind,run_underlying ht,Result.andThen_ok,Sem.run_pure,MapKept.run_getObj_map yF,qV,yf,hz]
    | some x=>cases he;simp only [Instr.lookup,Sem.run_bind,run_underlying ht,Result.andThen_ok,Sem.run_pure,MapKept.run_getObj_map yF,qV,yf]
  cases r with
  | none =>
   have:=hZ zv false rfl
   refine ⟨_,this,?_⟩
   simp only at h
   cases ok with
   | true=>exact zKm S hb hd gj hzp (by simpa using h)
   | false =>
    simp only [Bool.false_eq_true,if_false] at h ⊢
    have h':(put d z).run o e=some e':=by
     revert h;cases d<;>simp only [zEY]<;>cases z<;>first | exact fun h=>h | (cases hzp;done)
    exact zAw S hb hd h' (gj.mono zDo.refl (fun _ _ _ h=>h.elim) (by simp))
  | some i =>
   obtain ⟨_,_,k,v,m,h3,h4,_,_,h5,_⟩:=(zD3 hk es ms.toList 0 (some i) hf hm).2 i rfl
   simp only [Nat.sub_zero] at h3 h4
   have:=hZ m.val true (by simp only [Option.bind_some,h4,Option.map_some])
   refine ⟨_,this,?_⟩
   simp only [h3] at h
   obtain ⟨hvp,h⟩:=zAV h
   cases ok with
   | true=>exact zKm S hb hd h5 hvp (by simpa using h)
   | false =>
    simp only [Bool.false_eq_true,if_false] at h ⊢
    have h':(put d v).run o e=some e':=by
     revert h;cases d<;>simp only [zEY]<;>cases v<;>first | exact fun h=>h | (cases hvp;done)
    exact zAw S hb hd h' (h5.mono zDo.refl (fun _ _ _ h=>h.elim) (by simp))
theorem zQS (S:St w0 U Φ0 nt hv a w e Φ rv E L) {r:Nat} {pre:zAS} {mv:Value} (hm:Rep w Φ (zA2 w rv E) (.bmap r pre) mv []) {es:List (PV×PV)} (hq:zAC (e.get r).unlock pre=some (.omap es)) :
  r<zAb∧∃ b ms,mv = .map (some b)∧w.heap[b]? = some (.map ms es.length)∧zEq w Φ es ms.toList 0:=by
 obtain ⟨_,hr,_,hn⟩:=hm
 rw [← S.env r hr] at hq
 obtain ⟨nv,La,Li,Lb,h1,_,h2,_⟩:=Rep.zip pre (zBZ (S.conf.rep r)) hq
 obtain ⟨b,ms,_,h3,h4,h5⟩:=h2
 have:=hn nv _ h1 es rfl
 exact ⟨hr,b,ms,this.trans h3,h4,h5⟩
theorem zQa (S:St w0 U Φ0 nt hv a w e Φ rv E L) (hb:zBw E) {d:Option Nat} (hd:∀ x,d=some x→x<nt) {t:TypeId} {m x:Operand} {ok:Bool} (hm:zAW nt m=true) (hx:zAW nt x=true) (h:(zIo P d t m x ok).run o e=some e') :
  ∃ v,(Instr.lookup t (a.eval m) (a.eval x) ok).run P w = .ok v w∧Fr w0 U Φ0 nt hv (a.put d v) w e':=by
 obtain ⟨p,h1,hp⟩:=zBz S hm h
 obtain ⟨key,h2,hk⟩:=zBz S hx h1
 split at h2
 ·rename_i kt el ht
  obtain ⟨wp,h3⟩:=zAV h2
  obtain ⟨z,hz,h4⟩:=zBD h3
  obtain ⟨ko,h5⟩:=zAV h4
  obtain ⟨i,zv,_,_,vt,kg⟩:=zEf hz
  have gj:=(zCD (w:=w) (Φ:=Φ) (A:=zCn) kg).1
  cases p<;>simp only [zRV] at h5<;>try (cases h5;done)
  case nilm=>exact zLb S hb hd (ms:=#[]) (es:=[]) ht wp hk (vt w) gj ko (by simp [zEq]) (.inl ⟨hp.1,rfl⟩) h5
  case map es =>
   obtain ⟨_,b,ms,q1,_,q2,q3⟩:=hp
   exact zLb S hb hd ht wp hk (vt w) gj ko q3 (.inr ⟨b,_,q1,q2⟩) h5
  case bmap r pre =>
   obtain ⟨q,hq,h6⟩:=zBT h5
   cases q<;>simp only at h6<;>try (cases h6;done)
   rename_i es
   obtain ⟨_,b,ms,q1,q2,q3⟩:=zQS S hp hq
   exact zLb S hb hd ht wp hk (vt w) gj ko q3 (.inr ⟨b,_,q1,q2⟩) h6
 ·cases h2
theorem zG4:∀ {ps qs:List PV} {us vs:List Value} {A A':Al},ps.all PV.num=true→zFw ps qs=some true→zAZ w Φ A ps us []→zAZ w Φ A' qs vs []→us=vs∧∀ u∈us,∀ n,Instr.sameBits n u u=true
 | [],[],us,vs,A,A',_,_,h1,h2=>by rw [h1.1,h2.1];exact ⟨rfl,by simp⟩
 | [],_::_,us,vs,A,A',_,h,_,_=>by cases h
 | p::ps,[],us,vs,A,A',_,h,_,_=>by cases h
 | p :: ps,q::qs,us,vs,A,A',hp,h,h1,h2=>by
  simp only [List.all_cons,Bool.and_eq_true] at hp
  obtain ⟨u,us',L1,L2,rfl,hL,h3,h4⟩:=h1
  obtain ⟨v,vs',M1,M2,rfl,hM,h5,h6⟩:=h2
  obtain ⟨rfl,rfl⟩:=List.append_eq_nil_iff.1 hL.symm
  obtain ⟨rfl,rfl⟩:=List.append_eq_nil_iff.1 hM.symm
  simp only [zFw] at h
  cases vY:zVG p q with
  | none=>rw [vY] at h;cases h
  | some b1 =>
   rw [vY] at h
   cases yc:zFw ps qs with
   | none=>rw [yc] at h;cases h
   | some b2 =>
    rw [yc] at h
    simp only [Option.some.injEq,Bool.and_eq_true] at h
    obtain ⟨rfl,rfl⟩:=h
    obtain ⟨ih1,ih2⟩:=zG4 hp.2 yc h4 h6
    have huv:u=v∧∀ n,Instr.sameBits n u u=true:=by
     cases p<;>first | (cases hp.1;done) | skip
     case int k n =>
      cases q<;>simp only [zVG] at vY<;>try (cases vY;done)
      split at vY
      ·rename_i hk;subst hk
       simp only [Option.some.injEq,beq_iff_eq] at vY;subst vY
       refine ⟨h3.1.trans h5.1.symm,fun n=>?_⟩
       rw [h3.1];cases n<;>simp [Instr.sameBits]
      ·cases vY
     case bool b =>
      cases q<;>simp only [zVG] at vY<;>try (cases vY;done)
      simp only [Option.some.injEq,beq_iff_eq] at vY;subst vY
      refine ⟨h3.1.trans h5.1.symm,fun n=>?_⟩
      rw [h3.1];cases n<;>simp [Instr.sameBits]
    refine ⟨by rw [huv.1,ih1],fun x hx n=>?_⟩
    rcases List.mem_cons.1 hx with rfl | hx
    ·exact huv.2 n
    ·exact ih2 x hx n
theorem zSN {p q:PV} {x y:Value} {A A':Al} (hp:p.flat=true) (h:zFw p.cells q.cells=some true) (h1:Rep w Φ A p x []) (h2:Rep w Φ A' q y []) (ha:q.isAgg=p.isAgg):x=y∧Instr.sameBits 10000 x x=true:=by
 cases p<;>first | (cases hp;done) | skip
 case agg cs =>
  cases q<;>first | (cases ha;done) | skip
  rename_i ds
  obtain ⟨us,rfl,h3⟩:=h1
  obtain ⟨vs,rfl,h4⟩:=h2
  obtain ⟨k1,k2⟩:=zG4 (A:=A) (A':=A') hp h h3 h4
  refine ⟨by rw [Array.toList_inj.1 k1],?_⟩
  simp only [Instr.sameBits,BEq.rfl,Bool.true_and,List.all_eq_true]
  intro z hz
  obtain ⟨j,hj⟩:=List.getElem?_of_mem hz
  obtain ⟨g1,g2⟩:=List.getElem?_zip_eq_some.1 hj
  rw [g1] at g2
  simp only [Option.some.injEq] at g2
  rw [← g2]
  exact k2 _ (List.mem_of_getElem? g1) _
 case int k n =>
  cases q<;>first | (cases ha;done) | skip
  all_goals
   obtain ⟨k1,k2⟩:=zG4 (A:=A) (A':=A') (ps:=[.int k n]) rfl h ⟨_,[],[],[],rfl,rfl,h1,rfl,rfl⟩ ⟨_,[],[],[],rfl,rfl,h2,rfl,rfl⟩
   exact ⟨by simpa using k1,k2 _ (by simp) _⟩
 case bool b =>
  cases q<;>first | (cases ha;done) | skip
  all_goals
   obtain ⟨k1,k2⟩:=zG4 (A:=A) (A':=A') (ps:=[.bool b]) rfl h ⟨_,[],[],[],rfl,rfl,h1,rfl,rfl⟩ ⟨_,[],[],[],rfl,rfl,h2,rfl,rfl⟩
   exact ⟨by simpa using k1,k2 _ (by simp) _⟩
theorem zT2 {n:Nat} {t:TypeId} {p q:PV} {b:Bool} (h:eqT P n t p q=some b):q.isAgg=p.isAgg:=by
 cases n with
 | zero=>cases h
 | succ n =>
  simp only [eqT] at h
  split at h<;>first | rfl | (cases h;done)
theorem zMA {kt:TypeId} {key:PV}:∀ {es:List (PV×PV)} {i j:Nat},zDE P kt key es i=some (some j)→i≤j∧∃ k v,es[j-i]? = some (k,v)∧k.isAgg=key.isAgg
 | [],i,j,h=>by cases h
 | (k, v)::es,i,j,h=>by
  simp only [zDE] at h
  split at h
  ·rename_i he
   split at h
   ·simp only [Option.some.injEq] at h;subst h
    exact ⟨Nat.le_refl _,k,v,by simp,zT2 he⟩
   ·cases h
  ·obtain ⟨h1,k',v',h2,h3⟩:=zMA h
   exact ⟨by omega,k',v',by rw [show j-i=(j-(i+1))+1 by omega];simpa using h2,h3⟩
  ·cases h
theorem zMm (S:St w0 U Φ0 nt hv a w e Φ rv E L) {r b:Nat} {pre:zAS} {mv:Value} {es es':List (PV×PV)} {ms ms':Array MapEntry} {root:PV} (hm:Rep w Φ (zA2 w rv E) (.bmap r pre) mv []) (hq:zAC (e.get r).unlock pre=some (.omap es)) (gk:mv = .map (some b))
  (uR:w.heap[b]? = some (.map ms es.length)) (yG:(e.get r).isLock=false) (ju:zAv (fun _=>some (.omap es')) (e.get r) pre=some root) (hR:∀ w':World,(∀ c,Φ c→w'.heap[c]? = w.heap[c]?)→zEq w' Φ es' ms'.toList 0) :
  Fr w0 U Φ0 nt hv a {w with heap:=w.heap.setIfInBounds b (.map ms' es'.length)} (e.set r root):=by
 obtain ⟨_,hr,_,hn⟩:=hm
 rw [← S.env r hr] at hq yG ju
 have yz:(E r).unlock=E r:=by cases hE:E r<;>first | rfl | (rw [hE] at yG;cases yG)
 rw [yz] at hq
 obtain ⟨kr,kt⟩:=zBJ (q' := .omap es') rfl rfl ju
 obtain ⟨nv,Li,ud,hI,qt,ul,vd⟩:=S.conf.mod hr (f:=fun x=>x) (fun _ => .inl rfl) (pre:=pre) (q := .omap es) (by rw [zBg];exact yz) (by rw [zBg];exact hq)
 rw [zBg] at ud
 obtain ⟨b',ents,rfl,rfl,hh',_⟩:=hI
 have wl:b'=b:=by
  have:=hn _ _ (by rw [yz];exact ud) es rfl
  rw [gk] at this;cases this;rfl
 subst wl
 have jO:b'∈L r:=ul b' (by simp)
 have hnΦ:¬ Φ b':=(S.conf.own r b' jO).2.1
 obtain ⟨s1,s2⟩:=MapKept.heap_set (o' := .map ms' es'.length) uR
 have hG:∀ s,decide (zAb≤s)=true↔zAb≤s:=fun s=>decide_eq_true_iff
 obtain ⟨L',v4,hc⟩:=vd (fun s=>decide (zAb≤s)) {w with heap:=w.heap.setIfInBounds b' (.map ms' es'.length)} (.omap es') root [b'] (fun s hs=>(hG s).1 hs) (fun _=>rfl) (by rw [zBg];exact ju) kr
  (fun A hA=>⟨b',ms',rfl,rfl,s1,hR _ fun c hc=>s2 c fun h=>hnΦ (h▸hc)⟩) (by simp) (fun c hc => .inl hc) (by simp)
  (fun c hc hci _=>s2 c (by simpa using hci)) (fun rest nv2 np2 hf hh=>by
   cases rest with
   | nil =>
    simp only [zAU,Option.some.injEq,Prod.mk.injEq] at hf
    obtain ⟨rfl,rfl⟩:=hf
    exact .inr ⟨_,rfl,trivial⟩
   | cons ic rest=>obtain ⟨i,c⟩:=ic;rw [zA1] at hf;cases hf) ⟨rfl,rfl,rfl⟩
 have hdec:∀ s,s<zAb→decide (zAb≤s)=false:=fun s hs=>decide_eq_false (by omega)
 refine ⟨_,_,_,_,S.turn (e':=e.set r root) hc (fun s hs=>?_) (fun s hs=>rfl) (fun d ps hd hp=>?_),fun g hg=>?_⟩
 ·rw [Env.get_set]
  by_cases yV:s=r
  ·subst yV;rw [if_pos rfl,if_pos rfl]
  ·rw [if_neg yV,if_neg yV,hdec s hs];simp only [Bool.false_eq_true,if_false,zBg];exact S.env s hs
 ·by_cases jn:d=r
  ·subst jn;rw [if_pos rfl] at hp;rw [hp] at kt;cases kt
  ·rw [if_neg jn,hdec d (by simp only [zAb];omega)] at hp
   simp only [Bool.false_eq_true,if_false,zBg] at hp
   exact ⟨ps,hp,rfl⟩
 ·rw [if_neg (by omega),(hG g).2 hg];rfl
theorem zEq.modify' {w':World} (hΦ:∀ c,Φ c→w'.heap[c]? = w.heap[c]?) {key v:PV} {kv vv:Value} (hk:Rep w Φ zCn key kv []) (hv:Rep w Φ zCn v vv []):∀ (es:List (PV×PV)) (ms:List MapEntry) (i j:Nat),zEq w Φ es ms i→zEq w' Φ (es.modify j fun _=>(key,v)) (ms.modify j fun m=>{m with key:=kv,val:=vv}) i
 | [],ms,i,j,h=>by simp only [zEq] at h;subst h;cases j<;>simp [zEq]
 | (k,p)::es,ms,i,0,h=>by
  obtain ⟨m,ms',rfl,hb,h1,h2,h3⟩:=h
  simp only [List.modify_zero_cons]
  exact ⟨_,_,rfl,hb,hk.mono (fun c hc=>⟨hc,hΦ c hc⟩) (fun _ _ _ h=>h) (by simp),hv.mono (fun c hc=>⟨hc,hΦ c hc⟩) (fun _ _ _ h=>h) (by simp),zEq.same (fun c hc=>⟨hc,hΦ c hc⟩) _ _ _ h3⟩
 | (k,p)::es,ms,i,j+1,h=>by
  obtain ⟨m,ms',rfl,hb,h1,h2,h3⟩:=h
  simp only [List.modify_succ_cons]
  exact ⟨_,_,rfl,hb,h1.mono (fun c hc=>⟨hc,hΦ c hc⟩) (fun _ _ _ h=>h) (by simp),h2.mono (fun c hc=>⟨hc,hΦ c hc⟩) (fun _ _ _ h=>h) (by simp),zEq.modify' hΦ hk hv es ms' (i+1) j h3⟩
theorem zEq.push' {w':World} (hΦ:∀ c,Φ c→w'.heap[c]? = w.heap[c]?) {key v:PV} {kv vv:Value} (hk:Rep w Φ zCn key kv []) (hv:Rep w Φ zCn v vv []):∀ (es:List (PV×PV)) (ms:List MapEntry) (i:Nat),zEq w Φ es ms i→zEq w' Φ (es++[(key,v)]) (ms++[{key:=kv,val:=vv,born:=i+es.length}]) i
 | [],ms,i,h=>by
  simp only [zEq] at h;subst h
  exact ⟨_,_,rfl,rfl,hk.mono (fun c hc=>⟨hc,hΦ c hc⟩) (fun _ _ _ h=>h) (by simp),hv.mono (fun c hc=>⟨hc,hΦ c hc⟩) (fun _ _ _ h=>h) (by simp),by simp [zEq]⟩
 | (k,p)::es,ms,i,h=>by
  obtain ⟨m,ms',rfl,hb,h1,h2,h3⟩:=h
  have ih:=zEq.push' hΦ hk hv es ms' (i+1) h3
  rw [show i+1+es.length=i+(es.length+1) by omega] at ih
  exact ⟨m,_,rfl,hb,h1.mono (fun c hc=>⟨hc,hΦ c hc⟩) (fun _ _ _ h=>h) (by simp),h2.mono (fun c hc=>⟨hc,hΦ c hc⟩) (fun _ _ _ h=>h) (by simp),ih⟩
theorem zLX {p:PV} (h:p.flat=true):p.lone=true:=by
 cases p<;>first | (cases h;done) | rfl | skip
 rename_i cs
 simp only [PV.flat,PV.lone,List.all_eq_true] at h ⊢
 intro q hq
 have:=h q hq
 cases q<;>first | (cases this;done) | rfl
theorem zPM (S:St w0 U Φ0 nt hv a w e Φ rv E L) {t kt el:TypeId} {key v m:PV} {mv kv vv:Value} (ht:P.underlying t=some (.map kt el)) (wp:zPx P 20 kt key=true) (hkf:key.flat=true) (hEv:E zAb=v) (hEm:E (zAb+1)=m) (hEk:E (zAb+2)=key) (ja:rv zAb=vv) (hrm:rv (zAb+1)=mv) (hrk:rv (zAb+2)=kv)
  (h:(zL0 P kt key v m).run o e=some e'):∃ w',(Instr.mapUpdate t mv kv vv).run P w = .ok () w'∧Fr w0 U Φ0 nt hv a w' e':=by
 have h0:=S.conf.rep zAb
 have h1:=S.conf.rep (zAb+1)
 have h2:=S.conf.rep (zAb+2)
 rw [hEv,ja] at h0
 rw [hEm,hrm] at h1
 rw [hEk,hrk] at h2
 cases m<;>simp only [zL0] at h<;>try (cases h;done)
 rename_i r pre
 obtain ⟨vI,h⟩:=zAV h
 obtain ⟨_,wN⟩:=zLa vI h0
 obtain ⟨jV,wQ⟩:=zLa (zLX hkf) h2
 rw [jV] at h2
 have hL1:L (zAb+1)=[]:=h1.1
 rw [hL1] at h1
 obtain ⟨q,hq,h⟩:=zBT h
 cases q<;>simp only at h<;>try (cases h;done)
 rename_i es
 obtain ⟨_,b,ms,rfl,uR,hM⟩:=zQS S h1 hq
 cases hf:zDE P kt key es 0 with
 | none=>rw [hf] at h;cases h
 | some x =>
  rw [hf] at h
  have yf:=zKk wp h2 hf hM
  have qV:=zK7 (empty:=false) 20 10000 kt key kv (by decide) wp h2
  cases x with
  | none =>
   obtain ⟨root,yG,ju,h⟩:=zCt h
   simp only [PM.run,Option.some.injEq] at h;subst h
   have:=zMm S (ms':=ms.push {key:=kv,val:=vv,born:=es.length}) h1 hq rfl uR yG ju (fun w' hw=>by
    have:=zEq.push' hw wQ wN es ms.toList 0 hM
    simpa using this)
   refine ⟨_,?_,this⟩
   simp only [Option.bind_none] at yf
   simp [Instr.mapUpdate,run_underlying ht,MapKept.run_getObj_map uR,qV,yf,MapKept.run_setObj_map _ uR]
  | some i =>
   obtain ⟨root,yG,ju,h⟩:=zCt h
   simp only [PM.run,Option.some.injEq] at h;subst h
   obtain ⟨_,hi,k,v',m,h3,h4,h5,h6,h7,h8⟩:=(zD3 h2 es ms.toList 0 (some i) hf hM).2 i rfl
   simp only [Nat.sub_zero] at h3 h4 hi
   obtain ⟨_,k',v'',h9,h10⟩:=zMA hf
   simp only [Nat.sub_zero] at h9
   rw [h3] at h9;cases h9
   obtain ⟨vr,hsb⟩:=zSN hkf h5 h2 h6 h10
   have:=zMm S (ms':=ms.modify i fun m=>{m with key:=kv,val:=vv}) h1 hq rfl uR yG ju (fun w' hw=>by
    have:=zEq.modify' hw wQ wN es ms.toList 0 i hM
    simpa using this)
   refine ⟨_,?_,this⟩
   have qi:ms[i]? = some m:=by rw [← Array.getElem?_toList];exact h4
   simp only [Option.bind_some,h4,Option.map_some] at yf
   rw [vr] at hsb qV yf ⊢
   simp [Instr.mapUpdate,run_underlying ht,MapKept.run_getObj_map uR,qV,yf,qi,Instr.keyThatStays,hsb,MapKept.run_setObj_map _ uR]
theorem zJV (S:St w0 U Φ0 nt hv a w e Φ rv E L) (hb:zBw E) {t:TypeId} {m x y:Operand} (hm:zAW nt m=true) (hx:zAW nt x=true) (hy:zAW nt y=true) (h:(zFe P t m x y).run o e=some e') :
  ∃ w',(Instr.mapUpdate t (a.eval m) (a.eval x) (a.eval y)).run P w = .ok () w'∧Fr w0 U Φ0 nt hv a w' e':=by
 obtain ⟨p,h1,hp⟩:=zBz S hm h
 obtain ⟨key,h2,hk⟩:=zBz S hx h1
 split at h2
 ·rename_i kt el ht
  obtain ⟨hc,h3⟩:=zAV h2
  simp only [Bool.and_eq_true] at hc
  have wm:=(zLa (zLX hc.2) hk).2
  have S1:=S.hold (g:=zAb+1) (by omega) hp
  have S2:=S1.hold (g:=zAb+2) (by omega) (wm.mono (A':=zA2 w (upd rv (zAb+1) (a.eval m)) (upd E (zAb+1) p)) zDo.refl (fun _ _ _ h=>h.elim) (by simp))
  obtain ⟨e1,rv1,E1,L1,h4,S3,h5,h6⟩:=zHI S2 hy (g:=zAb) (Nat.le_refl _) h3
  obtain ⟨e2,rv2,E2,h7,W⟩:=zQW S3 (g:=zAb) (Nat.le_refl _) h4
  obtain ⟨Φ2,L2,S4⟩:=W.st
  obtain ⟨Φ3,L3,S5⟩:=S4.iced (g:=zAb) (Nat.le_refl _)
  obtain ⟨a1,a2,_⟩:=h6 (zAb+1) (by omega) (by omega)
  obtain ⟨b1,b2,_⟩:=h6 (zAb+2) (by omega) (by omega)
  obtain ⟨c1,c2⟩:=W.rest (zAb+1) (by omega) (by omega)
  obtain ⟨d1,d2⟩:=W.rest (zAb+2) (by omega) (by omega)
  refine zPM S5 (vv:=a.eval y) (mv:=a.eval m) (kv:=a.eval x) ht hc.1 hc.2 zAh ?_ ?_ ?_ ?_ ?_ h7
  ·rw [zAf (by omega),c1,a1,zAf (by omega),zAh]
  ·rw [zAf (by omega),d1,b1,zAh]
  ·rw [W.val,h5]
  ·rw [c2,a2,zAf (by omega),zAh]
  ·rw [d2,b2,zAh]
 ·cases h2
end
end Go.Eng
namespace Go.Eng
open Go
section
variable {w:World} {Φ:Nat→Prop} {rv:Nat→Value} {E:Nat→PV}
mutual
theorem zHl:∀ (p:PV) (v:Value) (L:List Nat),Rep w Φ (zA2 w rv E) p v L→∀ x∈p.ways,x.1<zAb
 | .agg cs,v,L,h,x,hx=>by obtain ⟨vs,_,h⟩:=h;exact zFJ cs _ L h x hx
 | .tup cs,v,L,h,x,hx=>by obtain ⟨vs,_,h⟩:=h;exact zFJ cs _ L h x hx
 | .ref q,v,L,h,x,hx=>by obtain ⟨_,a,c,u,_,_,_,_,_,_,h7⟩:=h;exact zHl q u [] h7 x hx
 | .box q,v,L,h,x,hx=>by obtain ⟨a,c,u,L',_,_,_,_,_,_,h7⟩:=h;exact zHl q u L' h7 x hx
 | .lock q,v,L,h,x,hx=>zHl q v L h x hx
 | .func g a b,v,L,h,x,hx=>by
  obtain ⟨_,fs,cs,_,h2,h3⟩:=h
  simp only [PV.ways,List.mem_append] at hx
  rcases hx with hx | hx
  ·exact zFJ a _ [] h2 x hx
  ·exact zFJ b _ [] h3 x hx
 | .addr ..,v,L,h,x,hx=>by simp only [PV.ways,List.mem_singleton] at hx;subst hx;exact h.2.1
 | .bor ..,v,L,h,x,hx=>by simp only [PV.ways,List.mem_singleton] at hx;subst hx;exact h.2.1
 | .bsl ..,v,L,h,x,hx=>by simp only [PV.ways,List.mem_singleton] at hx;subst hx;exact h.2.1
 | .bmap ..,v,L,h,x,hx=>by simp only [PV.ways,List.mem_singleton] at hx;subst hx;exact h.2.1
 | .yld _,v,L,h,x,hx=>by cases hx
 | .log ..,v,L,h,x,hx=>h.2.elim
 | .bad,_,_,_,x,hx=>by cases hx
 | .und,_,_,_,x,hx=>by cases hx
 | .int ..,_,_,_,x,hx=>by cases hx
 | .bool _,_,_,_,x,hx=>by cases hx
 | .nilp,_,_,_,x,hx=>by cases hx
 | .nilf,_,_,_,x,hx=>by cases hx
 | .nilm,_,_,_,x,hx=>by cases hx
 | .nn,_,_,_,x,hx=>by cases hx
 | .nils _,_,_,_,x,hx=>by cases hx
 | .sl _,_,_,_,x,hx=>by cases hx
 | .own ..,_,_,_,x,hx=>by cases hx
 | .map _,_,_,_,x,hx=>by cases hx
 | .omap _,_,_,_,x,hx=>by cases hx
theorem zFJ:∀ (ps:List PV) (vs:List Value) (L:List Nat),zAZ w Φ (zA2 w rv E) ps vs L→∀ x∈zBy ps,x.1<zAb
 | [],_,_,_,x,hx=>by cases hx
 | p::ps,vs,L,h,x,hx=>by
  obtain ⟨v,vs',L1,L2,_,_,h1,h2⟩:=h
  simp only [zBy,List.mem_append] at hx
  rcases hx with hx | hx
  ·exact zHl p v L1 h1 x hx
  ·exact zFJ ps vs' L2 h2 x hx
end
theorem zUH {w:World} {rv rv':Nat→Value} {E E':Nat→PV} (h:∀ s,s<zAb→E' s=E s∧rv' s=rv s) {a:PV} {v:Value} (ha:zA2 w rv E a v):zA2 w rv' E' a v:=by
 obtain ⟨h1,h2⟩:=h _ (zCX ha)
 exact ha.mono fun nv np hn hh=>⟨np,by rw [h1,h2] at hn;exact hn,zCd.refl hh⟩
end
section
variable {P:Program} {w0 w:World} {U Φ0 Φ:Nat→Prop} {nt:Nat} {hv:Hid} {a:Act} {e e':Env} {rv:Nat→Value} {E:Nat→PV} {L:Nat→List Nat} {o:zAF}
theorem zKW:∀ (ps:List PV) (vs:List Value) (i:Nat) {rv:Nat→Value} {E:Nat→PV} {L:Nat→List Nat},St w0 U Φ0 nt hv a w e Φ rv E L→zAZ w Φ (zA2 w rv E) ps vs [] →
  ∃ rv1 E1 L1,St w0 U Φ0 nt hv a w e Φ rv1 E1 L1∧(∀ s,s<zAb→E1 s=E s∧rv1 s=rv s)∧(∀ (j:Nat) (p:PV) (v:Value),ps[j]? = some p→vs[j]? = some v→E1 (zAb+i+j)=p∧rv1 (zAb+i+j)=v∧L1 (zAb+i+j)=[]) ∧
   ∀ s,zAb≤s→(s<zAb+i∨zAb+i+ps.length≤s)→E1 s=E s∧rv1 s=rv s∧L1 s=L s
 | [],vs,i,rv,E,L,S,h=>⟨rv,E,L,S,fun _ _=>⟨rfl,rfl⟩,by simp,fun _ _ _=>⟨rfl,rfl,rfl⟩⟩
 | p :: ps,vs,i,rv,E,L,S,h=>by
  obtain ⟨v,vs',L1,L2,rfl,hL,h1,h2⟩:=h
  obtain ⟨rfl,rfl⟩:L1=[]∧L2=[]:=by simpa using hL.symm
  have S1:=S.hold (g:=zAb+i) (by omega) h1
  have yu:∀ s,s<zAb→upd E (zAb+i) p s=E s∧upd rv (zAb+i) v s=rv s:=fun s hs=>⟨zAf (by omega),zAf (by omega)⟩
  obtain ⟨rv1,E1,L1,S2,h3,h4,h5⟩:=zKW ps vs' (i+1) S1 (h2.mono zDo.refl (fun _ _ _ ha=>zUH yu ha) (fun _ _=>rfl))
  refine ⟨rv1,E1,L1,S2,fun s hs=>⟨(h3 s hs).1.trans (yu s hs).1,(h3 s hs).2.trans (yu s hs).2⟩,fun j q u hq hu=>?_,fun s hs jp=>?_⟩
  ·cases j with
   | zero =>
    simp at hq hu;subst hq;subst hu
    obtain ⟨k1,k2,k3⟩:=h5 (zAb+i) (by omega) (.inl (by omega))
    simp only [Nat.add_zero]
    rw [k1,k2,k3,zAh,zAh,zAh];exact ⟨rfl,rfl,rfl⟩
   | succ j =>
    have:=h4 j q u (by simpa using hq) (by simpa using hu)
    rwa [show zAb+i+(j+1)=zAb+(i+1)+j by omega]
  ·obtain ⟨k1,k2,k3⟩:=h5 s hs (by simp at jp;omega)
   have hH:s≠zAb+i:=by simp at jp;omega
   rw [k1,k2,k3,zAf hH,zAf hH,zAf hH];exact ⟨rfl,rfl,rfl⟩
structure Handed (rv1:Nat→Value) (E1:Nat→PV) (L1:Nat→List Nat) (i:Nat) (bs:List (Bool×PV)):Prop where
 at_:∀ (j:Nat) (b:Bool×PV),bs[j]? = some b→E1 (zAb+i+j)=b.2∧(b.1=true→b.2.ways=[])∧(b.1=false→L1 (zAb+i+j)=[])
theorem zGB:∀ (ps:List PV) (ms:List Nat) (i:Nat) {k:List (Bool×PV)→PM} {e:Env} {Φ:Nat→Prop} {rv:Nat→Value} {E:Nat→PV} {L:Nat→List Nat},St w0 U Φ0 nt hv a w e Φ rv E L →
  (∀ (j:Nat) (p:PV),ps[j]? = some p→E (zAb+i+j)=p∧L (zAb+i+j)=[])→(zDW ms ps k).run o e=some e' →
  ∃ e1 rv1 E1 L1 bs,(k bs).run o e1=some e'∧St w0 U Φ0 nt hv a w e1 Φ rv1 E1 L1∧bs.length=ps.length∧Handed rv1 E1 L1 i bs∧(∀ s,rv1 s=rv s)∧(∀ s,zAb≤s→(s<zAb+i∨zAb+i+ps.length≤s)→E1 s=E s∧L1 s=L s)
 | [],ms,i,k,e,Φ,rv,E,L,S,hp,h=>⟨e,rv,E,L,[],by simpa [zDW] using h,S,rfl,⟨by simp⟩,fun _=>rfl,fun _ _ _=>⟨rfl,rfl⟩⟩
 | p :: ps,ms,i,k,e,Φ,rv,E,L,S,hp,h=>by
  obtain ⟨hE,hL⟩:=hp 0 p rfl
  simp only [Nat.add_zero] at hE hL
  have plain:(zDW ms.tail ps fun as=>k ((false,p)::as)).run o e=some e'→∃ e1 rv1 E1 L1 bs,(k bs).run o e1=some e'∧St w0 U Φ0 nt hv a w e1 Φ rv1 E1 L1∧bs.length=(p::ps).length∧Handed rv1 E1 L1 i bs∧(∀ s,rv1 s=rv s) ∧
    (∀ s,zAb≤s→(s<zAb+i∨zAb+i+(p::ps).length≤s)→E1 s=E s∧L1 s=L s):=by
   intro h
   obtain ⟨e1,rv1,E1,L1,bs,h1,S1,h2,h3,h4,h5⟩:=zGB ps ms.tail (i+1) S (fun j q hq=>by
    rw [show zAb+(i+1)+j=zAb+i+(j+1) by omega];exact hp (j+1) q (by simpa using hq)) h
   refine ⟨e1,rv1,E1,L1,(false,p)::bs,h1,S1,by simp [h2],⟨fun j b hb=>?_⟩,h4,fun s hs jp=>h5 s hs (by simp at jp;omega)⟩
   cases j with
   | zero =>
    simp at hb;subst hb
    obtain ⟨k1,k2⟩:=h5 (zAb+i) (by omega) (.inl (by omega))
    simp only [Nat.add_zero]
    exact ⟨k1.trans hE,by simp,fun _=>k2.trans hL⟩
   | succ j =>
    have:=h3.at_ j b (by simpa using hb)
    rwa [show zAb+(i+1)+j=zAb+i+(j+1) by omega] at this
  simp only [zDW] at h
  split at h
  ·rename_i r pre z n _
   obtain ⟨q,hq,h1⟩:=zBT h
   split at h1
   ·rename_i sz xs
    obtain ⟨yK,h2⟩:=zAV h1
    have yK:=Nat.le_of_ble_eq_true yK
    obtain ⟨root,hl,hm,h3⟩:=zCt h2
    have hI:=S.conf.rep (zAb+i)
    rw [hE] at hI
    obtain ⟨_,hr,_,hn⟩:=hI
    have yG:=zBA hl
    rw [yG,← S.env r hr] at hq
    rw [← S.env r hr] at yG hm
    obtain ⟨kk1,kk2⟩:=zBJ (q' := .bad) rfl rfl hm
    obtain ⟨nv,Li,g1,g2,g3,g4,g5⟩:=S.taken (g:=zAb+i) (by omega) hr yG hq rfl hm kk1 kk2
    have jK:zBV (rv (zAb+i)) nv sz 0 n:=by
     obtain ⟨s2,xs2,q1,q2,q3⟩:=hn nv _ (by rw [yG];exact g1) rfl
     cases q1;subst q2;exact q3
    obtain ⟨Lg,p1,p2,p3⟩:=zIm g2 (by omega) jK
    obtain ⟨L',S1,v4⟩:=g5 _ (rv (zAb+i)) Lg p1 (p3 g3) (fun b hb => .inl (p2 b hb))
    have ja:∀ s,upd rv (zAb+i) (rv (zAb+i)) s=rv s:=fun s=>by
     by_cases hs:s=zAb+i
     ·subst hs;rw [zAh]
     ·rw [zAf hs]
    have vC:∀ s,zAb≤s→s≠zAb+i→upd (upd E r root) (zAb+i) (PV.own sz ((xs.drop 0).take n)) s=E s∧L' s=L s:=fun s hs hH=>⟨by rw [zAf hH,zAf (by omega)],v4 s hs hH⟩
    obtain ⟨e1,rv1,E1,L1,bs,h4,S2,h5,h6,h7,h8⟩:=zGB ps ms.tail (i+1) S1 (fun j q hq=>by
     obtain ⟨k1,k2⟩:=vC (zAb+(i+1)+j) (by omega) (by omega)
     rw [k1,k2,show zAb+(i+1)+j=zAb+i+(j+1) by omega];exact hp (j+1) q (by simpa using hq)) h3
    refine ⟨e1,rv1,E1,L1,_::bs,h4,S2,by simp [h5],⟨fun j b hb=>?_⟩,fun s=>(h7 s).trans (ja s),fun s hs jp=>?_⟩
    ·cases j with
     | zero =>
      simp only [List.getElem?_cons_zero,Option.some.injEq] at hb;subst hb
      obtain ⟨k1,k2⟩:=h8 (zAb+i) (by omega) (.inl (by omega))
      simp only [Nat.add_zero]
      exact ⟨by rw [k1,zAh],fun _=>rfl,fun h=>by cases h⟩
     | succ j =>
      have:=h6.at_ j b (by simpa using hb)
      rwa [show zAb+(i+1)+j=zAb+i+(j+1) by omega] at this
    ·obtain ⟨k1,k2⟩:=h8 s hs (by simp at jp;omega)
     obtain ⟨k3,k4⟩:=vC s hs (by simp at jp;omega)
     exact ⟨k1.trans k3,k2.trans k4⟩
   ·cases h1
  ·exact plain h
theorem zHX (S:St w0 U Φ0 nt hv a w e Φ rv E L):∀ (bs:List (Bool×PV)) (ms:List Nat) (i:Nat) {k:List Arg→PM},Handed rv E L i bs→(zCs ms bs k).run o e=some e' →
  ∃ as,(k as).run o e=some e'∧as.length=bs.length∧∀ (j:Nat) (x:Arg),as[j]? = some x→zNj w Φ rv E (i+j) x
 | [],ms,i,k,hb,h=>⟨[],by simpa [zCs] using h,rfl,by simp⟩
 | (m, p)::bs,ms,i,k,hb,h=>by
  obtain ⟨h1,h2,h3⟩:=hb.at_ 0 (m,p) rfl
  simp only [Nat.add_zero] at h1 h2 h3
  have ky:Handed rv E L (i+1) bs:=⟨fun j b hj=>by
   rw [show zAb+(i+1)+j=zAb+i+(j+1) by omega];exact hb.at_ (j+1) b (by simpa using hj)⟩
  have fin:∀ x,zNj w Φ rv E i x→(zCs ms.tail bs fun as=>k (x::as)).run o e=some e'→∃ as,(k as).run o e=some e'∧as.length=((m,p)::bs).length∧∀ (j:Nat) (x:Arg),as[j]? = some x→zNj w Φ rv E (i+j) x:=by
   intro x hx h
   obtain ⟨as,g1,g2,g3⟩:=zHX S bs ms.tail (i+1) ky h
   refine ⟨x::as,g1,by simp [g2],fun j y hy=>?_⟩
   cases j with
   | zero=>simp at hy;subst hy;exact hx
   | succ j=>rw [show i+(j+1)=i+1+j by omega];exact g3 j y (by simpa using hy)
  cases m with
  | true=>exact fin _ ⟨by simp,.inr (.inl ⟨rfl,h1.symm,by rw [h1];exact h2 rfl⟩)⟩ h
  | false =>
   simp only [zCs] at h
   revert h
   cases Nat.beq (ms.headD 0) 1 with
   | true=>exact fun h=>fin _ ⟨by simp,.inl ⟨rfl,h1.symm⟩⟩ h
   | false =>
    intro h
    simp only [cond_false] at h
    have hI:=S.conf.rep (zAb+i)
    rw [h1,h3 rfl] at hI
    obtain ⟨q,l,g1,g2,g3⟩:=zN4 S hI h
    exact fin _ ⟨g2,.inr (.inr ⟨rfl,fun Φ1 k1 k2=>g3 Φ1 k1 k2 (by simp)⟩)⟩ g1
theorem zJ7:∀ (bs:List (Bool×PV)) (ms:List Nat) (i:Nat) {k:List Arg→PM} {e:Env} {Φ:Nat→Prop} {E:Nat→PV} {L:Nat→List Nat},St w0 U Φ0 nt hv a w e Φ rv E L→Handed rv E L i bs→(zEc ms bs k).run o e=some e' →
  ∃ as e1 Φ1 E1 L1,(k as).run o e1=some e'∧St w0 U Φ0 nt hv a w e1 Φ1 rv E1 L1∧as.length=bs.length∧(∀ (j:Nat) (x:Arg),as[j]? = some x→zNj w Φ1 rv E1 (i+j) x)∧∀ s,zAb≤s→s<zAb+i→E1 s=E s
 | [],ms,i,k,e,Φ,E,L,S,hb,h=>⟨[],e,Φ,E,L,by simpa [zEc] using h,S,rfl,by simp,fun _ _ _=>rfl⟩
 | (m, p)::bs,ms,i,k,e,Φ,E,L,S,hb,h=>by
  obtain ⟨h1,h2,h3⟩:=hb.at_ 0 (m,p) rfl
  simp only [Nat.add_zero] at h1 h2 h3
  have ky:Handed rv E L (i+1) bs:=⟨fun j b hj=>by
   rw [show zAb+(i+1)+j=zAb+i+(j+1) by omega];exact hb.at_ (j+1) b (by simpa using hj)⟩
  have fin:∀ {e:Env} {Φ:Nat→Prop} {E2:Nat→PV} {L2:Nat→List Nat} (x:Arg),St w0 U Φ0 nt hv a w e Φ rv E2 L2→Handed rv E2 L2 (i+1) bs→(∀ s,zAb≤s→s<zAb+i→E2 s=E s)→(∀ (Φ1:Nat→Prop) (E1:Nat→PV),E1 (zAb+i)=E2 (zAb+i)→zNj w Φ1 rv E1 i x) →
    (zEc ms.tail bs fun as=>k (x::as)).run o e=some e'→∃ as e1 Φ1 E1 L1,(k as).run o e1=some e'∧St w0 U Φ0 nt hv a w e1 Φ1 rv E1 L1∧as.length=((m,p)::bs).length∧(∀ (j:Nat) (x:Arg),as[j]? = some x→zNj w Φ1 rv E1 (i+j) x)∧∀ s,zAb≤s→s<zAb+i→E1 s=E s:=by
   intro e Φ E2 L2 x S hh hE hx h
   obtain ⟨as,e1,Φ1,E1,L1,g1,S1,g2,g3,g4⟩:=zJ7 bs ms.tail (i+1) S hh h
   refine ⟨x::as,e1,Φ1,E1,L1,g1,S1,by simp [g2],fun j y hy=>?_,fun s hs yL=>(g4 s hs (by omega)).trans (hE s hs yL)⟩
   cases j with
   | zero=>simp at hy;subst hy;exact hx Φ1 E1 (g4 _ (by omega) (by omega))
   | succ j=>rw [show i+(j+1)=i+1+j by omega];exact g3 j y (by simpa using hy)
  cases m with
  | true=>exact fin _ S ky (fun _ _ _=>rfl) (fun Φ1 E1 he=>⟨by simp,.inr (.inl ⟨rfl,by rw [he,h1],by rw [he,h1];exact h2 rfl⟩)⟩) h
  | false =>
   simp only [zEc] at h
   revert h
   cases Nat.beq (ms.headD 0) 1 with
   | true=>exact fun h=>fin _ S ky (fun _ _ _=>rfl) (fun Φ1 E1 he=>⟨by simp,.inl ⟨rfl,by rw [he,h1]⟩⟩) h
   | false =>
    intro h
    simp only [cond_false] at h
    rw [← h1] at h
    obtain ⟨e1,Φ1,E1,L1,g1,S1,g2,g3,g4,g5,_,_⟩:=zIz (g:=zAb+i) (by omega) (Nat.le_refl _) zDL S h
    have hw:(E1 (zAb+i)).ways=[]:=by
     have yu:=zHl _ _ _ (S1.conf.rep (zAb+i))
     cases hw:(E1 (zAb+i)).ways with
     | nil=>rfl
     | cons x xs =>
      have k1:=yu x (by rw [hw];simp)
      have k2:=g5 x (by rw [hw];simp)
      omega
    refine fin _ S1 ⟨fun j b hj=>?_⟩ (fun s hs yL=>g3 s hs (by omega)) (fun Φ1 E1' he=>⟨by simp,.inr (.inl ⟨rfl,he.symm,by rw [he];exact hw⟩)⟩) g1
    rw [g3 _ (by omega) (by omega),g4 _ (by omega)]
    exact ky.at_ j b hj
variable {H:zBh}
theorem zRH (jH:zGf P o) (S:St w0 U Φ0 nt hv a w e Φ rv E L) {d:Option Nat} (hd:∀ x,d=some x→x<nt) {f:FuncId} {ps:List PV} {vs:Array Value} (hr:zAZ w Φ (zA2 w rv E) ps vs.toList [])
  (h:(zNs H d f ps).run o e=some e'):zCS P f∧Calls P f vs w fun en w''=>∃ u,en = .returned u∧Fr w0 U Φ0 nt hv (a.put d u) w'' e':=by
 have hO:=hr.length
 obtain ⟨rv1,E1,L1,S1,_,h2,_⟩:=zKW ps vs.toList 0 S hr
 have hpv:∀ (j:Nat) (p:PV),ps[j]? = some p→∃ v,vs.toList[j]? = some v:=fun j p hj=>by
  have:j<ps.length:=(List.getElem?_eq_some_iff.1 hj).1
  exact ⟨_,List.getElem?_eq_getElem (by omega)⟩
 simp only [zNs] at h
 obtain ⟨e2,rv2,E2,L2,bs,h3,S2,h4,h5,h6,_⟩:=zGB ps (H f).mode 0 S1 (fun j p hj=>by
  obtain ⟨v,yC⟩:=hpv j p hj
  have:=h2 j p v hj yC
  exact ⟨this.1,this.2.2⟩) h
 have yq:∀ i,i<bs.length→vs[i]? = some (rv2 (zAb+i)):=by
  intro i hi
  obtain ⟨p,hp⟩:∃ p,ps[i]? = some p:=⟨_,List.getElem?_eq_getElem (by omega)⟩
  obtain ⟨v,yC⟩:=hpv i p hp
  have:=h2 i p v hp yC
  simp only [Nat.add_zero] at this
  rw [h6,this.2.1]
  simpa using yC
 have hvsz:vs.size=bs.length:=by rw [h4,← hO];simp
 obtain ⟨as,g1,g2,g3⟩:=zHX S2 bs (H f).mode 0 h5 h3
 rcases zOs jH S2 hd (vs:=vs) (by rw [hvsz,g2]) (fun i hi=>yq i (by omega)) (fun i x hx=>by simpa using g3 i x hx) g1 with h7 | h7
 ·obtain ⟨as',e3,Φ3,E3,L3,k1,S3,k2,k3,_⟩:=zJ7 bs (H f).mode 0 S2 h5 h7
  rcases zOs jH S3 hd (vs:=vs) (by rw [hvsz,k2]) (fun i hi=>yq i (by omega)) (fun i x hx=>by simpa using k3 i x hx) k1 with h8 | h8
  ·cases h8
  ·exact h8
 ·exact h7
end
end Go.Eng
namespace Go.Eng
open Go
def zTh (P:Program) (o:Oper) (a:Act) (w:World) (K:Act→World→Prop):Prop :=
 match (execOp a.eval o).run P w with
 | .ok (.value v) w'=>K (a.put o.dst v) w'
 | .ok .skip w'=>K (a.put o.dst undef) w'
 | .ok (.enter f args) w'=>Calls P f args w' fun en w''=>∃ u,en = .returned u∧K (a.put o.dst u) w''
 | _=>False
def zRn:Op→Bool
 | .defer _=>true
 | _=>false
theorem zTD {P:Program} {o:Oper} {a:Act} {w:World} {K:Act→World→Prop} {n:Nat} {ro:Option Nat} {Q:Exit→Act→World→Prop} (hd:zRn o.op=false) (h:zTh P o a w K):o.wpIn {Fence.wide with round:=ro} n P a w K Q:=by
 refine ⟨fun _ _=>trivial,?_⟩
 rw [Oper.semAt_eq ro a.eval o (fun c hc=>by rw [hc] at hd;cases hd)]
 simp only [zTh] at h
 split at h
 ·rename_i v w' hr;rw [hr];exact h
 ·rename_i w' hr;rw [hr];exact h
 ·rename_i f args w' hr
  rw [hr]
  refine ⟨fun h=>(by cases h),?_⟩
  have h1:CallsIn Fence.wide (n-1) P f args w' _:=callsIn_wide.2 h
  refine CallsIn.mono (F:={Fence.wide with round:=ro}) ?_ (R:=fun en w''=>∃ u,en = .returned u∧K (a.put o.dst u) w'') (fun en w'' uz=>?_)
  ·exact h1
  ·obtain ⟨u,rfl,hk⟩:=uz;exact hk
 ·exact h.elim
def zPI (P:Program) (nt:Nat):Oper→Bool:=fun o =>
 (match o.dst with | some d=>Nat.blt d nt | none=>true) &&
 match o.op with
 | .move x | .assign x | .nilCheck x | .unOp _ _ x | .box _ x | .load _ x | .fieldAddr _ x _ | .field _ x _=>zAW nt x
 | .pick c a b=>zAW nt c&&zAW nt a&&zAW nt b
 | .alloc _=>true
 | .build _ ps | .buildSlice _ _ ps=>ps.toList.all fun x=>zAW nt x.2
 | .store _ a x=>o.dst.isNone&&zAW nt a&&zAW nt x
 | .binOp _ _ x y _=>zAW nt x&&zAW nt y
 | .convert s _ x=>(P.underlying s).isSome&&zAW nt x
 | .makeFunc _ fs cs=>fs.toList.all (zAW nt)&&cs.toList.all (zAW nt)
 | .makeMap _ _=>true
 | .makeSlice _ l c=>zAW nt l&&zAW nt c
 | .slice _ x lo hi mx=>zAW nt x&&(match lo with | some y=>zAW nt y | none=>true)&&(match hi with | some y=>zAW nt y | none=>true)&&(match mx with | some y=>zAW nt y | none=>true)
 | .indexAddr _ x i | .index _ x i=>zAW nt x&&zAW nt i
 | .lookup _ m x _=>zAW nt m&&zAW nt x
 | .mapUpdate _ m x y=>o.dst.isNone&&zAW nt m&&zAW nt x&&zAW nt y
 | .panic _ | .makeInterface .. => true
 | .extract (.tmp s) _=>Nat.blt s nt
 | .call c=>c.args.toList.all (zAW nt)&&(match c.callee with
  | .builtin b=>match b with
   | .append | .copy=>Nat.beq c.argTypes.size 2
   | .len | .max | .min=>true
   | .clear=>Nat.blt 0 c.argTypes.size
   | _=>false
  | .value f=>zAW nt f
  | _=>false)
 | _=>false
def zER (P : Program) : Prop := ∀ (f : FuncId) (fn : Func), P.funcs[f]? = some fn → (fn.name == "runtime.NumGoroutine") = false
section
variable {P:Program} {H:zBh} {w0 w:World} {U Φ0 Φ:Nat→Prop} {nt:Nat} {hv:Hid} {a:Act} {e e':Env} {rv:Nat→Value} {E:Nat→PV} {L:Nat→List Nat} {orc:zAF}
theorem zAO {o:Oper} {K:Act→World→Prop} {v:Value} {w':World} (h:(execOp a.eval o).run P w = .ok (.value v) w') (hk:K (a.put o.dst v) w'):zTh P o a w K:=by
 simp only [zTh,h];exact hk
theorem zVb (jH:zGf P orc) (hnm:zER P) (S:St w0 U Φ0 nt hv a w e Φ rv E L) (hb:zBw E) {o:Oper} (yE:zPI P nt o=true) {fz tk nl:Bool} (h:(opM P H fz tk nl o).run orc e=some e') :
    zTh P o a w fun a' w'=>Fr w0 U Φ0 nt hv a' w' e':=by
  obtain ⟨dst,op,type,pos,after,guard⟩:=o
  simp only [zPI,Bool.and_eq_true] at yE
  obtain ⟨hd0,yE⟩:=yE
  have hd:∀ x,dst=some x→x<nt:=by
    intro x hx;subst hx;exact zBY hd0
  have all:∀ {xs:List Operand},xs.all (zAW nt)=true→∀ x∈xs,zAW nt x=true:=fun h=>List.all_eq_true.1 h
  cases op<;>simp only [opM] at h<;>try (cases h;done)
  case move x=>exact zAO (by simp [execOp]) (zT7 S hb hd yE h)
  case assign x=>exact zAO (by simp [execOp]) (zPD S hb hd yE h)
  case pick c x y =>
    simp only [Bool.and_eq_true] at yE
    obtain ⟨t,h1,h2⟩:=zUg S hb hd yE.1.1 yE.1.2 yE.2 h
    exact zAO (by simp [execOp,asBool,h1]) h2
  case alloc t =>
    obtain ⟨v,w',h1,h2⟩:=zSQ S hb hd h
    exact zAO (by simp [execOp,h1]) h2
  case box t x =>
    obtain ⟨v,w',h1,h2⟩:=zVf S hb hd yE h
    exact zAO (by simp [execOp,h1]) h2
  case build t ps =>
    obtain ⟨v,h1,h2⟩:=zSo S hb hd (List.all_eq_true.1 yE) h
    exact zAO (by simp only [execOp,Sem.run_bind,h1,Result.andThen_ok,Sem.run_pure]) h2
  case buildSlice t n ps =>
    obtain ⟨v,w',h1,h2⟩:=zKC S hb hd (List.all_eq_true.1 yE) h
    exact zAO (by simp only [execOp,Sem.run_bind,h1,Result.andThen_ok,Sem.run_pure]) h2
  case load t x =>
    obtain ⟨v,h1,h2⟩:=zQQ S hb hd yE h
    exact zAO (by simp [execOp,h1]) h2
  case store t x y =>
    simp only [Bool.and_eq_true,Option.isNone_iff_eq_none] at yE
    obtain ⟨⟨rfl,hx⟩,hy⟩:=yE
    obtain ⟨w',h1,h2⟩:=zR1 S hb hx hy h
    simp only [zTh,execOp,Sem.run_bind,h1,Result.andThen_ok,Sem.run_pure,Act.put]
    exact h2
  case nilCheck x =>
    obtain ⟨h1,h2⟩:=zUU S hb hd yE h
    refine zAO (v:=a.eval x) (w':=w) ?_ h2
    simp only [execOp]
    revert h1
    generalize a.eval x=v
    intro h1
    split<;>first | (exact h1.elim) | rfl
  case binOp op t x y ty =>
    simp only [Bool.and_eq_true] at yE
    obtain ⟨v,h1,h2⟩:=zVa S hb hd yE.1 yE.2 h
    exact zAO (by simp only [execOp,Sem.run_bind] at h1 ⊢;simp only [h1];rfl) h2
  case unOp op t x =>
    obtain ⟨v,h1,h2⟩:=zVM (P:=P) S hb hd yE h
    exact zAO (by simp [execOp,h1]) h2
  case convert s t x =>
    simp only [Bool.and_eq_true] at yE
    obtain ⟨v,h1,h2⟩:=zUe S hb hd yE.1 yE.2 h
    exact zAO (by simp [execOp,h1]) h2
  case makeFunc f fs cs =>
    simp only [Bool.and_eq_true] at yE
    cases f<;>try (cases h;done)
    exact zAO (by simp [execOp,Instr.makeFunc]) (zTH S hb hd (all yE.1) (all yE.2) h)
  case makeMap t r =>
    cases r with
    | some r=>cases h
    | none =>
      obtain ⟨v,w',h1,h2⟩:=zPu (P:=P) (t:=t) S hb hd h
      exact zAO (by simp [execOp,h1]) h2
  case makeSlice t l c =>
    simp only [Bool.and_eq_true] at yE
    obtain ⟨v,w',h1,h2⟩:=zL5 S hb hd yE.1 yE.2 h
    exact zAO (by simp [execOp,h1]) h2
  case slice t x lo hi mx =>
    simp only [Bool.and_eq_true] at yE
    obtain ⟨v,h1,h2⟩:=zR7 S hb hd yE.1.1.1 (fun y hy=>by subst hy;exact yE.1.1.2) (fun y hy=>by subst hy;exact yE.1.2) (fun y hy=>by subst hy;exact yE.2) h
    exact zAO (by simp [execOp,h1]) h2
  case fieldAddr t x i =>
    obtain ⟨v,h1,h2⟩:=zMu S hb hd yE h
    exact zAO (by simp [execOp,h1]) h2
  case field t x i =>
    obtain ⟨v,h1,h2⟩:=zSd S hb hd yE h
    exact zAO (by simp [execOp,h1]) h2
  case indexAddr t x i =>
    simp only [Bool.and_eq_true] at yE
    obtain ⟨v,h1,h2⟩:=zLL S hb hd yE.1 yE.2 h
    exact zAO (by simp [execOp,h1]) h2
  case index t x i =>
    simp only [Bool.and_eq_true] at yE
    obtain ⟨v,h1,h2⟩:=zSZ S hb hd yE.1 yE.2 h
    exact zAO (by simp [execOp,h1]) h2
  case lookup t m x ok =>
    simp only [Bool.and_eq_true] at yE
    obtain ⟨v,h1,h2⟩:=zQa S hb hd yE.1 yE.2 h
    exact zAO (by simp [execOp,h1]) h2
  case mapUpdate t m x y =>
    simp only [Bool.and_eq_true,Option.isNone_iff_eq_none] at yE
    obtain ⟨⟨⟨rfl,hm⟩,hx⟩,hy⟩:=yE
    obtain ⟨w',h1,h2⟩:=zJV S hb hm hx hy h
    simp only [zTh,execOp,Sem.run_bind,h1,Result.andThen_ok,Sem.run_pure,Act.put]
    exact h2
  case extract x i =>
    cases x<;>try (cases h;done)
    obtain ⟨v,h1,h2⟩:=zO5 (P:=P) S hb hd (zBY yE) h
    exact zAO (by simp [execOp,h1]) h2
  case call c =>
    simp only [Bool.and_eq_true] at yE
    obtain ⟨yH,yv⟩:=yE
    obtain ⟨callee,args,argTypes⟩:=c
    replace yH:∀ x∈args.toList,zAW nt x=true:=List.all_eq_true.1 yH
    simp only [zKv] at h
    cases callee with
    | invoke r m=>cases h
    | value f =>
      simp only at h yv yH
      obtain ⟨g,h1,hg⟩:=zBz S yv h
      cases g<;>simp only [zSw] at h1<;>try (cases h1;done)
      case func g fs cs =>
        obtain ⟨ps,h2,yc⟩:=zHu S yH h1
        obtain ⟨_,us,vs,hgv,wO,yq⟩:=hg
        have hr:zAZ w Φ (zA2 w rv E) (fs++ps++cs) (us++args.map a.eval++vs).toList []:=by
          have:=(wO.append yc).append yq
          simpa using this
        obtain ⟨⟨fn,kD,yR⟩,kS⟩:=zRH jH S hd hr h2
        have hZ:(execOp a.eval ⟨dst,.call ⟨.value f,args,argTypes⟩,type,pos,after,guard⟩).run P w = .ok (.enter g (us++args.map a.eval++vs)) w:=by
          have hn:=hnm g fn kD
          have vX:¬ fn.body=none:=by intro hb;rw [hb] at yR;cases yR
          have vg : ¬ fn.name = "runtime.NumGoroutine" := by simpa using hn
          simp [execOp,Go.resolve,hgv,Deferred.ofValue,invoke,callFunc,kD,vX,vg]
        simp only [zTh,hZ]
        exact kS
    | builtin b =>
      simp only at h yv yH
      have hZ:∀ v w',(builtin b argTypes type (args.map fun | .const _=>true | _=>false) (args.map a.eval)).run P w = .ok (.value v) w'→(execOp a.eval ⟨dst,.call ⟨.builtin b,args,argTypes⟩,type,pos,after,guard⟩).run P w = .ok (.value v) w':=by
        intro v w' hr
        simp only [execOp,Go.resolve,Sem.run_bind,Sem.run_pure,Result.andThen_ok,invoke]
        exact hr
      cases b<;>simp only at yv<;>try (cases yv;done)
      case len =>
        obtain ⟨v,h1,h2⟩:=zVy (ty:=type) S hb hd yH h
        exact zAO (hZ v w (by simp [builtin,h1])) h2
      case max =>
        obtain ⟨v,h1,h2⟩:=zUC (ty:=type) S hb hd yH h
        exact zAO (hZ v w (by simp [builtin,h1])) h2
      case min =>
        obtain ⟨v,h1,h2⟩:=zU4 (ty:=type) S hb hd yH h
        exact zAO (hZ v w (by simp [builtin,h1])) h2
      case append =>
        have yD:=Nat.eq_of_beq_eq_true yv
        obtain ⟨t,t2,rfl⟩:∃ t t2,argTypes=#[t,t2]:=by
          match argTypes,yD with
          | ⟨[t,t2]⟩,_=>exact ⟨t,t2,rfl⟩
        have hax:∃ x y,args=#[x,y]:=by
          obtain ⟨l⟩:=args
          simp only [zBr] at h
          match l,h with
          | [x,y],_=>exact ⟨x,y,rfl⟩
          | [],h=>cases h
          | [_],h=>cases h
          | _::_::_::_,h=>cases h
        obtain ⟨x,y,rfl⟩:=hax
        obtain ⟨v,w',h1,h2⟩:=zRg (ty:=type) S hb hd (yH x (by simp)) (yH y (by simp)) h
        exact zAO (hZ v w' (by simp only [builtin,Sem.run_bind,List.map_toArray,List.map_cons,List.map_nil,h1,Result.andThen_ok,Sem.run_pure])) h2
      case clear =>
        obtain ⟨t,ts,rfl⟩:∃ t ts,argTypes=(t::ts).toArray:=by
          match argTypes,yv with
          | ⟨t::ts⟩,_=>exact ⟨t,ts,rfl⟩
        obtain ⟨x,rfl⟩:∃ x,args=#[x]:=by
          obtain ⟨l⟩:=args
          match l,h with
          | [x],_=>exact ⟨x,rfl⟩
          | [],h=>simp only [zBr] at h;cases h
          | _::_::_,h=>simp only [zBr] at h;cases h
        obtain ⟨w',h1,h2⟩:=zSU (ty:=type) S hb hd (yH x (by simp)) h
        exact zAO (hZ _ w' (by simp only [builtin,Sem.run_bind,List.map_toArray,List.map_cons,List.map_nil,h1,Result.andThen_ok,Sem.run_pure])) h2
      case copy =>
        have yD:=Nat.eq_of_beq_eq_true yv
        obtain ⟨t,t2,rfl⟩:∃ t t2,argTypes=#[t,t2]:=by
          match argTypes,yD with
          | ⟨[t,t2]⟩,_=>exact ⟨t,t2,rfl⟩
        have hax:∃ x y,args=#[x,y]:=by
          obtain ⟨l⟩:=args
          simp only [zBr] at h
          match l,h with
          | [x,y],_=>exact ⟨x,y,rfl⟩
          | [],h=>cases h
          | [_],h=>cases h
          | _::_::_::_,h=>cases h
        obtain ⟨x,y,rfl⟩:=hax
        obtain ⟨v,w',h1,h2⟩:=zTx (ty:=type) S hb hd (yH x (by simp)) (yH y (by simp)) h
        exact zAO (hZ v w' (by simp only [builtin,Sem.run_bind,List.map_toArray,List.map_cons,List.map_nil,h1,Result.andThen_ok,Sem.run_pure])) h2
  all_goals first | (cases yE;done) | skip
end
end Go.Eng
namespace Go.Eng
open Go
def FF (ro:Option Nat):Fence:={Fence.wide with round:=ro}
def zNw (P:Program) (nt:Nat) (ops:Array Oper):Bool:=ops.toList.all (zPI P nt)
def zCY:Code→Bool
 | .seq a b=>zCY a&&zCY b
 | .cond _ a b=>zCY a&&zCY b
 | .block _ b=>zCY b
 | .loop b=>zCY b
 | .scope b=>zCY b
 | .rangeFunc .. => false
 | _=>true
def zCE (P:Program) (nt:Nat):Code→Bool
 | .skip=>true
 | .region _ ops _=>zNw P nt ops
 | .seq a b=>zCE P nt a&&zCE P nt b
 | .cond c a b=>zAW nt c&&zCE P nt a&&zCE P nt b
 | .block _ b=>zCE P nt b
 | .loop b=>zCE P nt b
 | .exit _=>true
 | .ret=>true
 | .label _=>true
 | .scope b=>zCE P nt b
 | .rangeFunc f ps a b=>zAW nt f&&ps.toList.all (fun t=>Nat.blt t nt)&&zCE P nt a&&zCE P nt b&&zCY a&&zCY b
 | _=>false
def X.exit:X→Exit
 | .norm => .normal
 | .ex id => .exit id
 | .ret => .ret
section
variable {P:Program} {H:zBh} {w0 w:World} {U Φ0 Φ:Nat→Prop} {nt:Nat} {hv:Hid} {a:Act} {e e':Env} {rv:Nat→Value} {E:Nat→PV} {L:Nat→List Nat} {orc:zAF} {ro:Option Nat} {n:Nat} {Q:Exit→Act→World→Prop}
theorem zL1 {o:Oper} (h:zPI P nt o=true):zRn o.op=false:=by
 obtain ⟨dst,op,type,pos,after,guard⟩:=o
 simp only [zPI,Bool.and_eq_true] at h
 cases op<;>first | rfl | (cases h.2;done)
theorem zIi {o:Oper} (h:zPI P nt o=true):∀ x,o.dst=some x→x<nt:=by
 intro x hx
 simp only [zPI,Bool.and_eq_true] at h
 rw [hx] at h
 exact zBY h.1
theorem zDD {ops:Array Oper} {i:Nat} {F:Fence} {K K':Act→World→Prop} (h:wpOpIn F n P ops Q i K a w) (hk:∀ a w,K a w→K' a w):wpOpIn F n P ops Q i K' a w:=wpOpIn_mono hk h
theorem zKE (jH:zGf P orc) (hnm:zER P) {ops:Array Oper} (yw:zNw P nt ops=true) (hf:Fr w0 U Φ0 nt hv a w e) {i:Nat} {o:Oper} (hi:ops[i]? = some o) {fz tk nl:Bool} (h:(zFr P H ops fz tk nl o).run orc e=some e') :
  wpOpIn (FF ro) n P ops Q i (fun a' w'=>Fr w0 U Φ0 nt hv a' w' e') a w:=by
 obtain ⟨Φ,rv,E,L,S,hb⟩:=hf
 have yT:∀ (j:Nat) (x:Oper),ops[j]? = some x→zPI P nt x=true:=fun j x hx=>List.all_eq_true.1 yw x (by
  rw [← Array.getElem?_toList] at hx;exact List.mem_of_getElem? hx)
 have yE:=yT i o hi
 have uW:=zIi yE
 simp only [wpOpIn,hi]
 simp only [zFr] at h
 have done:Region.wanted o (yielded ops a.tmps)=true→(opM P H fz tk nl o).run orc e=some e' →
   (if Region.wanted o (yielded ops a.tmps) then o.wpIn (FF ro) n P a w (fun a' w'=>Fr w0 U Φ0 nt hv a' w' e') Q else (∀ f,o.about P w a.eval=some f→(FF ro).fn f)∧(fun a' w'=>Fr w0 U Φ0 nt hv a' w' e') (a.put o.dst undef) w):=by
  intro hw h
  rw [if_pos hw]
  exact zTD (zL1 yE) (zVb jH hnm S hb yE h)
 have skip:Region.wanted o (yielded ops a.tmps)=false→(put o.dst .und).run orc e=some e' →
   (if Region.wanted o (yielded ops a.tmps) then o.wpIn (FF ro) n P a w (fun a' w'=>Fr w0 U Φ0 nt hv a' w' e') Q else (∀ f,o.about P w a.eval=some f→(FF ro).fn f)∧(fun a' w'=>Fr w0 U Φ0 nt hv a' w' e') (a.put o.dst undef) w):=by
  intro hw h
  rw [hw]
  exact ⟨fun _ _=>trivial,zAw S hb uW h (p := .und) ⟨rfl,rfl⟩⟩
 cases hg:o.guard with
 | none =>
  rw [hg] at h
  exact done (by simp [Region.wanted,hg]) h
 | some x =>
  obtain ⟨j,want⟩:=x
  rw [hg] at h
  simp only at h
  cases hj:(ops[j]?).bind (·.dst) with
  | none=>rw [hj] at h;cases h
  | some t =>
   rw [hj] at h
   simp only [PM.run] at h
   have uE:t<nt:=by
    cases gH:ops[j]? with
    | none=>rw [gH] at hj;cases hj
    | some oj=>rw [gH] at hj;exact zIi (yT j oj gH) t hj
   have yj:t<zAb:=Nat.lt_of_lt_of_le uE (Nat.le_trans S.small (by decide))
   have hI:=S.conf.rep t
   rw [S.env t yj] at hI
   have htm:a.tmps[t]? = some (rv t):=by
    have h1:=S.tmps t uE
    have h2:t<a.tmps.size:=by rw [S.size];exact uE
    rw [Array.getElem?_eq_getElem h2]
    simp only [Array.getD,h2,dite_true] at h1
    rw [← h1];rfl
   have kB:yielded ops a.tmps j=match rv t with | .bool b=>some b | _=>none:=by
    simp only [yielded,hj,Option.bind_some,htm]
    cases rv t<;>rfl
   revert h
   cases hp:e.get t<;>intro h<;>try (cases h;done)
   case bool b =>
    simp only at h
    have yC:rv t = .bool b:=by rw [hp] at hI;exact hI.1
    rw [yC] at kB
    simp only at kB
    split at h
    ·rename_i gI
     subst gI
     exact done (by simp [Region.wanted,hg,kB]) h
    ·rename_i gI
     exact skip (by simp [Region.wanted,hg,kB,gI]) h
   case und =>
    have yC:rv t=undef:=by rw [hp] at hI;exact hI.1
    rw [yC] at kB
    exact skip (by simp only [Region.wanted,hg,kB];rfl) h
theorem Fr.drop (hf:Fr w0 U Φ0 nt hv a w e) (l:List Nat):Fr w0 U Φ0 nt hv a w (e.drop l):=by
 obtain ⟨Φ,rv,E,L,S,hb⟩:=hf
 have hc:=S.conf.drop (fun s=>decide (s<zAb)&&zMv l s)
 refine ⟨Φ,rv,_,_,S.turn hc (fun s hs=>?_) (fun _ _=>rfl) (fun d ps hd hp=>?_),fun g hg=>?_⟩
 ·rw [Env.get_drop,S.env s hs];simp [hs]
 ·by_cases h:(decide (d<zAb)&&zMv l d)=true
  ·simp only [h,if_true] at hp;cases hp
  ·simp only [h] at hp;exact ⟨ps,hp,rfl⟩
 ·have:¬ g<zAb:=by omega
  simp [this,hb g hg]
end
end Go.Eng
namespace Go.Eng
open Go
section
variable {w0 w w' w1 w2:World} {U Φ0 Φ U1 Φ1 U2 Φ2:Nat→Prop} {nt:Nat} {hv:Hid} {a:Act} {e e':Env} {rv rv':Nat→Value} {E E':Nat→PV} {L L':Nat→List Nat}
theorem zBf {α:Type} {b:Bool} {x y:Option α} {r:α} (h:(bif b then x else y)=some r):(b=true∧x=some r)∨(b=false∧y=some r):=by
 cases b with
 | true=>exact .inl ⟨rfl,h⟩
 | false=>exact .inr ⟨rfl,h⟩
theorem zIb:∀ (p:PV),(zA0 p).heavy=false:=by
 intro p
 induction p using PV.rec (motive_2:=fun ps=>zC3 (zAo ps)=false) (motive_3:=fun _=>True) (motive_4:=fun _=>True)<;>first | trivial | rfl | skip
 all_goals simp_all [zA0,zAo,PV.heavy,zC3]
mutual
theorem zKh {f:PV→PV} (hf:∀ a,a.isWay=true→(f a).heavy=false):∀ (p:PV),p.heavy=false→(p.mapW f).heavy=false
 | .agg cs,h=>zGK hf cs h
 | .tup cs,h=>zGK hf cs h
 | .addr ..,_=>hf _ rfl
 | .bor ..,_=>hf _ rfl
 | .bsl ..,_=>hf _ rfl
 | .bmap ..,_=>hf _ rfl
 | .log ..,_=>hf _ rfl
 | .own ..,h=>h
 | .box _,h=>by cases h
 | .omap _,h=>h
 | .lock _,h=>by cases h
 | .bad,h=>h
 | .und,h=>h
 | .int ..,h=>h
 | .bool _,h=>h
 | .nilp,h=>h
 | .nilf,h=>h
 | .nilm,h=>h
 | .nn,h=>h
 | .nils _,h=>h
 | .sl _,h=>h
 | .ref _,h=>rfl
 | .map _,h=>h
 | .func ..,h=>rfl
 | .yld _,h=>h
theorem zGK {f:PV→PV} (hf:∀ a,a.isWay=true→(f a).heavy=false):∀ (ps:List PV),zC3 ps=false→zC3 (zCK f ps)=false
 | [],h=>h
 | p::ps,h=>by
  simp only [zC3,Bool.or_eq_false_iff] at h
  simp only [zCK,zC3,zKh hf p h.1,zGK hf ps h.2,Bool.or_self]
end
theorem zQA (r:Nat) (pre:zAS) (q0:PV):∀ a:PV,a.isWay=true→(inl r pre q0 a).heavy=false:=by
 have at_:∀ {q:Option PV} {g:PV→PV},(∀ x,(g x).heavy=false)→(zHV q g).heavy=false:=by
  intro q g h;cases q<;>first | rfl | exact h _
 have h1:∀ i c sh x,(zDB i c sh x).heavy=false:=by
  intro i c sh x
  simp only [zDB]
  repeat' split
  all_goals first | rfl | (cases (_:Bool)<;>rfl) | skip
  all_goals (rename_i h;revert h;intro _)
  all_goals first | (generalize (Nat.ble _ _&&_)=b;cases b<;>rfl) | (generalize PV.oneCell _=b;cases b<;>rfl)
 have h2:∀ lo n x,(zDi lo n x).heavy=false:=by
  intro lo n x
  simp only [zDi]
  split
  ·generalize Nat.ble _ _=b;cases b<;>rfl
  ·rfl
 have h3:∀ i c sz ag m x,(zCp i c sz ag m x).heavy=false:=by
  intro i c sz ag m x
  simp only [zCp]
  repeat' split
  all_goals first | rfl | skip
  generalize (zCg _ _ _ _&&_)=b;cases b<;>rfl
 have h4:∀ x,(zEL x).heavy=false:=by intro x;cases x<;>rfl
 intro a ha
 cases a<;>first | (cases ha;done) | skip
 case addr=>simp only [inl];generalize zAQ _ _ _ _=b;cases b<;>first | rfl | exact at_ (h1 _ _ _)
 case bor=>simp only [inl];generalize zAQ _ _ _ _=b;cases b<;>first | rfl | exact at_ (h2 _ _)
 case bsl=>simp only [inl];generalize zAQ _ _ _ _=b;cases b<;>first | rfl | exact at_ (h3 _ _ _ _ _)
 case bmap=>simp only [inl];generalize zAQ _ _ _ _=b;cases b<;>first | rfl | exact at_ h4
 case log=>rfl
theorem zJj:∀ (R:List Nat) {e ef:Env} {Φ:Nat→Prop} {E:Nat→PV} {L:Nat→List Nat},St w0 U Φ0 nt hv a w e Φ rv E L→zBw E→zEj R e=some ef →
  ∃ Φ' E' L',St w0 U Φ0 nt hv a w ef Φ' rv E' L'∧zBw E'∧(∀ b,Φ b→Φ' b)∧(∀ b,Φ' b→Φ b∨∃ r∈R,b∈L r)∧(∀ r∈R,∀ b∈L r,Φ' b)∧∀ s,∀ b∈L' s,b∈L s
 | [],e,ef,Φ,E,L,S,hb,h=>by
  simp only [zEj,Option.some.injEq] at h;subst h
  exact ⟨Φ,E,L,S,hb,fun _ h=>h,fun _ h => .inl h,fun _ h=>(by cases h),fun _ _ h=>h⟩
 | r :: R, e,ef,Φ,E,L,S,hb,h=>by
  simp only [zEj] at h
  rcases zBf h with ⟨hr,h⟩ | ⟨_,h⟩
  ·have hr:=zBY hr
   cases hf:e.frz r [] with
   | none=>rw [hf] at h;cases h
   | some e1 =>
    rw [hf] at h;simp only at h
    obtain ⟨q0,root,hl,hn,hm,yT⟩:=Env.frz_eq hf
    have yG:=zBA hl
    have hE:=S.env r hr
    obtain ⟨k1,k2⟩:=zBJ (zE4 q0).1 (zE4 q0).2 hm
    obtain ⟨nv,Li,L1,h1,h2,h3,h4⟩:=S.conf.ice (fun _=>false) hr (pre:=[]) (q:=q0) (root':=root) (by rw [hE];exact yG) (by rw [hE];exact hn) (by rw [hE];exact hm) k1
    have hq:q0=E r:=by simp only [zAC,Option.some.injEq] at hn;rw [hE,hn]
    have kh:root=zA0 q0:=by simp only [zAv,Option.some.injEq] at hm;exact hm.symm
    have uJ:Li=L r:=by
     simp only [zAU,Option.some.injEq,Prod.mk.injEq] at h1
     rw [← h1.1,hq] at h2
     exact Rep.uniq _ _ _ _ h2 (by rw [show E r=(E r).unlock from (by rw [hE];exact yG.symm)];exact zBZ (S.conf.rep r))
    have hL1r:L1 r=[]:=by
     have:=h4.rep r
     simp only [hr,true_or,if_true] at this
     refine zDl _ _ _ ?_ this
     rw [kh]
     have hh:=zIb q0
     exact zKh (zQA r [] q0) _ hh
    have S1:St w0 U Φ0 nt hv a w e1 (fun b=>Φ b∨b∈Li) rv (fun s=>if s<zAb∨False then (if s=r then root else E s).mapW (inl r [] q0) else E s) L1:=by
     refine S.turn (by simpa using h4) (fun s hs=>?_) (fun _ _=>rfl) (fun d ps hd hp=>?_)
     ·simp only [hs,true_or,if_true]
      rw [yT s]
      by_cases yV:s=r
      ·subst yV;simp
      ·rw [if_neg yV,if_neg yV,S.env s hs]
     ·have uc:d<zAb:=by simp only [zAb];omega
      simp only [uc,true_or,if_true] at hp
      obtain ⟨ps',h5,h6⟩:=zDS (zPX r [] q0) hp
      by_cases jn:d=r
      ·rw [if_pos jn] at h5;rw [h5] at k2;cases k2
      ·rw [if_neg jn] at h5;exact ⟨ps',h5,h6⟩
    have yX:zBw fun s=>if s<zAb∨False then (if s=r then root else E s).mapW (inl r [] q0) else E s:=by
     intro g hg
     have:¬ g<zAb:=by omega
     simp [this,hb g hg]
    obtain ⟨Φ',E',L',g1,g2,g3,g4,g5,g6⟩:=zJj R S1 yX h
    have y9:∀ s,∀ b∈L1 s,b∈L s:=by
     intro s b uQ
     by_cases yV:s=r
     ·subst yV;rw [hL1r] at uQ;cases uQ
     ·rw [h3 s yV] at uQ;exact uQ
    refine ⟨Φ',E',L',g1,g2,fun b hb=>g3 b (.inl hb),fun b hb=>?_,fun t ht b kV=>?_,fun s b uQ=>y9 s b (g6 s b uQ)⟩
    ·rcases g4 b hb with (h5 | h5) | ⟨t,ht,h5⟩
     ·exact .inl h5
     ·exact .inr ⟨r,by simp,by rw [← uJ];exact h5⟩
     ·exact .inr ⟨t,by simp [ht],y9 t b h5⟩
    ·by_cases htr:t=r
     ·subst htr;exact g3 b (.inr (by rw [uJ];exact kV))
     ·rcases List.mem_cons.1 ht with h5 | h5
      ·exact absurd h5 htr
      ·exact g5 t h5 b (by rw [h3 t htr];exact kV)
  ·cases h
theorem Fr.ice {R:List Nat} (hf:Fr w0 U Φ0 nt hv a w e):Fr w0 U Φ0 nt hv a w (zUm R e):=by
 simp only [zUm]
 cases h:zEj R e with
 | none=>exact hf
 | some ef =>
  obtain ⟨Φ,rv,E,L,S,hb⟩:=hf
  obtain ⟨Φ',E',L',S',yF,_⟩:=zJj R S hb h
  exact ⟨Φ',rv,E',L',S',yF⟩
end
end Go.Eng
namespace Go.Eng
open Go
theorem zDZ {r:Nat} {pre:zAS} {p:PV} (h:∀ x∈p.ways,zAQ r pre x.1 x.2=false):p.mapW (lose r pre)=p:=by
 refine zDK p (fun a ha hw hn=>?_) (fun _ _=>rfl)
 have hx:∀ x,a.ways=[x]→zAQ r pre x.1 x.2=false:=fun x hx=>h x (hw x (by rw [hx];simp))
 cases a<;>first | (cases ha;done) | (exact absurd rfl (hn _ _)) | skip
 case addr r' q i c sh=>have:=hx _ rfl;simp only [zAQ] at this;simp only [lose,this];rfl
 case bor r' q z lo n=>have:=hx _ rfl;simp only [zAQ] at this;simp only [lose,this];rfl
 case bsl r' q i c sz ag n=>have:=hx _ rfl;simp only [zAQ] at this;simp only [lose,this];rfl
 case bmap r' q=>have:=hx _ rfl;simp only [zAQ] at this;simp only [lose,this];rfl
theorem zCy {r:Nat} {keep:List zAS} {p:PV} (h:∀ x∈p.ways,(Nat.beq x.1 r && !x.2.isEmpty)=false):p.mapW (zBF r keep)=p:=by
 refine zDK p (fun a ha hw hn=>?_) (fun _ _=>rfl)
 have hx:∀ x,a.ways=[x]→(Nat.beq x.1 r && !x.2.isEmpty)=false:=fun x hx=>h x (hw x (by rw [hx];simp))
 have key:∀ r' (q:zAS),(Nat.beq r' r && !q.isEmpty)=false→(Nat.beq r' r && !(q.isEmpty||keep.any q.isPrefixOf))=false:=by
  intro r' q h
  cases hb:Nat.beq r' r with
  | false=>rfl
  | true=>rw [hb] at h;simp only [Bool.true_and,Bool.not_eq_false'] at h ⊢;rw [h];rfl
 cases a<;>first | (cases ha;done) | (exact absurd rfl (hn _ _)) | skip
 case addr r' q i c sh=>simp only [zBF,key _ _ (hx _ rfl)];rfl
 case bor r' q z lo n=>simp only [zBF,key _ _ (hx _ rfl)];rfl
 case bsl r' q i c sz ag n=>simp only [zBF,key _ _ (hx _ rfl)];rfl
 case bmap r' q=>simp only [zBF,key _ _ (hx _ rfl)];rfl
theorem zFN {r:Nat} {pre:zAS} {q0 p:PV} (h:∀ x∈p.ways,zAQ r pre x.1 x.2=false):p.mapW (inl r pre q0)=p:=by
 refine zDK p (fun a ha hw hn=>?_) (fun _ _=>rfl)
 have hx:∀ x,a.ways=[x]→zAQ r pre x.1 x.2=false:=fun x hx=>h x (hw x (by rw [hx];simp))
 cases a<;>first | (cases ha;done) | (exact absurd rfl (hn _ _)) | rfl | skip
 case addr r' q i c sh=>have:=hx _ rfl;simp only [inl,this];rfl
 case bor r' q z lo n=>have:=hx _ rfl;simp only [inl,this];rfl
 case bsl r' q i c sz ag n=>have:=hx _ rfl;simp only [inl,this];rfl
 case bmap r' q=>have:=hx _ rfl;simp only [inl,this];rfl
theorem zHB {x q q':PV} {c:Nat} (hq:x.cells[c]? = some q) (hg:q'.isAgg=q.isAgg∨q'.isAgg=false):(zAB x c [q']).cells=x.cells.set c q':=by
 rcases hg with hg | hg
 ·exact zLZ hq hg
 ·cases hx:x.isAgg with
  | true =>
   cases x<;>simp [PV.isAgg] at hx
   rename_i cs
   have hc:c<cs.length:=(List.getElem?_eq_some_iff.1 hq).1
   show cs.take c++[q']++cs.drop (c+1)=cs.set c q'
   rw [List.set_eq_take_append_cons_drop,if_pos hc];simp
  | false =>
   have j2:x.cells=[x]:=by cases x<;>first | rfl | simp [PV.isAgg] at hx
   rw [j2] at hq ⊢
   have hc:c=0:=by have:=(List.getElem?_eq_some_iff.1 hq).1;simp at this;exact this
   subst hc
   have he:zAB x 0 [q']=q':=by cases x<;>first | rfl | simp [PV.isAgg] at hx
   rw [he]
   cases q'<;>first | rfl | simp [PV.isAgg] at hg
theorem zG9 {p q q' p':PV} {i c:Nat} (hc:Eng.child p i c=some q) (hp:zBU p i c q'=some p') :
  ∃ xs x,zAY p=some xs∧xs[i]? = some x∧x.cells[c]? = some q∧zAY p'=some (xs.set i (zAB x c [q']))∧((∃ sz,p = .own sz xs∧p' = .own sz (xs.set i (zAB x c [q'])))∨(∃ y,p = .box y∧i=0∧x=y∧p' = .box (zAB y c [q']))∨∃ cs,p = .agg cs∧i=0∧x = .agg cs∧p' = .agg (cs.take c++[q']++cs.drop (c+1))):=by
 simp only [Eng.child] at hc
 simp only [zBU] at hp
 cases hh:zAY p with
 | none=>rw [hh] at hc;cases hc
 | some xs =>
  rw [hh] at hc hp;simp only [Option.bind_some] at hc hp
  cases hx:xs[i]? with
  | none=>rw [hx] at hc;cases hc
  | some x =>
   rw [hx] at hc hp;simp only [Option.bind_some] at hc hp
   have hi:i<xs.length:=(List.getElem?_eq_some_iff.1 hx).1
   refine ⟨xs,x,rfl,hx,hc,?_⟩
   cases p<;>simp only [zAY] at hh<;>try cases hh
   ·rename_i cs
    have jr:i=0:=by simpa using hi
    subst jr
    simp only [List.getElem?_cons_zero,Option.some.injEq] at hx;subst hx
    simp only [zAB,List.set_cons_zero,zAy,Option.some.injEq] at hp ⊢
    subst hp;refine ⟨?_,.inr (.inr ⟨cs,?_⟩)⟩<;>first | (simp [zAY];done) | rfl | exact ⟨rfl,rfl⟩ | exact ⟨rfl,rfl,rfl,rfl⟩
   ·rename_i sz
    simp only [zAy,Option.some.injEq] at hp
    subst hp;refine ⟨?_,.inl ⟨sz,?_⟩⟩<;>first | (simp [zAY];done) | rfl | exact ⟨rfl,rfl⟩ | exact ⟨rfl,rfl,rfl,rfl⟩
   ·rename_i q0
    have jr:i=0:=by simpa using hi
    subst jr
    simp only [List.getElem?_cons_zero,Option.some.injEq] at hx;subst hx
    simp only [List.set_cons_zero,zAy,Option.some.injEq] at hp ⊢
    subst hp;refine ⟨?_,.inr (.inl ⟨q0,?_⟩)⟩<;>first | (simp [zAY];done) | rfl | exact ⟨rfl,rfl⟩ | exact ⟨rfl,rfl,rfl,rfl⟩
theorem zPq {p q q' p':PV} {i c:Nat} (hc:Eng.child p i c=some q) (hg:q'.isAgg=q.isAgg∨q'.isAgg=false) (hp:zBU p i c q'=some p') :
  Eng.child p' i c=some q'∧∀ i2 c2,(i2,c2)≠(i,c)→Eng.child p' i2 c2=Eng.child p i2 c2:=by
 obtain ⟨xs,x,hh,hx,hcx,qk,_⟩:=zG9 hc hp
 have yU:=zHB hcx hg
 have hi:i<xs.length:=(List.getElem?_eq_some_iff.1 hx).1
 have yP:c<x.cells.length:=(List.getElem?_eq_some_iff.1 hcx).1
 refine ⟨?_,fun i2 c2 hH=>?_⟩
 ·simp only [Eng.child,qk,Option.bind_some,List.getElem?_set_self hi,yU,List.getElem?_set_self yP]
 ·simp only [Eng.child,qk,hh,Option.bind_some]
  by_cases kU:i2=i
  ·subst kU
   rw [List.getElem?_set_self hi,hx];simp only [Option.bind_some,yU]
   rw [List.getElem?_set_ne (by intro e;exact hH (by rw [e]))]
  ·rw [List.getElem?_set_ne (by omega)]
theorem zMn (r:Nat) (pre:zAS) (a:PV):zGA r pre (.box a) = .addr r pre 0 0 (if a.isAgg then some a.cells.length else none):=by
 cases a<;>rfl
theorem zEA {p q:PV} (h:zCi p q=true) (r:Nat) (pre:zAS):zGA r pre p=zGA r pre q:=by
 cases p<;>cases q<;>simp only [zCi] at h<;>try (cases h;done)
 ·simp only [Bool.and_eq_true] at h
  have h1:=Nat.eq_of_beq_eq_true h.1
  have h2:=Nat.eq_of_beq_eq_true h.2
  subst h1
  simp only [zGA,h2]
 ·rename_i a b
  simp only [Bool.and_eq_true,beq_iff_eq] at h
  have h2:=Nat.eq_of_beq_eq_true h.2
  have h3:=h.1
  rw [zMn,zMn,h3,h2]
 ·rfl
theorem zSV {v:PV} (hv:v.isAgg=false):∀ (P:zAS) (x q':PV),P≠[]→zAv (fun _=>some v) x P=some q'→x.isAgg=false→zCi x q'=true
 | [],_,_,hn,_,_=>absurd rfl hn
 | (i, c) :: P,x,q',_,h,hx=>by
  rw [zBp] at h
  cases hc:Eng.child x i c with
  | none=>rw [hc] at h;cases h
  | some y =>
   rw [hc] at h;simp only [Option.bind_some] at h
   cases hm:zAv (fun _=>some v) y P with
   | none=>rw [hm] at h;cases h
   | some y' =>
    rw [hm] at h;simp only [Option.bind_some] at h
    obtain ⟨xs,z,_,hz,kE,_,⟨sz,rfl,rfl⟩ | ⟨w,rfl,rfl,rfl,rfl⟩ | ⟨cs,rfl,_⟩⟩:=zG9 hc h
    ·simp [zCi]
    ·have ug:y'.isAgg=y.isAgg∨y'.isAgg=false:=by
      cases P with
      | nil=>simp only [zAv,Option.some.injEq] at hm;subst hm;exact .inr hv
      | cons a P =>
       rw [zBp] at hm
       cases jJ:Eng.child y a.1 a.2 with
       | none=>rw [jJ] at hm;cases hm
       | some y2 =>
        rw [jJ] at hm;simp only [Option.bind_some] at hm
        cases vU:zAv (fun _=>some v) y2 P with
        | none=>rw [vU] at hm;cases hm
        | some y3=>rw [vU] at hm;simp only [Option.bind_some] at hm;exact .inl (zDX hm)
     have yU:=zHB kE ug
     simp only [zCi,yU,List.length_set,Nat.beq_refl,Bool.and_true,beq_iff_eq]
     cases kC:z.isAgg with
     | true=>cases z<;>first | (cases kC;done) | rfl
     | false =>
      have j2:z.cells=[z]:=by cases z<;>first | rfl | simp [PV.isAgg] at kC
      rw [j2] at kE
      have vb:c=0:=by have:=(List.getElem?_eq_some_iff.1 kE).1;simp at this;exact this
      subst vb
      simp at kE;subst kE
      have he:zAB z 0 [y']=y':=by cases z<;>first | rfl | simp [PV.isAgg] at kC
      rw [he]
      rcases ug with h | h
      ·rw [h,kC]
      ·rw [h]
    ·cases hx
theorem zD9 {r i:Nat} {pre:zAS}:∀ (l1 l2:List PV) (k:Nat),(∀ (j:Nat) (nm:zAS),(l1[j]?).map (zGA r nm)=(l2[j]?).map (zGA r nm))→zBN r pre i k l1=zBN r pre i k l2
 | [],[],_,_=>rfl
 | [],y::ys,_,h=>by have:=h 0 [];simp at this
 | x::xs,[],_,h=>by have:=h 0 [];simp at this
 | x::xs,y::ys,k,h=>by
  have h0:=h 0 (pre++[(i,k)])
  simp only [List.getElem?_cons_zero,Option.map_some,Option.some.injEq] at h0
  simp only [zBN,h0]
  rw [zD9 xs ys (k+1) fun j nm=>by have:=h (j+1) nm;simpa using this]
theorem zQ4 {s:Nat} {p q:PV} (h:zCi p q=true):view s p=view s q:=by
 have:=zEA h s []
 cases p<;>cases q<;>simp only [zCi] at h<;>first | (cases h;done) | exact this
theorem zUn {v:PV} (hv:v.isAgg=false):∀ (P:zAS) (x x':PV),zAv (fun _=>some v) x P=some x'→x'.isAgg=x.isAgg∨x'.isAgg=false
 | [],x,x',h=>by simp only [zAv,Option.some.injEq] at h;subst h;exact .inr hv
 | (i,c)::P,x,x',h=>by
  rw [zBp] at h
  cases jJ:Eng.child x i c with
  | none=>rw [jJ] at h;cases h
  | some y2 =>
   rw [jJ] at h;simp only [Option.bind_some] at h
   cases vU:zAv (fun _=>some v) y2 P with
   | none=>rw [vU] at h;cases h
   | some y3=>rw [vU] at h;simp only [Option.bind_some] at h;exact .inl (zDX h)
theorem zHo {s:Nat} {F:PV→Option PV} {P:zAS} {p q:PV} (h:zAv F p P=some q) (hk:zAM p q P=true):view s p=view s q:=by
 by_cases ha:(∃ cs,p = .agg cs)∧(∃ ds,q = .agg ds)∧P≠[]
 ·obtain ⟨⟨cs,rfl⟩,⟨ds,rfl⟩,hP⟩:=ha
  match P,hP with
  | (i, c)::rest,_ =>
   rw [zBp] at h
   cases hc:Eng.child (.agg cs) i c with
   | none=>rw [hc] at h;cases h
   | some x =>
    rw [hc] at h;simp only [Option.bind_some] at h
    cases hm:zAv F x rest with
    | none=>rw [hm] at h;cases h
    | some x' =>
     rw [hm] at h;simp only [Option.bind_some] at h
     obtain ⟨xs,z,hh,hz,kE,qk,⟨sz,h1,_⟩ | ⟨w,h1,_⟩ | ⟨cs',h1,rfl,rfl,h2⟩⟩:=zG9 hc h
     ·cases h1
     ·cases h1
     ·cases h1
      have kE:cs[c]? = some x:=kE
      have yP:c<cs.length:=(List.getElem?_eq_some_iff.1 kE).1
      have yU:cs.take c++[x']++cs.drop (c+1)=cs.set c x':=by rw [List.set_eq_take_append_cons_drop,if_pos yP];simp
      simp only [PV.agg.injEq] at h2
      rw [yU] at h2;subst h2
      simp only [zAM,kE,List.getElem?_set_self yP] at hk
      show PV.agg _=PV.agg _
      congr 1
      refine zD9 _ _ _ fun j nm=>?_
      by_cases hj:c=j
      ·subst hj
       rw [List.getElem?_set_self yP,kE];simp only [Option.map_some];rw [zEA hk]
      ·rw [List.getElem?_set_ne hj]
 ·have:zAM p q P=zCi p q:=by
   cases p<;>cases q<;>first | rfl | skip
   cases P with
   | nil=>rfl
   | cons a P=>exact absurd ⟨⟨_,rfl⟩,⟨_,rfl⟩,by simp⟩ ha
  rw [this] at hk
  exact zQ4 hk
def zRq (r:Nat) (nm:zAS) (p:PV) (Q:zAS) (i c n:Nat):Option (Bool×List PV) :=
 match zAC p Q with
 | some q=>match zA9 q with
  | some xs=>match xs[i]? with
   | some x=>bif Nat.ble (c+n) x.cells.length then some (x.isAgg,zBN r nm i c ((x.cells.drop c).take n)) else none
   | none=>none
  | none=>none
 | none=>none
theorem zHU {v:PV} (hv:v.isAgg=false) {r:Nat} {nm:zAS} {i c n:Nat}:∀ (P Q:zAS) (p p':PV),zAv (fun _=>some v) p P=some p' →
  ((P.isPrefixOf Q=false∧∀ x,zAC p P=some x→zCi x v=true)∨(P≠[]∧P.dropLast.isPrefixOf Q=false))→zRq r nm p' Q i c n=zRq r nm p Q i c n
 | [],Q,p,p',h,hc=>by
  rcases hc with hc | hc
  ·simp at hc
  ·exact absurd rfl hc.1
 | (i0, c0) :: P,Q,p,p',h,qW=>by
  rw [zBp] at h
  cases hc:Eng.child p i0 c0 with
  | none=>rw [hc] at h;cases h
  | some x =>
   rw [hc] at h;simp only [Option.bind_some] at h
   cases hm:zAv (fun _=>some v) x P with
   | none=>rw [hm] at h;cases h
   | some x' =>
    rw [hm] at h;simp only [Option.bind_some] at h
    have hg:=zUn hv P x x' hm
    obtain ⟨yi,vC⟩:=zPq hc hg h
    cases Q with
    | cons y Q =>
     obtain ⟨j,d⟩:=y
     simp only [zRq,zB6]
     by_cases hjd:(j,d)=(i0,c0)
     ·cases hjd
      rw [yi,hc];simp only [Option.bind_some]
      refine zHU hv P Q x x' hm ?_
      rcases qW with ⟨h1,h2⟩ | ⟨_,h2⟩
      ·refine .inl ⟨by simpa using h1,fun y hy=>h2 y (by rw [zB6,hc];exact hy)⟩
      ·cases P with
       | nil=>simp at h2
       | cons a P=>exact .inr ⟨by simp,by simpa using h2⟩
     ·rw [vC j d hjd]
    | nil =>
     have hview:∀ nm,zGA r nm x'=zGA r nm x:=by
      intro nm
      have yy:zCi x x'=true→zGA r nm x'=zGA r nm x:=fun h=>(zEA h r nm).symm
      cases P with
      | nil =>
       simp only [zAv,Option.some.injEq] at hm;subst hm
       rcases qW with ⟨_,h2⟩ | ⟨_,h2⟩
       ·exact yy (h2 x (by rw [zB6,hc];rfl))
       ·simp at h2
      | cons a P =>
       cases hx:x.isAgg with
       | false=>exact yy (zSV hv _ x x' (by simp) hm hx)
       | true =>
        have uH:x'.isAgg=true:=by
         rw [zBp] at hm
         cases jJ:Eng.child x a.1 a.2 with
         | none=>rw [jJ] at hm;cases hm
         | some y2 =>
          rw [jJ] at hm;simp only [Option.bind_some] at hm
          cases vU:zAv (fun _=>some v) y2 P with
          | none=>rw [vU] at hm;cases hm
          | some y3=>rw [vU] at hm;simp only [Option.bind_some] at hm;rw [zDX hm,hx]
        cases x<;>first | (cases hx;done) | skip
        cases x'<;>first | (cases uH;done) | rfl
     obtain ⟨xs,z,hh,hz,kE,qk,hform⟩:=zG9 hc h
     have yU:=zHB kE hg
     have yP:c0<z.cells.length:=(List.getElem?_eq_some_iff.1 kE).1
     have kg:(zAB z c0 [x']).isAgg=z.isAgg:=by
      cases kC:z.isAgg with
      | true=>cases z<;>first | (cases kC;done) | rfl
      | false =>
       have j2:z.cells=[z]:=by cases z<;>first | rfl | simp [PV.isAgg] at kC
       rw [j2] at kE
       have vb:c0=0:=by have:=(List.getElem?_eq_some_iff.1 kE).1;simp at this;exact this
       subst vb
       simp at kE;subst kE
       have he:zAB z 0 [x']=x':=by cases z<;>first | rfl | simp [PV.isAgg] at kC
       rw [he]
       rcases hg with h | h
       ·rw [h,kC]
       ·exact h
     have hvc:zBN r nm i c (((zAB z c0 [x']).cells.drop c).take n)=zBN r nm i c ((z.cells.drop c).take n):=by
      rw [yU]
      refine zD9 _ _ _ fun j nm=>?_
      simp only [List.getElem?_take,List.getElem?_drop]
      split
      ·by_cases hj:c0=c+j
       ·subst hj
        rw [List.getElem?_set_self yP,kE];simp only [Option.map_some,hview]
       ·rw [List.getElem?_set_ne hj]
      ·rfl
     have elem:(match (xs.set i0 (zAB z c0 [x']))[i]? with | some x=>bif Nat.ble (c+n) x.cells.length then some (x.isAgg,zBN r nm i c ((x.cells.drop c).take n)) else none | none=>none) =
       (match xs[i]? with | some x=>bif Nat.ble (c+n) x.cells.length then some (x.isAgg,zBN r nm i c ((x.cells.drop c).take n)) else none | none=>none):=by
      have hi:i0<xs.length:=(List.getElem?_eq_some_iff.1 hz).1
      by_cases kU:i0=i
      ·subst kU
       rw [List.getElem?_set_self hi,hz];simp only
       rw [hvc,kg,yU,List.length_set]
      ·rw [List.getElem?_set_ne kU]
     simp only [zRq,zAC]
     rcases hform with ⟨sz,rfl,rfl⟩ | ⟨w,rfl,rfl,rfl,rfl⟩ | ⟨cs,rfl,rfl,rfl,rfl⟩
     ·simp only [zA9];exact elem
     ·simp only [zAY,Option.some.injEq] at hh;subst hh
      simp only [zA9];simpa using elem
     ·simp only [zA9]
abbrev zCM:=Nat→PV
def PM.does (o:zAF):PM→zCM→Tok→zCM→Prop
 | .ok,g,t,g'=>t={}∧g'=g
 | .fail,_,_,_=>False
 | .view s k,g,t,g'=>∃ t',t=Tok.join {look:=[s]} t'∧(k (Eng.view s (g s))).does o g t' g'
 | .get s k,g,t,g'=>(g s).isLock=false∧∃ t',t=Tok.join {rd:=[s]} t'∧(k (g s)).does o g t' g'
 | .set s p k,g,t,g'=>∃ t',t=Tok.join (zFo s (g s) p) t'∧k.does o (upd g s p) t' g'
 | .cells r pre i c n k,g,t,g'=>∃ a qs t',zAH r (g r) pre i c n=some (a,qs)∧t=Tok.join {cel:=[(r,pre)]} t'∧(k a qs).does o g t' g'
 | .deep r pre k,g,t,g'=>∃ q t',zAC (g r).unlock pre=some q∧t=Tok.join {rd:=[r]} t'∧(k q).does o g t' g'
 | .wcells r pre i c qs k,g,t,g'=>∃ root t',zBL (g r) pre i c qs=some root∧t=Tok.join (zBd r [] (zAM (g r) root pre) (g r) root) t'∧k.does o (upd g r root) t' g'
 | .wnode r pre q k,g,t,g'=>(g r).isLock=false∧∃ root t',zAv (fun _=>some q) (g r) pre=some root ∧
   t=Tok.join (zBd r pre.dropLast (zAM (g r) root pre&&(pre.isEmpty || !q.isAgg)) (g r) root) t'∧k.does o (upd g r root) t' g'
 | .kill r pre k,g,t,g'=>∃ D t',(∀ s,s∉D→∀ x∈(g s).ways,zAQ r pre x.1 x.2=false)∧t=Tok.join (zAN D g (fun s=>(g s).mapW (lose r pre)) [r] []) t'∧k.does o (fun s=>(g s).mapW (lose r pre)) t' g'
 | .frz r pre k,g,t,g'=>(g r).isLock=false∧∃ D t' q root,(∀ s,s∉D→∀ x∈(g s).ways,zAQ r pre x.1 x.2=false)∧r∈D∧zAC (g r) pre=some q∧zAv (fun _=>some (zA0 q)) (g r) pre=some root ∧
   t=Tok.join (zAN D g (fun s=>(upd g r root s).mapW (inl r pre q)) [r] []) t'∧k.does o (fun s=>(upd g r root s).mapW (inl r pre q)) t' g'
 | .killEx r keep k,g,t,g'=>∃ D t',(∀ s,s∉D→∀ x∈(g s).ways,(Nat.beq x.1 r && !x.2.isEmpty)=false)∧t=Tok.join (zAN D g (fun s=>(g s).mapW (zBF r keep)) [] [r]) t'∧k.does o (fun s=>(g s).mapW (zBF r keep)) t' g'
 | .forget _ _,_,t,_=>t.all=true
 | .call f args hid k,g,t,g'=>∃ v hid',o f args hid=some (v,hid')∧(k v hid').does o g t g'
theorem zTv {a b:List Nat} {x:Nat} (ha:x∈a) (hb:x∈b):zRp a b=true:=List.any_eq_true.2 ⟨x,ha,List.any_eq_true.2 ⟨x,hb,Nat.beq_refl x⟩⟩
theorem zD0 {a b:List Nat} (h:zRp a b=false) {x:Nat} (ha:x∈a):x∉b:=fun hb=>by rw [zTv ha hb] at h;cases h
structure Off (a b:Tok):Prop where
 all:a.all=false
 look:∀ s∈a.wr,s∉b.look
 rd:∀ s∈a.wr,s∉b.rd
 cel:∀ s∈a.wr,∀ c∈b.cel,c.1≠s
 wr:∀ s∈a.wr,s∉b.wr
 inn:∀ s∈a.wr,∀ c∈b.inn,c.1≠s
 ird:∀ w∈a.inn,w.1∉b.rd
 iinn:∀ w∈a.inn,∀ c∈b.inn,c.1≠w.1
 icel:∀ w∈a.inn,∀ c∈b.cel,c.1=w.1→w.2.isPrefixOf c.2=false
 ways:∀ s∈a.kills,∀ x∈b.ways,x.1≠s
 waysIn:∀ s∈a.killsIn,∀ x∈b.ways,x.1=s→x.2.isEmpty=true
theorem zEh {l:List (Nat×zAS)} {x:Nat×zAS} (h:x∈l):x.1∈zMf l:=List.mem_map.2 ⟨x,h,rfl⟩
theorem zJ0 {a b:Tok} (h:zOv a b=false):Off a b:=by
 simp only [zOv,Bool.or_eq_false_iff] at h
 obtain ⟨⟨⟨⟨⟨⟨⟨⟨⟨⟨h1,h2⟩,h3⟩,h4⟩,h5⟩,h6⟩,h7⟩,h8⟩,h9⟩,h10⟩,h11⟩:=h
 refine ⟨h1,fun s hs=>zD0 h2 hs,fun s hs=>zD0 h3 hs,fun s hs c hc e=>?_,fun s hs=>zD0 h5 hs,fun s hs c hc e=>?_,fun w hw=>zD0 h7 (zEh hw),fun w hw c hc e=>?_,fun w hw c hc e=>?_,fun s hs x hx e=>?_,fun s hs x hx e=>?_⟩
 ·subst e;exact zD0 h4 hs (zEh hc)
 ·subst e;exact zD0 h6 hs (zEh hc)
 ·exact zD0 h8 (zEh hw) (by rw [← e];exact zEh hc)
 ·have:=List.any_eq_false.1 h9 w hw
  have:=(List.any_eq_false (p:=fun c:Nat×zAS=>Nat.beq w.1 c.1&&w.2.isPrefixOf c.2)).1 (by simpa using this) c hc
  simp only [e,Nat.beq_refl,Bool.true_and,Bool.not_eq_true] at this
  exact this
 ·subst e;exact zD0 h10 hs (zEh hx)
 ·cases he:x.2.isEmpty with
  | true=>rfl
  | false=>exact absurd (by rw [← e];exact zEh (List.mem_filter.2 ⟨hx,by rw [he];rfl⟩)) (zD0 h11 hs)
theorem Off.left {a a' b:Tok} (h:Off (Tok.join a a') b):Off a b:=by
 have ha:=h.all
 simp only [Tok.join,Bool.or_eq_false_iff] at ha
 exact ⟨ha.1,fun s hs=>h.look s (List.mem_append_left _ hs),fun s hs=>h.rd s (List.mem_append_left _ hs),fun s hs=>h.cel s (List.mem_append_left _ hs),fun s hs=>h.wr s (List.mem_append_left _ hs),fun s hs=>h.inn s (List.mem_append_left _ hs),
  fun s hs=>h.ird s (List.mem_append_left _ hs),fun s hs=>h.iinn s (List.mem_append_left _ hs),fun s hs=>h.icel s (List.mem_append_left _ hs),fun s hs=>h.ways s (List.mem_append_left _ hs),fun s hs=>h.waysIn s (List.mem_append_left _ hs)⟩
theorem Off.left' {a a' b:Tok} (h:Off (Tok.join a a') b):Off a' b:=by
 have ha:=h.all
 simp only [Tok.join,Bool.or_eq_false_iff] at ha
 exact ⟨ha.2,fun s hs=>h.look s (List.mem_append_right _ hs),fun s hs=>h.rd s (List.mem_append_right _ hs),fun s hs=>h.cel s (List.mem_append_right _ hs),fun s hs=>h.wr s (List.mem_append_right _ hs),fun s hs=>h.inn s (List.mem_append_right _ hs),
  fun s hs=>h.ird s (List.mem_append_right _ hs),fun s hs=>h.iinn s (List.mem_append_right _ hs),fun s hs=>h.icel s (List.mem_append_right _ hs),fun s hs=>h.ways s (List.mem_append_right _ hs),fun s hs=>h.waysIn s (List.mem_append_right _ hs)⟩
theorem Off.right {a b b':Tok} (h:Off a (Tok.join b b')):Off a b :=
 ⟨h.all,fun s hs hm=>h.look s hs (List.mem_append_left _ hm),fun s hs hm=>h.rd s hs (List.mem_append_left _ hm),fun s hs c hm=>h.cel s hs c (List.mem_append_left _ hm),fun s hs hm=>h.wr s hs (List.mem_append_left _ hm),fun s hs c hm=>h.inn s hs c (List.mem_append_left _ hm),
  fun s hs hm=>h.ird s hs (List.mem_append_left _ hm),fun s hs c hm=>h.iinn s hs c (List.mem_append_left _ hm),fun s hs c hm=>h.icel s hs c (List.mem_append_left _ hm),fun s hs x hm=>h.ways s hs x (List.mem_append_left _ hm),fun s hs x hm=>h.waysIn s hs x (List.mem_append_left _ hm)⟩
theorem Off.right' {a b b':Tok} (h:Off a (Tok.join b b')):Off a b' :=
 ⟨h.all,fun s hs hm=>h.look s hs (List.mem_append_right _ hm),fun s hs hm=>h.rd s hs (List.mem_append_right _ hm),fun s hs c hm=>h.cel s hs c (List.mem_append_right _ hm),fun s hs hm=>h.wr s hs (List.mem_append_right _ hm),fun s hs c hm=>h.inn s hs c (List.mem_append_right _ hm),
  fun s hs hm=>h.ird s hs (List.mem_append_right _ hm),fun s hs c hm=>h.iinn s hs c (List.mem_append_right _ hm),fun s hs c hm=>h.icel s hs c (List.mem_append_right _ hm),fun s hs x hm=>h.ways s hs x (List.mem_append_right _ hm),fun s hs x hm=>h.waysIn s hs x (List.mem_append_right _ hm)⟩
section
variable {o:zAF} {g g' g1 g2:zCM} {t:Tok} {s r:Nat}
theorem zDC:∀ {q:PM} {g g':zCM} {t:Tok},q.does o g t g'→t.all=false→s∉t.wr→(∀ c∈t.inn,c.1≠s)→g' s=g s:=by
 intro q
 induction q with
 | ok=>intro g g' t h _ _ _;rw [h.2]
 | fail=>intro g g' t h;cases h
 | view s0 k ih=>intro g g' t ⟨t',e,h⟩ ha hw hi;subst e;exact ih _ h ha hw hi
 | get s0 k ih=>intro g g' t ⟨_,t',e,h⟩ ha hw hi;subst e;exact ih _ h ha hw hi
 | set s0 p k ih =>
  intro g g' t ⟨t',e,h⟩ ha hw hi
  subst e
  simp only [Tok.join,zFo,List.mem_append,not_or,List.mem_singleton,Bool.false_or,List.nil_append] at ha hw hi
  rw [ih h ha hw.2 hi,zAf hw.1]
 | cells r0 pre i c n k ih=>intro g g' t ⟨a,qs,t',_,e,h⟩ ha hw hi;subst e;exact ih _ _ h ha hw hi
 | deep r0 pre k ih=>intro g g' t ⟨q,t',_,e,h⟩ ha hw hi;subst e;exact ih _ h ha hw hi
 | wcells r0 pre i c qs k ih =>
  intro g g' t ⟨root,t',_,e,h⟩ ha hw hi
  subst e
  have hH:s≠r0:=by
   rintro rfl
   cases hk:zAM (g s) root pre with
   | true=>exact hi (s,[]) (by simp [Tok.join,zBd,hk]) rfl
   | false=>exact hw (by simp [Tok.join,zBd,hk])
  rw [ih h (by simpa [Tok.join,zBd] using ha) (fun hm=>hw (List.mem_append_right _ hm)) (fun c hm=>hi c (List.mem_append_right _ hm)),zAf hH]
 | wnode r0 pre q k ih =>
  intro g g' t ⟨_,root,t',_,e,h⟩ ha hw hi
  subst e
  have hH:s≠r0:=by
   rintro rfl
   cases hk:(zAM (g s) root pre&&(pre.isEmpty || !q.isAgg)) with
   | true=>exact hi (s,pre.dropLast) (by simp only [Tok.join,zBd,hk];simp) rfl
   | false=>exact hw (by simp only [Tok.join,zBd,hk];simp)
  rw [ih h (by simpa [Tok.join,zBd] using ha) (fun hm=>hw (List.mem_append_right _ hm)) (fun c hm=>hi c (List.mem_append_right _ hm)),zAf hH]
 | kill r0 pre k ih =>
  intro g g' t ⟨D,t',hD,e,h⟩ ha hw hi
  subst e
  simp only [Tok.join,zAN,List.mem_append,not_or,Bool.false_or,List.nil_append] at ha hw hi
  rw [ih h ha hw.2 hi,zDZ (hD s hw.1)]
 | frz r0 pre k ih =>
  intro g g' t ⟨_,D,t',q,root,hD,hr,_,_,e,h⟩ ha hw hi
  subst e
  simp only [Tok.join,zAN,List.mem_append,not_or,Bool.false_or,List.nil_append] at ha hw hi
  rw [ih h ha hw.2 hi,zAf (by rintro rfl;exact hw.1 hr),zFN (hD s hw.1)]
 | killEx r0 pre k ih =>
  intro g g' t ⟨D,t',hD,e,h⟩ ha hw hi
  subst e
  simp only [Tok.join,zAN,List.mem_append,not_or,Bool.false_or,List.nil_append] at ha hw hi
  rw [ih h ha hw.2 hi,zCy (hD s hw.1)]
 | forget r0 k ih=>intro g g' t h ha;rw [show t.all=true from h] at ha;cases ha
 | call f args hid k ih=>intro g g' t ⟨v,hid',_,h⟩ ha hw hi;exact ih _ _ h ha hw hi
theorem zQN:∀ {q:PM} {g g':zCM} {t:Tok},q.does o g t g'→t.all=false→s∉t.wr→view s (g' s)=view s (g s):=by
 intro q
 induction q with
 | ok=>intro g g' t h _ _;rw [h.2]
 | fail=>intro g g' t h;cases h
 | view s0 k ih=>intro g g' t ⟨t',e,h⟩ ha hw;subst e;exact ih _ h ha hw
 | get s0 k ih=>intro g g' t ⟨_,t',e,h⟩ ha hw;subst e;exact ih _ h ha hw
 | set s0 p k ih =>
  intro g g' t ⟨t',e,h⟩ ha hw
  subst e
  simp only [Tok.join,zFo,List.mem_append,not_or,List.mem_singleton,Bool.false_or] at ha hw
  rw [ih h ha hw.2,zAf hw.1]
 | cells r0 pre i c n k ih=>intro g g' t ⟨a,qs,t',_,e,h⟩ ha hw;subst e;exact ih _ _ h ha hw
 | deep r0 pre k ih=>intro g g' t ⟨q,t',_,e,h⟩ ha hw;subst e;exact ih _ h ha hw
 | wcells r0 pre i c qs k ih =>
  intro g g' t ⟨root,t',hr,e,h⟩ ha hw
  subst e
  rw [ih h (by simpa [Tok.join,zBd] using ha) (fun hm=>hw (List.mem_append_right _ hm))]
  by_cases hH:s=r0
  ·subst hH
   rw [zAh]
   cases hk:zAM (g s) root pre with
   | false=>exact absurd (by simp [Tok.join,zBd,hk]) hw
   | true =>
    simp only [zBL] at hr
    revert hr
    cases (zDA (g s) pre && !(zBy qs).isEmpty) with
    | true=>intro hr;cases hr
    | false=>intro hr;exact (zHo hr hk).symm
  ·rw [zAf hH]
 | wnode r0 pre q k ih =>
  intro g g' t ⟨_,root,t',hr,e,h⟩ ha hw
  subst e
  rw [ih h (by simpa [Tok.join,zBd] using ha) (fun hm=>hw (List.mem_append_right _ hm))]
  by_cases hH:s=r0
  ·subst hH
   rw [zAh]
   cases hk:(zAM (g s) root pre&&(pre.isEmpty || !q.isAgg)) with
   | false=>exact absurd (by simp only [Tok.join,zBd,hk];simp) hw
   | true =>
    rw [Bool.and_eq_true] at hk
    exact (zHo hr hk.1).symm
  ·rw [zAf hH]
 | kill r0 pre k ih =>
  intro g g' t ⟨D,t',hD,e,h⟩ ha hw
  subst e
  simp only [Tok.join,zAN,List.mem_append,not_or,Bool.false_or] at ha hw
  rw [ih h ha hw.2,zDZ (hD s hw.1)]
 | frz r0 pre k ih =>
  intro g g' t ⟨_,D,t',q,root,hD,hr,_,_,e,h⟩ ha hw
  subst e
  simp only [Tok.join,zAN,List.mem_append,not_or,Bool.false_or] at ha hw
  rw [ih h ha hw.2,zAf (by rintro rfl;exact hw.1 hr),zFN (hD s hw.1)]
 | killEx r0 pre k ih =>
  intro g g' t ⟨D,t',hD,e,h⟩ ha hw
  subst e
  simp only [Tok.join,zAN,List.mem_append,not_or,Bool.false_or] at ha hw
  rw [ih h ha hw.2,zCy (hD s hw.1)]
 | forget r0 k ih=>intro g g' t h ha;rw [show t.all=true from h] at ha;cases ha
 | call f args hid k ih=>intro g g' t ⟨v,hid',_,h⟩ ha hw;exact ih _ _ h ha hw
theorem zMG {p:PV} (h:p.isLock=false):p.unlock=p:=by cases p<;>first | rfl | cases h
theorem zI6 {r:Nat} {p:PV} {pre:zAS} {i c n:Nat}:zAH r p pre i c n=zRq r pre p.unlock pre i c n:=rfl
theorem zJS {F:PV→Option PV} {p q:PV} {x:Nat×zAS} {pre:zAS} {i c:Nat} (h:zAv F p ((i,c)::pre)=some q):q.isLock=false:=by
 rw [zBp] at h
 cases hc:Eng.child p i c with
 | none=>rw [hc] at h;cases h
 | some y =>
  rw [hc] at h;simp only [Option.bind_some] at h
  cases hm:zAv F y pre with
  | none=>rw [hm] at h;cases h
  | some y' =>
   rw [hm] at h;simp only [Option.bind_some] at h
   obtain ⟨xs,z,_,hz,kE,_,⟨sz,rfl,rfl⟩ | ⟨w,rfl,rfl,rfl,rfl⟩ | ⟨cs,rfl,_,_,rfl⟩⟩:=zG9 hc h<;>rfl
theorem zJC {r:Nat} {q root p:PV} {pre Q:zAS} (hl:p.isLock=false) (hr:zAv (fun _=>some q) p pre=some root) (hk:(zAM p root pre&&(pre.isEmpty || !q.isAgg))=true) (hp:pre.dropLast.isPrefixOf Q=false) (i c n:Nat) :
  zAH r root Q i c n=zAH r p Q i c n:=by
 rw [zI6,zI6,zMG hl]
 cases pre with
 | nil=>simp at hp
 | cons x pre =>
  have hq:q.isAgg=false:=by
   rw [Bool.and_eq_true] at hk
   have:=hk.2
   simpa using this
  rw [zMG (zJS (x:=(0,[])) hr)]
  exact zHU hq _ _ _ _ hr (.inr ⟨by simp,hp⟩)
theorem zOZ {Q:zAS} {i c n:Nat}:∀ {q:PM} {g g':zCM} {t:Tok},q.does o g t g'→t.all=false→s∉t.wr→(∀ w∈t.inn,s=w.1→w.2.isPrefixOf Q=false)→zAH s (g' s) Q i c n=zAH s (g s) Q i c n:=by
 intro q
 induction q with
 | ok=>intro g g' t h _ _ _;rw [h.2]
 | fail=>intro g g' t h;cases h
 | view s0 k ih=>intro g g' t ⟨t',e,h⟩ ha hw hi;subst e;exact ih _ h ha hw hi
 | get s0 k ih=>intro g g' t ⟨_,t',e,h⟩ ha hw hi;subst e;exact ih _ h ha hw hi
 | set s0 p k ih =>
  intro g g' t ⟨t',e,h⟩ ha hw hi
  subst e
  simp only [Tok.join,zFo,List.mem_append,not_or,List.mem_singleton,Bool.false_or,List.nil_append] at ha hw hi
  rw [ih h ha hw.2 hi,zAf hw.1]
 | cells r0 pre i c n k ih=>intro g g' t ⟨a,qs,t',_,e,h⟩ ha hw hi;subst e;exact ih _ _ h ha hw hi
 | deep r0 pre k ih=>intro g g' t ⟨q,t',_,e,h⟩ ha hw hi;subst e;exact ih _ h ha hw hi
 | wcells r0 pre i c qs k ih =>
  intro g g' t ⟨root,t',_,e,h⟩ ha hw hi
  subst e
  have hH:s≠r0:=by
   rintro rfl
   cases hk:zAM (g s) root pre with
   | true=>have:=hi (s,[]) (by simp [Tok.join,zBd,hk]) rfl;simp at this
   | false=>exact hw (by simp [Tok.join,zBd,hk])
  rw [ih h (by simpa [Tok.join,zBd] using ha) (fun hm=>hw (List.mem_append_right _ hm)) (fun c hm=>hi c (List.mem_append_right _ hm)),zAf hH]
 | wnode r0 pre q k ih =>
  intro g g' t ⟨hl,root,t',hr,e,h⟩ ha hw hi
  subst e
  rw [ih h (by simpa [Tok.join,zBd] using ha) (fun hm=>hw (List.mem_append_right _ hm)) (fun c hm=>hi c (List.mem_append_right _ hm))]
  by_cases hH:s=r0
  ·subst hH
   rw [zAh]
   cases hk:(zAM (g s) root pre&&(pre.isEmpty || !q.isAgg)) with
   | true=>exact zJC hl hr hk (hi (s,pre.dropLast) (by simp only [Tok.join,zBd,hk];simp) rfl) _ _ _
   | false=>exact absurd (by simp only [Tok.join,zBd,hk];simp) hw
  ·rw [zAf hH]
 | kill r0 pre k ih =>
  intro g g' t ⟨D,t',hD,e,h⟩ ha hw hi
  subst e
  simp only [Tok.join,zAN,List.mem_append,not_or,Bool.false_or,List.nil_append] at ha hw hi
  rw [ih h ha hw.2 hi,zDZ (hD s hw.1)]
 | frz r0 pre k ih =>
  intro g g' t ⟨_,D,t',q,root,hD,hr,_,_,e,h⟩ ha hw hi
  subst e
  simp only [Tok.join,zAN,List.mem_append,not_or,Bool.false_or,List.nil_append] at ha hw hi
  rw [ih h ha hw.2 hi,zAf (by rintro rfl;exact hw.1 hr),zFN (hD s hw.1)]
 | killEx r0 pre k ih =>
  intro g g' t ⟨D,t',hD,e,h⟩ ha hw hi
  subst e
  simp only [Tok.join,zAN,List.mem_append,not_or,Bool.false_or,List.nil_append] at ha hw hi
  rw [ih h ha hw.2 hi,zCy (hD s hw.1)]
 | forget r0 k ih=>intro g g' t h ha;rw [show t.all=true from h] at ha;cases ha
 | call f args hid k ih=>intro g g' t ⟨v,hid',_,h⟩ ha hw hi;exact ih _ _ h ha hw hi
theorem zI4 {D:List Nat} {ok:Nat×zAS→Prop}:∀ {q:PM} {g g':zCM} {t:Tok},q.does o g t g'→t.all=false→(∀ x∈t.ways,ok x)→(∀ s,s∉D→∀ x∈(g s).ways,ok x)→∀ s,s∉D→∀ x∈(g' s).ways,ok x:=by
 have put:∀ {g:zCM} {s0:Nat} {p:PV},(∀ x∈p.ways,ok x)→(∀ s,s∉D→∀ x∈(g s).ways,ok x)→∀ s,s∉D→∀ x∈(upd g s0 p s).ways,ok x:=by
  intro g s0 p hp hg s hs x hx
  by_cases h:s=s0
  ·subst h;rw [zAh] at hx;exact hp x hx
  ·rw [zAf h] at hx;exact hg s hs x hx
 have turn:∀ {g g1:zCM} {D0:List Nat} {t:Tok} {ks ki:List Nat},(∀ x∈(Tok.join (zAN D0 g g1 ks ki) t).ways,ok x)→(∀ s,s∉D0→g1 s=g s)→(∀ s,s∉D→∀ x∈(g s).ways,ok x)→∀ s,s∉D→∀ x∈(g1 s).ways,ok x:=by
  intro g g1 D0 t ks ki hw h1 hg s hs x hx
  by_cases h:s∈D0
  ·exact hw x (List.mem_append_left _ (List.mem_flatMap.2 ⟨s,h,List.mem_append_right _ hx⟩))
  ·rw [h1 s h] at hx;exact hg s hs x hx
 intro q
 induction q with
 | ok=>intro g g' t h _ _ hg;rw [h.2];exact hg
 | fail=>intro g g' t h;cases h
 | view s0 k ih=>intro g g' t ⟨t',e,h⟩ ha hw hi;subst e;exact ih _ h ha hw hi
 | get s0 k ih=>intro g g' t ⟨_,t',e,h⟩ ha hw hi;subst e;exact ih _ h ha hw hi
 | set s0 p k ih =>
  intro g g' t ⟨t',e,h⟩ ha hw hi
  subst e
  exact ih h (by simpa [Tok.join,zFo] using ha) (fun x hx=>hw x (List.mem_append_right _ hx)) (put (fun x hx=>hw x (List.mem_append_left _ (List.mem_append_right _ hx))) hi)
 | cells r pre i c n k ih=>intro g g' t ⟨a,qs,t',_,e,h⟩ ha hw hi;subst e;exact ih _ _ h ha hw hi
 | deep r pre k ih=>intro g g' t ⟨q,t',_,e,h⟩ ha hw hi;subst e;exact ih _ h ha hw hi
 | wcells r pre i c qs k ih =>
  intro g g' t ⟨root,t',_,e,h⟩ ha hw hi
  subst e
  exact ih h (by simpa [Tok.join,zBd] using ha) (fun x hx=>hw x (List.mem_append_right _ hx)) (put (fun x hx=>hw x (List.mem_append_left _ (List.mem_append_right _ hx))) hi)
 | wnode r pre q k ih =>
  intro g g' t ⟨_,root,t',_,e,h⟩ ha hw hi
  subst e
  exact ih h (by simpa [Tok.join,zBd] using ha) (fun x hx=>hw x (List.mem_append_right _ hx)) (put (fun x hx=>hw x (List.mem_append_left _ (List.mem_append_right _ hx))) hi)
 | kill r pre k ih =>
  intro g g' t ⟨D0,t',hD,e,h⟩ ha hw hi
  subst e
  exact ih h (by simpa [Tok.join,zAN] using ha) (fun x hx=>hw x (List.mem_append_right _ hx)) (turn hw (fun s hs=>zDZ (hD s hs)) hi)
 | frz r pre k ih =>
  intro g g' t ⟨_,D0,t',q,root,hD,hr,_,_,e,h⟩ ha hw hi
  subst e
  exact ih h (by simpa [Tok.join,zAN] using ha) (fun x hx=>hw x (List.mem_append_right _ hx)) (turn hw (fun s hs=>by rw [zAf (by rintro rfl;exact hs hr),zFN (hD s hs)]) hi)
 | killEx r pre k ih =>
  intro g g' t ⟨D0,t',hD,e,h⟩ ha hw hi
  subst e
  exact ih h (by simpa [Tok.join,zAN] using ha) (fun x hx=>hw x (List.mem_append_right _ hx)) (turn hw (fun s hs=>zCy (hD s hs)) hi)
 | forget r k ih=>intro g g' t h ha;rw [show t.all=true from h] at ha;cases ha
 | call f args hid k ih=>intro g g' t ⟨v,hid',_,h⟩ ha hw hi;exact ih _ _ h ha hw hi
theorem zMV {α:Type} {f:Nat→α} {s:Nat} {x y:α}:upd (upd f s x) s y=upd f s y:=by funext t;simp only [upd];split<;>rfl
theorem zKQ {α:Type} {f:Nat→α} {s:Nat}:upd f s (f s)=f:=by
 funext u;simp only [upd];split
 ·rename_i e;rw [e]
 ·rfl
def mix (D:List Nat) (v g:zCM):zCM:=fun s=>if s∈D then v s else g s
theorem zBv {D:List Nat} {v g:zCM} {s:Nat} (h:s∈D):mix D v g s=v s:=if_pos h
theorem zAP {D:List Nat} {v g:zCM} {s:Nat} (h:s∉D):mix D v g s=g s:=if_neg h
theorem zIG {D:List Nat} {v g:zCM} {s:Nat} {p:PV} (h:s∉D):upd (mix D v g) s p=mix D v (upd g s p):=by
 funext u
 by_cases hu:u=s
 ·subst hu;rw [zAh,zAP h,zAh]
 ·rw [zAf hu]
  by_cases hd:u∈D
  ·rw [zBv hd,zBv hd]
  ·rw [zAP hd,zAP hd,zAf hu]
theorem zNi {g:zCM} {s:Nat} {p:PV}:upd g s p=mix [s] (fun _=>p) g:=by
 funext u;simp only [upd,mix,List.mem_singleton]
theorem zCB {D:List Nat} {g g' h h':zCM} {ks ki:List Nat} (h1:∀ s∈D,g s=h s) (h2:∀ s∈D,g' s=h' s):zAN D g g' ks ki=zAN D h h' ks ki:=by
 simp only [zAN]
 congr 1
 induction D with
 | nil=>rfl
 | cons d D ih =>
  simp only [List.flatMap_cons]
  rw [h1 d (by simp),h2 d (by simp),ih (fun s hs=>h1 s (by simp [hs])) (fun s hs=>h2 s (by simp [hs]))]
structure Unseen (D:List Nat) (v g:zCM) (t:Tok):Prop where
 rd:∀ s∈D,s∉t.rd
 wr:∀ s∈D,s∉t.wr
 inn:∀ s∈D,∀ c∈t.inn,c.1≠s
 look:∀ s∈D,s∈t.look→view s (v s)=view s (g s)
 cel:∀ s∈D,∀ c∈t.cel,c.1=s→∀ i c' n,zAH s (v s) c.2 i c' n=zAH s (g s) c.2 i c' n
 kills:∀ s∈D,∀ k∈t.kills,∀ x∈(g s).ways,x.1≠k
 killsIn:∀ s∈D,∀ k∈t.killsIn,∀ x∈(g s).ways,x.1=k→x.2.isEmpty=true
theorem Unseen.rest {D:List Nat} {v g g':zCM} {a t:Tok} (h:Unseen D v g (Tok.join a t)) (hg:∀ s∈D,g' s=g s):Unseen D v g' t :=
 ⟨fun s hs hm=>h.rd s hs (List.mem_append_right _ hm),fun s hs hm=>h.wr s hs (List.mem_append_right _ hm),fun s hs c hm=>h.inn s hs c (List.mem_append_right _ hm),fun s hs hm=>by rw [hg s hs];exact h.look s hs (List.mem_append_right _ hm),
  fun s hs c hm=>by rw [hg s hs];exact h.cel s hs c (List.mem_append_right _ hm),fun s hs k hm=>by rw [hg s hs];exact h.kills s hs k (List.mem_append_right _ hm),fun s hs k hm=>by rw [hg s hs];exact h.killsIn s hs k (List.mem_append_right _ hm)⟩
theorem zHj {r:Nat} {pre:zAS} {x:Nat×zAS} (h:x.1≠r):zAQ r pre x.1 x.2=false:=by
 simp only [zAQ]
 cases hb:Nat.beq x.1 r with
 | true=>exact absurd (Nat.eq_of_beq_eq_true hb) h
 | false=>rfl
theorem zTn {r:Nat} {x:Nat×zAS} (h:x.1=r→x.2.isEmpty=true):(Nat.beq x.1 r && !x.2.isEmpty)=false:=by
 cases hb:Nat.beq x.1 r with
 | true=>rw [h (Nat.eq_of_beq_eq_true hb)];rfl
 | false=>rfl
theorem zFY {D:List Nat} {v:zCM}:∀ {q:PM} {g g':zCM} {t:Tok},q.does o (mix D v g) t g'→t.all=false→Unseen D v g t→q.does o g t (mix D g g'):=by
 intro q
 induction q with
 | ok =>
  intro g g' t h _ _
  refine ⟨h.1,?_⟩
  rw [h.2];funext s
  by_cases hs:s∈D
  ·rw [zBv hs]
  ·rw [zAP hs,zAP hs]
 | fail=>intro g g' t h;cases h
 | view s0 k ih =>
  intro g g' t ⟨t',e,h⟩ ha hu
  subst e
  have hv:view s0 (mix D v g s0)=view s0 (g s0):=by
   by_cases hs:s0∈D
   ·rw [zBv hs];exact hu.look s0 hs (by simp [Tok.join])
   ·rw [zAP hs]
  rw [hv] at h
  exact ⟨t',rfl,ih _ h ha (hu.rest fun _ _=>rfl)⟩
 | get s0 k ih =>
  intro g g' t ⟨yG,t',e,h⟩ ha hu
  subst e
  have hs:s0∉D:=fun hs=>hu.rd s0 hs (by simp [Tok.join])
  rw [zAP hs] at h yG
  exact ⟨yG,t',rfl,ih _ h ha (hu.rest fun _ _=>rfl)⟩
 | set s0 p k ih =>
  intro g g' t ⟨t',e,h⟩ ha hu
  subst e
  have hs:s0∉D:=fun hs=>hu.wr s0 hs (by simp [Tok.join,zFo])
  rw [zAP hs] at hu ⊢
  rw [zIG hs] at h
  have hg:∀ s∈D,upd g s0 p s=g s:=fun s hd=>zAf (by rintro rfl;exact hs hd)
  have:=ih h (by simpa [Tok.join,zFo] using ha) (hu.rest hg)
  refine ⟨t',rfl,?_⟩
  have he:mix D (upd g s0 p) g'=mix D g g':=by
   funext s;by_cases hd:s∈D
   ·rw [zBv hd,zBv hd,hg s hd]
   ·rw [zAP hd,zAP hd]
  rw [← he];exact this
 | cells r0 pre i c n k ih =>
  intro g g' t ⟨a,qs,t',kF,e,h⟩ ha hu
  subst e
  have hv:zAH r0 (g r0) pre i c n=some (a,qs):=by
   by_cases hs:r0∈D
   ·rw [zBv hs] at kF;rw [← hu.cel r0 hs (r0,pre) (by simp [Tok.join]) rfl];exact kF
   ·rw [zAP hs] at kF;exact kF
  exact ⟨a,qs,t',hv,rfl,ih _ _ h ha (hu.rest fun _ _=>rfl)⟩
 | deep r0 pre k ih =>
  intro g g' t ⟨q,t',hn,e,h⟩ ha hu
  subst e
  have hs:r0∉D:=fun hs=>hu.rd r0 hs (by simp [Tok.join])
  rw [zAP hs] at hn
  exact ⟨q,t',hn,rfl,ih _ h ha (hu.rest fun _ _=>rfl)⟩
 | wcells r0 pre i c qs k ih =>
  intro g g' t ⟨root,t',hn,e,h⟩ ha hu
  subst e
  have hs:r0∉D:=by
   intro hs
   cases uX:zAM (mix D v g r0) root pre with
   | true=>exact hu.inn r0 hs (r0,[]) (by simp [Tok.join,zBd,uX]) rfl
   | false=>exact hu.wr r0 hs (by simp [Tok.join,zBd,uX])
  rw [zAP hs] at hn hu ha ⊢
  rw [zIG hs] at h
  have hg:∀ s∈D,upd g r0 root s=g s:=fun s hd=>zAf (by rintro rfl;exact hs hd)
  have:=ih h (by simpa [Tok.join,zBd] using ha) (hu.rest hg)
  refine ⟨root,t',hn,rfl,?_⟩
  have he:mix D (upd g r0 root) g'=mix D g g':=by
   funext s;by_cases hd:s∈D
   ·rw [zBv hd,zBv hd,hg s hd]
   ·rw [zAP hd,zAP hd]
  rw [← he];exact this
 | wnode r0 pre q k ih =>
  intro g g' t ⟨yG,root,t',hn,e,h⟩ ha hu
  subst e
  have hs:r0∉D:=by
   intro hs
   cases uX:(zAM (mix D v g r0) root pre&&(pre.isEmpty || !q.isAgg)) with
   | true=>exact hu.inn r0 hs (r0,pre.dropLast) (by simp only [Tok.join,zBd,uX];simp) rfl
   | false=>exact hu.wr r0 hs (by simp only [Tok.join,zBd,uX];simp)
  rw [zAP hs] at hn yG hu ha ⊢
  rw [zIG hs] at h
  have hg:∀ s∈D,upd g r0 root s=g s:=fun s hd=>zAf (by rintro rfl;exact hs hd)
  have:=ih h (by simpa [Tok.join,zBd] using ha) (hu.rest hg)
  refine ⟨yG,root,t',hn,rfl,?_⟩
  have he:mix D (upd g r0 root) g'=mix D g g':=by
   funext s;by_cases hd:s∈D
   ·rw [zBv hd,zBv hd,hg s hd]
   ·rw [zAP hd,zAP hd]
  rw [← he];exact this
 | kill r0 pre k ih =>
  intro g g' t ⟨D0,t',hD,e,h⟩ ha hu
  subst e
  have ye:∀ s∈D0,s∉D:=fun s h0 hd=>hu.wr s hd (by simp [Tok.join,zAN,h0])
  have hq:∀ s∈D,∀ x∈(g s).ways,zAQ r0 pre x.1 x.2=false:=fun s hd x hx=>zHj (hu.kills s hd r0 (by simp [Tok.join,zAN]) x hx)
  have hg:∀ s∈D,(fun s=>(g s).mapW (lose r0 pre)) s=g s:=fun s hd=>zDZ (hq s hd)
  have hm:(fun s=>(mix D v g s).mapW (lose r0 pre))=mix D v (fun s=>(g s).mapW (lose r0 pre)):=by
   funext s;by_cases hd:s∈D
   ·have:=hD s (fun h0=>ye s h0 hd)
    rw [zBv hd] at this
    rw [zBv hd,zBv hd,zDZ this]
   ·rw [zAP hd,zAP hd]
  have ht:=zCB (D:=D0) (g:=mix D v g) (g':=fun s=>(mix D v g s).mapW (lose r0 pre)) (h:=g) (h':=fun s=>(g s).mapW (lose r0 pre)) (ks:=[r0]) (ki:=[]) (fun s h0=>zAP (ye s h0)) (fun s h0=>by simp only [zAP (ye s h0)])
  rw [hm] at h
  rw [ht] at hu ha ⊢
  have:=ih h (by simpa [Tok.join,zAN] using ha) (hu.rest hg)
  refine ⟨D0,t',fun s h0 x hx=>?_,rfl,?_⟩
  ·by_cases hd:s∈D
   ·exact hq s hd x hx
   ·exact hD s h0 x (by rw [zAP hd];exact hx)
  ·have he:mix D (fun s=>(g s).mapW (lose r0 pre)) g'=mix D g g':=by
    funext s;by_cases hd:s∈D
    ·rw [zBv hd,zBv hd];exact hg s hd
    ·rw [zAP hd,zAP hd]
   rw [← he];exact this
 | frz r0 pre k ih =>
  intro g g' t ⟨yG,D0,t',q,root,hD,hr,hn,hmn,e,h⟩ ha hu
  subst e
  have ye:∀ s∈D0,s∉D:=fun s h0 hd=>hu.wr s hd (by simp [Tok.join,zAN,h0])
  have vW:=ye r0 hr
  have hq:∀ s∈D,∀ x∈(g s).ways,zAQ r0 pre x.1 x.2=false:=fun s hd x hx=>zHj (hu.kills s hd r0 (by simp [Tok.join,zAN]) x hx)
  have hg:∀ s∈D,(fun s=>(upd g r0 root s).mapW (inl r0 pre q)) s=g s:=fun s hd=>by
   simp only
   rw [zAf (by rintro rfl;exact vW hd),zFN (hq s hd)]
  have hm:(fun s=>(upd (mix D v g) r0 root s).mapW (inl r0 pre q))=mix D v (fun s=>(upd g r0 root s).mapW (inl r0 pre q)):=by
   rw [zIG vW]
   funext s;by_cases hd:s∈D
   ·have:=hD s (fun h0=>ye s h0 hd)
    rw [zBv hd] at this
    rw [zBv hd,zBv hd,zFN this]
   ·rw [zAP hd,zAP hd]
  have ht:=zCB (D:=D0) (g:=mix D v g) (g':=fun s=>(upd (mix D v g) r0 root s).mapW (inl r0 pre q)) (h:=g) (h':=fun s=>(upd g r0 root s).mapW (inl r0 pre q)) (ks:=[r0]) (ki:=[]) (fun s h0=>zAP (ye s h0)) (fun s h0=>by simp only [zIG vW,zAP (ye s h0)])
  rw [hm] at h
  rw [ht] at hu ha ⊢
  rw [zAP vW] at yG hn hmn
  have:=ih h (by simpa [Tok.join,zAN] using ha) (hu.rest hg)
  refine ⟨yG,D0,t',q,root,fun s h0 x hx=>?_,hr,hn,hmn,rfl,?_⟩
  ·by_cases hd:s∈D
   ·exact hq s hd x hx
   ·exact hD s h0 x (by rw [zAP hd];exact hx)
  ·have he:mix D (fun s=>(upd g r0 root s).mapW (inl r0 pre q)) g'=mix D g g':=by
    funext s;by_cases hd:s∈D
    ·rw [zBv hd,zBv hd];exact hg s hd
    ·rw [zAP hd,zAP hd]
   rw [← he];exact this
 | killEx r0 pre k ih =>
  intro g g' t ⟨D0,t',hD,e,h⟩ ha hu
  subst e
  have ye:∀ s∈D0,s∉D:=fun s h0 hd=>hu.wr s hd (by simp [Tok.join,zAN,h0])
  have hq:∀ s∈D,∀ x∈(g s).ways,(Nat.beq x.1 r0 && !x.2.isEmpty)=false:=fun s hd x hx=>zTn (hu.killsIn s hd r0 (by simp [Tok.join,zAN]) x hx)
  have hg:∀ s∈D,(fun s=>(g s).mapW (zBF r0 pre)) s=g s:=fun s hd=>zCy (hq s hd)
  have hm:(fun s=>(mix D v g s).mapW (zBF r0 pre))=mix D v (fun s=>(g s).mapW (zBF r0 pre)):=by
   funext s;by_cases hd:s∈D
   ·have:=hD s (fun h0=>ye s h0 hd)
    rw [zBv hd] at this
    rw [zBv hd,zBv hd,zCy this]
   ·rw [zAP hd,zAP hd]
  have ht:=zCB (D:=D0) (g:=mix D v g) (g':=fun s=>(mix D v g s).mapW (zBF r0 pre)) (h:=g) (h':=fun s=>(g s).mapW (zBF r0 pre)) (ks:=[]) (ki:=[r0]) (fun s h0=>zAP (ye s h0)) (fun s h0=>by simp only [zAP (ye s h0)])
  rw [hm] at h
  rw [ht] at hu ha ⊢
  have:=ih h (by simpa [Tok.join,zAN] using ha) (hu.rest hg)
  refine ⟨D0,t',fun s h0 x hx=>?_,rfl,?_⟩
  ·by_cases hd:s∈D
   ·exact hq s hd x hx
   ·exact hD s h0 x (by rw [zAP hd];exact hx)
  ·have he:mix D (fun s=>(g s).mapW (zBF r0 pre)) g'=mix D g g':=by
    funext s;by_cases hd:s∈D
    ·rw [zBv hd,zBv hd];exact hg s hd
    ·rw [zAP hd,zAP hd]
   rw [← he];exact this
 | forget r0 k ih=>intro g g' t h ha;rw [show t.all=true from h] at ha;cases ha
 | call f args hid k ih=>intro g g' t ⟨v',hid',ho,h⟩ ha hu;exact ⟨v',hid',ho,ih _ _ h ha hu⟩
theorem zEF {D:List Nat} {v g:zCM} {p q:Tok} (h1:Off p q) (h2:Off q p) (hD:∀ s∈D,s∈p.wr) (hw:∀ s∈D,∀ x∈(g s).ways,x∈p.ways):Unseen D v g q :=
 ⟨fun s hs=>h1.rd s (hD s hs),fun s hs=>h1.wr s (hD s hs),fun s hs=>h1.inn s (hD s hs),fun s hs hl=>absurd hl (h1.look s (hD s hs)),fun s hs c hc e=>absurd e (h1.cel s (hD s hs) c hc),
  fun s hs k hk x hx=>h2.ways k hk x (hw s hs x hx),fun s hs k hk x hx=>h2.waysIn k hk x (hw s hs x hx)⟩
theorem zWm {q:PM}:∀ {p:PM} {g g1 g2:zCM} {tp tq:Tok},p.does o g tp g1→q.does o g1 tq g2→Off tp tq→Off tq tp→∃ m,q.does o g tq m∧p.does o m tp g2:=by
 intro p
 induction p with
 | ok=>intro g g1 g2 tp tq h hq _ _;obtain ⟨rfl,rfl⟩:=h;exact ⟨g2,hq,rfl,rfl⟩
 | fail=>intro g g1 g2 tp tq h;cases h
 | view s k ih =>
  intro g g1 g2 tp tq ⟨t',e,h⟩ hq h1 h2
  subst e
  obtain ⟨m,hm,hk⟩:=ih _ h hq h1.left' h2.right'
  refine ⟨m,hm,t',rfl,?_⟩
  rw [zQN hm h2.all (fun hw=>h2.look s hw (by simp [Tok.join]))];exact hk
 | get s k ih =>
  intro g g1 g2 tp tq ⟨hl,t',e,h⟩ hq h1 h2
  subst e
  obtain ⟨m,hm,hk⟩:=ih _ h hq h1.left' h2.right'
  have:=zDC hm h2.all (fun hw=>h2.rd s hw (by simp [Tok.join])) (fun c hc e=>h2.ird c hc (by rw [e];simp [Tok.join]))
  exact ⟨m,hm,by rw [this];exact hl,t',rfl,by rw [this];exact hk⟩
 | set s v k ih =>
  intro g g1 g2 tp tq ⟨t',e,h⟩ hq h1 h2
  subst e
  obtain ⟨m,hm,hk⟩:=ih h hq h1.left' h2.right'
  have hw:s∈(Tok.join (zFo s (g s) v) t').wr:=by simp [Tok.join,zFo]
  have uj:m s=v:=by rw [zDC hm h2.all (h1.wr s hw) (h1.inn s hw),zAh]
  have hu:Unseen [s] (fun _=>v) g tq:=zEF h1 h2 (fun u hu=>by rw [List.mem_singleton.1 hu];exact hw) (fun u hu x hx=>by
   rw [List.mem_singleton.1 hu] at hx
   exact List.mem_append_left _ (List.mem_append_left _ hx))
  rw [zNi] at hm
  have hd:=zFY hm h2.all hu
  have he:mix [s] g m=upd m s (g s):=by funext u;simp only [upd,mix,List.mem_singleton];split<;>simp_all
  rw [he] at hd
  refine ⟨_,hd,t',by rw [zAh],?_⟩
  rw [zMV,← uj,zKQ];exact hk
 | cells r pre i c n k ih =>
  intro g g1 g2 tp tq ⟨a,qs,t',kF,e,h⟩ hq h1 h2
  subst e
  obtain ⟨m,hm,hk⟩:=ih _ _ h hq h1.left' h2.right'
  refine ⟨m,hm,a,qs,t',?_,rfl,hk⟩
  rw [zOZ hm h2.all (fun hw=>h2.cel r hw (r,pre) (by simp [Tok.join]) rfl) (fun w hw e=>h2.icel w hw (r,pre) (by simp [Tok.join]) e)];exact kF
 | deep r pre k ih =>
  intro g g1 g2 tp tq ⟨q,t',hn,e,h⟩ hq h1 h2
  subst e
  obtain ⟨m,hm,hk⟩:=ih _ h hq h1.left' h2.right'
  have:=zDC hm h2.all (fun hw=>h2.rd r hw (by simp [Tok.join])) (fun c hc e=>h2.ird c hc (by rw [e];simp [Tok.join]))
  exact ⟨m,hm,q,t',by rw [this];exact hn,rfl,hk⟩
 | wcells r pre i c qs k ih =>
  intro g g1 g2 tp tq ⟨root,t',hn,e,h⟩ hq h1 h2
  subst e
  obtain ⟨m,hm,hk⟩:=ih h hq h1.left' h2.right'
  have yr:∀ x∈(g r).ways,x∈(Tok.join (zBd r [] (zAM (g r) root pre) (g r) root) t').ways:=fun x hx=>List.mem_append_left _ (List.mem_append_left _ hx)
  have fin:m r=root→Unseen [r] (fun _=>root) g tq→∃ m,q.does o g tq m∧(PM.wcells r pre i c qs k).does o m (Tok.join (zBd r [] (zAM (g r) root pre) (g r) root) t') g2:=by
   intro uj hu
   rw [zNi] at hm
   have hd:=zFY hm h2.all hu
   have he:mix [r] g m=upd m r (g r):=by funext u;simp only [upd,mix,List.mem_singleton];split<;>simp_all
   rw [he] at hd
   refine ⟨_,hd,root,t',by rw [zAh];exact hn,by rw [zAh],?_⟩
   rw [zMV,← uj,zKQ];exact hk
  cases uX:zAM (g r) root pre with
  | true =>
   rw [uX] at h1 h2 fin yr
   have hin:(r,([]:zAS))∈(Tok.join (zBd r [] true (g r) root) t').inn:=by simp [Tok.join,zBd]
   have hw:r∉tq.wr:=fun hw=>h2.inn r hw _ hin rfl
   have hi:∀ c∈tq.inn,c.1≠r:=h1.iinn _ hin
   have hcel:∀ c∈tq.cel,c.1≠r:=fun c hc e=>by have:=h1.icel _ hin c hc e;simp at this
   refine fin (by rw [zDC hm h2.all hw hi,zAh]) ⟨fun s hs=>?_,fun s hs=>?_,fun s hs=>?_,fun s hs _=>?_,fun s hs c hc e=>?_,fun s hs k hk x hx=>?_,fun s hs k hk x hx=>?_⟩<;>rw [List.mem_singleton.1 hs] at *
   ·exact h1.ird _ hin
   ·exact hw
   ·exact hi
   ·simp only [zBL] at hn
    revert hn
    cases (zDA (g r) pre && !(zBy qs).isEmpty) with
    | true=>intro hr;cases hr
    | false=>intro hr;exact (zHo hr uX).symm
   ·exact absurd e (hcel c hc)
   ·exact h2.ways k hk x (yr x hx)
   ·exact h2.waysIn k hk x (yr x hx)
  | false =>
   rw [uX] at h1 h2 fin yr
   have hw:r∈(Tok.join (zBd r [] false (g r) root) t').wr:=by simp [Tok.join,zBd]
   exact fin (by rw [zDC hm h2.all (h1.wr r hw) (h1.inn r hw),zAh]) (zEF h1 h2 (fun u hu=>by rw [List.mem_singleton.1 hu];exact hw) (fun u hu x hx=>by rw [List.mem_singleton.1 hu] at hx;exact yr x hx))
 | wnode r pre q0 k ih =>
  intro g g1 g2 tp tq ⟨yG,root,t',hn,e,h⟩ hq h1 h2
  subst e
  obtain ⟨m,hm,hk⟩:=ih h hq h1.left' h2.right'
  have yr:∀ x∈(g r).ways,x∈(Tok.join (zBd r pre.dropLast (zAM (g r) root pre&&(pre.isEmpty || !q0.isAgg)) (g r) root) t').ways:=fun x hx=>List.mem_append_left _ (List.mem_append_left _ hx)
  have fin:m r=root→Unseen [r] (fun _=>root) g tq→∃ m,q.does o g tq m∧(PM.wnode r pre q0 k).does o m (Tok.join (zBd r pre.dropLast (zAM (g r) root pre&&(pre.isEmpty || !q0.isAgg)) (g r) root) t') g2:=by
   intro uj hu
   rw [zNi] at hm
   have hd:=zFY hm h2.all hu
   have he:mix [r] g m=upd m r (g r):=by funext u;simp only [upd,mix,List.mem_singleton];split<;>simp_all
   rw [he] at hd
   refine ⟨_,hd,by rw [zAh];exact yG,root,t',by rw [zAh];exact hn,by rw [zAh],?_⟩
   rw [zMV,← uj,zKQ];exact hk
  cases uX:(zAM (g r) root pre&&(pre.isEmpty || !q0.isAgg)) with
  | true =>
   rw [uX] at h1 h2 fin yr
   have hin:(r,pre.dropLast)∈(Tok.join (zBd r pre.dropLast true (g r) root) t').inn:=by simp [Tok.join,zBd]
   have hw:r∉tq.wr:=fun hw=>h2.inn r hw _ hin rfl
   have hi:∀ c∈tq.inn,c.1≠r:=h1.iinn _ hin
   refine fin (by rw [zDC hm h2.all hw hi,zAh]) ⟨fun s hs=>?_,fun s hs=>?_,fun s hs=>?_,fun s hs _=>?_,fun s hs c hc e i c' n=>?_,fun s hs k hk x hx=>?_,fun s hs k hk x hx=>?_⟩<;>rw [List.mem_singleton.1 hs] at *
   ·exact h1.ird _ hin
   ·exact hw
   ·exact hi
   ·rw [Bool.and_eq_true] at uX
    exact (zHo hn uX.1).symm
   ·exact zJC yG hn uX (h1.icel _ hin c hc e) i c' n
   ·exact h2.ways k hk x (yr x hx)
   ·exact h2.waysIn k hk x (yr x hx)
  | false =>
   rw [uX] at h1 h2 fin yr
   have hw:r∈(Tok.join (zBd r pre.dropLast false (g r) root) t').wr:=by simp [Tok.join,zBd]
   exact fin (by rw [zDC hm h2.all (h1.wr r hw) (h1.inn r hw),zAh]) (zEF h1 h2 (fun u hu=>by rw [List.mem_singleton.1 hu];exact hw) (fun u hu x hx=>by rw [List.mem_singleton.1 hu] at hx;exact yr x hx))
 | kill r pre k ih =>
  intro g g1 g2 tp tq ⟨D,t',hD,e,h⟩ hq h1 h2
  subst e
  obtain ⟨m,hm,hk⟩:=ih h hq h1.left' h2.right'
  have hw:∀ s∈D,s∈(Tok.join (zAN D g (fun s=>(g s).mapW (lose r pre)) [r] []) t').wr:=fun s hs=>List.mem_append_left _ hs
  have hu:Unseen D (fun s=>(g s).mapW (lose r pre)) g tq:=zEF h1 h2 hw (fun s hs x hx=>List.mem_append_left _ (List.mem_flatMap.2 ⟨s,hs,List.mem_append_left _ hx⟩))
  have kX:(fun s=>(g s).mapW (lose r pre))=mix D (fun s=>(g s).mapW (lose r pre)) g:=by
   funext s;by_cases hs:s∈D
   ·rw [zBv hs]
   ·rw [zAP hs,zDZ (hD s hs)]
  have hmD:∀ s∈D,m s=(g s).mapW (lose r pre):=fun s hs=>zDC hm h2.all (h1.wr s (hw s hs)) (h1.inn s (hw s hs))
  have jC:=zI4 (D:=D) (ok:=fun x=>zAQ r pre x.1 x.2=false) hm h2.all (fun x hx=>zHj (h1.ways r (by simp [Tok.join,zAN]) x hx)) (fun s hs x hx=>hD s hs x (by rw [zDZ (hD s hs)] at hx;exact hx))
  rw [kX] at hm
  have hd:=zFY hm h2.all hu
  have ya:(fun s=>(mix D g m s).mapW (lose r pre))=m:=by
   funext s;by_cases hs:s∈D
   ·rw [zBv hs,hmD s hs]
   ·rw [zAP hs,zDZ (jC s hs)]
  refine ⟨_,hd,D,t',fun s hs x hx=>jC s hs x (by rw [zAP hs] at hx;exact hx),?_,by rw [ya];exact hk⟩
  rw [zCB (g:=g) (h:=mix D g m) (h':=fun s=>(mix D g m s).mapW (lose r pre)) (fun s hs=>(zBv hs).symm) (fun s hs=>by simp only [zBv hs])]
 | frz r pre k ih =>
  intro g g1 g2 tp tq ⟨yG,D,t',q0,root,hD,hr,hn,hmn,e,h⟩ hq h1 h2
  subst e
  obtain ⟨m,hm,hk⟩:=ih h hq h1.left' h2.right'
  have hw:∀ s∈D,s∈(Tok.join (zAN D g (fun s=>(upd g r root s).mapW (inl r pre q0)) [r] []) t').wr:=fun s hs=>List.mem_append_left _ hs
  have hu:Unseen D (fun s=>(upd g r root s).mapW (inl r pre q0)) g tq:=zEF h1 h2 hw (fun s hs x hx=>List.mem_append_left _ (List.mem_flatMap.2 ⟨s,hs,List.mem_append_left _ hx⟩))
  have ye:∀ s,s∉D→(upd g r root s).mapW (inl r pre q0)=g s:=fun s hs=>by rw [zAf (by rintro rfl;exact hs hr),zFN (hD s hs)]
  have kX:(fun s=>(upd g r root s).mapW (inl r pre q0))=mix D (fun s=>(upd g r root s).mapW (inl r pre q0)) g:=by
   funext s;by_cases hs:s∈D
   ·rw [zBv hs]
   ·rw [zAP hs,ye s hs]
  have hmD:∀ s∈D,m s=(upd g r root s).mapW (inl r pre q0):=fun s hs=>zDC hm h2.all (h1.wr s (hw s hs)) (h1.inn s (hw s hs))
  have jC:=zI4 (D:=D) (ok:=fun x=>zAQ r pre x.1 x.2=false) hm h2.all (fun x hx=>zHj (h1.ways r (by simp [Tok.join,zAN]) x hx)) (fun s hs x hx=>hD s hs x (by rw [ye s hs] at hx;exact hx))
  rw [kX] at hm
  have hd:=zFY hm h2.all hu
  have ya:(fun s=>(upd (mix D g m) r root s).mapW (inl r pre q0))=m:=by
   funext s;by_cases hs:s∈D
   ·rw [hmD s hs]
    by_cases yV:s=r
    ·subst yV;rw [zAh,zAh]
    ·rw [zAf yV,zAf yV,zBv hs]
   ·rw [zAf (by rintro rfl;exact hs hr),zAP hs,zFN (jC s hs)]
  have hmr:mix D g m r=g r:=zBv hr
  refine ⟨_,hd,by rw [hmr];exact yG,D,t',q0,root,fun s hs x hx=>jC s hs x (by rw [zAP hs] at hx;exact hx),hr,by rw [hmr];exact hn,by rw [hmr];exact hmn,?_,by rw [ya];exact hk⟩
  rw [zCB (g:=g) (h:=mix D g m) (fun s hs=>(zBv hs).symm) (fun s hs=>by
   show (upd g r root s).mapW (inl r pre q0)=(upd (mix D g m) r root s).mapW (inl r pre q0)
   by_cases yV:s=r
   ·subst yV;rw [zAh,zAh]
   ·rw [zAf yV,zAf yV,zBv hs])]
 | killEx r pre k ih =>
  intro g g1 g2 tp tq ⟨D,t',hD,e,h⟩ hq h1 h2
  subst e
  obtain ⟨m,hm,hk⟩:=ih h hq h1.left' h2.right'
  have hw:∀ s∈D,s∈(Tok.join (zAN D g (fun s=>(g s).mapW (zBF r pre)) [] [r]) t').wr:=fun s hs=>List.mem_append_left _ hs
  have hu:Unseen D (fun s=>(g s).mapW (zBF r pre)) g tq:=zEF h1 h2 hw (fun s hs x hx=>List.mem_append_left _ (List.mem_flatMap.2 ⟨s,hs,List.mem_append_left _ hx⟩))
  have kX:(fun s=>(g s).mapW (zBF r pre))=mix D (fun s=>(g s).mapW (zBF r pre)) g:=by
   funext s;by_cases hs:s∈D
   ·rw [zBv hs]
   ·rw [zAP hs,zCy (hD s hs)]
  have hmD:∀ s∈D,m s=(g s).mapW (zBF r pre):=fun s hs=>zDC hm h2.all (h1.wr s (hw s hs)) (h1.inn s (hw s hs))
  have jC:=zI4 (D:=D) (ok:=fun x=>(Nat.beq x.1 r && !x.2.isEmpty)=false) hm h2.all (fun x hx=>zTn (h1.waysIn r (by simp [Tok.join,zAN]) x hx)) (fun s hs x hx=>hD s hs x (by rw [zCy (hD s hs)] at hx;exact hx))
  rw [kX] at hm
  have hd:=zFY hm h2.all hu
  have ya:(fun s=>(mix D g m s).mapW (zBF r pre))=m:=by
   funext s;by_cases hs:s∈D
   ·rw [zBv hs,hmD s hs]
   ·rw [zAP hs,zCy (jC s hs)]
  refine ⟨_,hd,D,t',fun s hs x hx=>jC s hs x (by rw [zAP hs] at hx;exact hx),?_,by rw [ya];exact hk⟩
  rw [zCB (g:=g) (h:=mix D g m) (h':=fun s=>(mix D g m s).mapW (zBF r pre)) (fun s hs=>(zBv hs).symm) (fun s hs=>by simp only [zBv hs])]
 | forget r k ih=>intro g g1 g2 tp tq h hq h1 h2;have:=h1.all;rw [show tp.all=true from h] at this;cases this
 | call f args hid k ih =>
  intro g g1 g2 tp tq ⟨v',hid',ho,h⟩ hq h1 h2
  obtain ⟨m,hm,hk⟩:=ih _ _ h hq h1 h2
  exact ⟨m,hm,v',hid',ho,hk⟩
theorem zBi (e:Env) (s:Nat) (p:PV):(e.set s p).get=upd e.get s p:=by
 funext t;rw [Env.get_set];rfl
theorem zFS {e:Env} {h:Nat×zAS→Bool}:∀ s,s∉zC9 e h→∀ x∈(e.get s).ways,h x=false:=by
 intro s hs x hx
 cases hh:h x with
 | false=>rfl
 | true =>
  exfalso
  refine hs ?_
  clear hs
  induction e with
  | nil=>cases hx
  | cons y e ih =>
   obtain ⟨k,v⟩:=y
   simp only [Env.get] at hx
   cases hb:Nat.beq k s with
   | true =>
    rw [hb] at hx
    have hk:=Nat.eq_of_beq_eq_true hb
    exact List.mem_map.2 ⟨(k,v),List.mem_filter.2 ⟨by simp,List.any_eq_true.2 ⟨x,hx,hh⟩⟩,hk⟩
   | false =>
    rw [hb] at hx
    obtain ⟨y,hy,wh⟩:=List.mem_map.1 (ih hx)
    obtain ⟨h1,h2⟩:=List.mem_filter.1 hy
    exact List.mem_map.2 ⟨y,List.mem_filter.2 ⟨by simp [h1],h2⟩,wh⟩
theorem zT6 {e e':Env} {r:Nat} {pre:zAS} (h:e.frz r pre=some e') :
  (e.get r).isLock=false∧∃ q root,zAC (e.get r) pre=some q∧zAv (fun _=>some (zA0 q)) (e.get r) pre=some root∧e'.get=fun s=>(upd e.get r root s).mapW (inl r pre q):=by
 simp only [Env.frz] at h
 cases hl:(e.get r).isLock with
 | true=>rw [hl] at h;cases h
 | false =>
  rw [hl] at h;simp only [cond_false] at h
  cases hn:zAC (e.get r) pre with
  | none=>rw [hn] at h;cases h
  | some q =>
   rw [hn] at h;simp only at h
   cases hm:zAv (fun _=>some (zA0 q)) (e.get r) pre with
   | none=>rw [hm] at h;cases h
   | some root =>
    rw [hm] at h;simp only [Option.some.injEq] at h
    subst h
    refine ⟨rfl,q,root,rfl,hm,?_⟩
    funext s
    rw [Env.get_map (e.set r root) (g:=fun p=>p.mapW (inl r pre q)) rfl s,zBi]
theorem zH7:∀ {p:PM} {e e':Env} {t:Tok},p.runT o e=some (e',t)→t.all=true∨p.does o e.get t e'.get:=by
 intro p
 induction p with
 | ok=>intro e e' t h;simp only [PM.runT,Option.some.injEq,Prod.mk.injEq] at h;obtain ⟨rfl,rfl⟩:=h;exact .inr ⟨rfl,rfl⟩
 | fail=>intro e e' t h;cases h
 | view s k ih =>
  intro e e' t h
  simp only [PM.runT,Option.map_eq_some_iff] at h
  obtain ⟨⟨e1,t1⟩,h,hx⟩:=h
  cases hx
  rcases ih _ h with ha | hd
  ·exact .inl (by simp [Tok.join,ha])
  ·exact .inr ⟨t1,rfl,hd⟩
 | get s k ih =>
  intro e e' t h
  simp only [PM.runT] at h
  split at h
  ·cases h
  ·rename_i gb
   simp only [Option.map_eq_some_iff] at h
   obtain ⟨⟨e1,t1⟩,h,hx⟩:=h
   cases hx
   rcases ih _ h with ha | hd
   ·exact .inl (by simp [Tok.join,ha])
   ·refine .inr ⟨?_,t1,rfl,hd⟩
    cases hl:e.get s<;>first | rfl | exact absurd hl (gb _)
 | set s v k ih =>
  intro e e' t h
  simp only [PM.runT,Option.map_eq_some_iff] at h
  obtain ⟨⟨e1,t1⟩,h,hx⟩:=h
  cases hx
  rcases ih h with ha | hd
  ·exact .inl (by simp [Tok.join,ha])
  ·exact .inr ⟨t1,rfl,by rw [zBi] at hd;exact hd⟩
 | cells r pre i c n k ih =>
  intro e e' t h
  simp only [PM.runT] at h
  split at h
  ·rename_i a qs kF
   simp only [Option.map_eq_some_iff] at h
   obtain ⟨⟨e1,t1⟩,h,hx⟩:=h
   cases hx
   rcases ih _ _ h with ha | hd
   ·exact .inl (by simp [Tok.join,ha])
   ·exact .inr ⟨a,qs,t1,kF,rfl,hd⟩
  ·cases h
 | deep r pre k ih =>
  intro e e' t h
  simp only [PM.runT] at h
  split at h
  ·rename_i q hn
   simp only [Option.map_eq_some_iff] at h
   obtain ⟨⟨e1,t1⟩,h,hx⟩:=h
   cases hx
   rcases ih _ h with ha | hd
   ·exact .inl (by simp [Tok.join,ha])
   ·exact .inr ⟨q,t1,hn,rfl,hd⟩
  ·cases h
 | wcells r pre i c qs k ih =>
  intro e e' t h
  simp only [PM.runT] at h
  split at h
  ·rename_i root hn
   simp only [Option.map_eq_some_iff] at h
   obtain ⟨⟨e1,t1⟩,h,hx⟩:=h
   cases hx
   rcases ih h with ha | hd
   ·exact .inl (by simp [Tok.join,ha])
   ·exact .inr ⟨root,t1,hn,rfl,by rw [zBi] at hd;exact hd⟩
  ·cases h
 | wnode r pre q k ih =>
  intro e e' t h
  simp only [PM.runT] at h
  cases hl:(e.get r).isLock with
  | true=>rw [hl] at h;cases h
  | false =>
   rw [hl] at h;simp only [cond_false] at h
   split at h
   ·rename_i root hn
    simp only [Option.map_eq_some_iff] at h
    obtain ⟨⟨e1,t1⟩,h,hx⟩:=h
    cases hx
    rcases ih h with ha | hd
    ·exact .inl (by simp [Tok.join,ha])
    ·exact .inr ⟨hl,root,t1,hn,rfl,by rw [zBi] at hd;exact hd⟩
   ·cases h
 | kill r pre k ih =>
  intro e e' t h
  simp only [PM.runT,Option.map_eq_some_iff] at h
  obtain ⟨⟨e1,t1⟩,h,hx⟩:=h
  cases hx
  rcases ih h with hb | hd
  ·exact .inl (by simp [Tok.join,zAN,hb])
  ·have hg:(e.kill r pre).get=fun s=>(e.get s).mapW (lose r pre):=by funext s;rw [Env.get_kill]
   rw [hg] at hd ⊢
   exact .inr ⟨_,t1,zFS,rfl,hd⟩
 | frz r pre k ih =>
  intro e e' t h
  simp only [PM.runT] at h
  split at h
  ·rename_i e2 h2
   simp only [Option.map_eq_some_iff] at h
   obtain ⟨⟨e1,t1⟩,h,hx⟩:=h
   cases hx
   rcases ih h with hb | hd
   ·exact .inl (by simp [Tok.join,zAN,hb])
   ·obtain ⟨hl,q,root,hn,hm,hg⟩:=zT6 h2
    rw [hg] at hd ⊢
    exact .inr ⟨hl,_,t1,q,root,fun s hs=>zFS s (fun hm=>hs (List.mem_cons_of_mem _ hm)),by simp,hn,hm,rfl,hd⟩
  ·cases h
 | killEx r keep k ih =>
  intro e e' t h
  simp only [PM.runT,Option.map_eq_some_iff] at h
  obtain ⟨⟨e1,t1⟩,h,hx⟩:=h
  cases hx
  rcases ih h with hb | hd
  ·exact .inl (by simp [Tok.join,zAN,hb])
  ·have hg:(e.killEx r keep).get=fun s=>(e.get s).mapW (zBF r keep):=by funext s;rw [Env.get_killEx]
   rw [hg] at hd ⊢
   exact .inr ⟨_,t1,zFS,rfl,hd⟩
 | forget r k ih =>
  intro e e' t h
  simp only [PM.runT,Option.map_eq_some_iff] at h
  obtain ⟨⟨e1,t1⟩,h,hx⟩:=h
  cases hx
  exact .inl rfl
 | call f args hid k ih =>
  intro e e' t h
  simp only [PM.runT] at h
  split at h
  ·rename_i v hid' ho
   rcases ih _ _ h with ha | hd
   ·exact .inl ha
   ·exact .inr ⟨v,hid',ho,hd⟩
  ·cases h
theorem zNy:∀ {p:PM} {e:Env} {g':zCM} {t:Tok},p.does o e.get t g'→t.all=false→∃ e',p.run o e=some e'∧e'.get=g':=by
 intro p
 induction p with
 | ok=>intro e g' t h _;exact ⟨e,rfl,h.2.symm⟩
 | fail=>intro e g' t h;cases h
 | view s k ih =>
  intro e g' t ⟨t',he,h⟩ ha
  subst he;exact ih _ h ha
 | get s k ih =>
  intro e g' t ⟨hl,t',he,h⟩ ha
  subst he
  obtain ⟨e',h1,h2⟩:=ih _ h ha
  refine ⟨e',?_,h2⟩
  simp only [PM.run]
  split
  ·rename_i p hp;rw [hp] at hl;cases hl
  ·exact h1
 | set s v k ih =>
  intro e g' t ⟨t',he,h⟩ ha
  subst he
  exact ih (e:=e.set s v) (by rw [zBi];exact h) (by simpa [Tok.join,zFo] using ha)
 | cells r pre i c n k ih =>
  intro e g' t ⟨a,qs,t',kF,he,h⟩ ha
  subst he
  obtain ⟨e',h1,h2⟩:=ih _ _ h ha
  exact ⟨e',by simp only [PM.run,kF];exact h1,h2⟩
 | deep r pre k ih =>
  intro e g' t ⟨q,t',hn,he,h⟩ ha
  subst he
  obtain ⟨e',h1,h2⟩:=ih _ h ha
  exact ⟨e',by simp only [PM.run,hn];exact h1,h2⟩
 | wcells r pre i c qs k ih =>
  intro e g' t ⟨root,t',hn,he,h⟩ ha
  subst he
  obtain ⟨e',h1,h2⟩:=ih (e:=e.set r root) (by rw [zBi];exact h) (by simpa [Tok.join,zBd] using ha)
  exact ⟨e',by simp only [PM.run,hn];exact h1,h2⟩
 | wnode r pre q k ih =>
  intro e g' t ⟨hl,root,t',hn,he,h⟩ ha
  subst he
  obtain ⟨e',h1,h2⟩:=ih (e:=e.set r root) (by rw [zBi];exact h) (by simpa [Tok.join,zBd] using ha)
  exact ⟨e',by simp only [PM.run,hl,cond_false,hn];exact h1,h2⟩
 | kill r pre k ih =>
  intro e g' t ⟨D,t',hD,he,h⟩ ha
  subst he
  exact ih (e:=e.kill r pre) (t:=t') (by
   have:(e.kill r pre).get=fun s=>(e.get s).mapW (lose r pre):=by funext s;rw [Env.get_kill]
   rw [this];exact h) (by simpa [Tok.join,zAN] using ha)
 | frz r pre k ih =>
  intro e g' t ⟨hl,D,t',q,root,hD,hr,hn,hm,he,h⟩ ha
  subst he
  have hf:e.frz r pre=some ((e.set r root).map fun x=>(x.1,x.2.mapW (inl r pre q))):=by
   simp only [Env.frz,hl,cond_false,hn,hm]
  have hg:Env.get ((e.set r root).map fun x=>(x.1,x.2.mapW (inl r pre q)))=fun s=>(upd e.get r root s).mapW (inl r pre q):=by
   funext s;rw [Env.get_map (e.set r root) (g:=fun p=>p.mapW (inl r pre q)) rfl s,zBi]
  obtain ⟨e',h1,h2⟩:=ih (e:=(e.set r root).map fun x=>(x.1,x.2.mapW (inl r pre q))) (t:=t') (by rw [hg];exact h) (by simpa [Tok.join,zAN] using ha)
  exact ⟨e',by simp only [PM.run,hf];exact h1,h2⟩
 | killEx r keep k ih =>
  intro e g' t ⟨D,t',hD,he,h⟩ ha
  subst he
  exact ih (e:=e.killEx r keep) (t:=t') (by
   have:(e.killEx r keep).get=fun s=>(e.get s).mapW (zBF r keep):=by funext s;rw [Env.get_killEx]
   rw [this];exact h) (by simpa [Tok.join,zAN] using ha)
 | forget r k ih=>intro e g' t h ha;rw [show t.all=true from h] at ha;cases ha
 | call f args hid k ih =>
  intro e g' t ⟨v,hid',ho,h⟩ ha
  obtain ⟨e',h1,h2⟩:=ih _ _ h ha
  exact ⟨e',by simp only [PM.run,ho];exact h1,h2⟩
end
section
variable {o:zAF}
theorem zEU (e:Env) (h s:Nat):(e.forget h).get s=if s=h∨(e.get s).num=true then e.get s else .bad:=by
 induction e with
 | nil=>exact (ite_self (c:=s=h∨PV.bad.num=true) PV.bad).symm
 | cons x e ih =>
  obtain ⟨k,v⟩:=x
  have ih:Env.get (List.map (fun x=>bif Nat.beq x.1 h||x.2.num then x else (x.1,PV.bad)) e) s=_:=ih
  simp only [Env.forget,List.map_cons]
  cases hb:Nat.beq k s with
  | true =>
   have hk:=Nat.eq_of_beq_eq_true hb
   subst hk
   have e1:Env.get ((k,v)::e) k=v:=by simp only [Env.get,hb,cond_true]
   rw [e1]
   cases hc:(Nat.beq k h||v.num) with
   | true =>
    rw [cond_true]
    simp only [Env.get,hb,cond_true]
    rw [Bool.or_eq_true] at hc
    rw [if_pos (hc.imp (fun h=>Nat.eq_of_beq_eq_true h) id)]
   | false =>
    rw [cond_false]
    simp only [Env.get,hb,cond_true]
    rw [Bool.or_eq_false_iff] at hc
    rw [if_neg]
    rintro (h1 | h1)
    ·subst h1;rw [Nat.beq_refl] at hc;cases hc.1
    ·rw [hc.2] at h1;cases h1
  | false =>
   have e1:Env.get ((k,v)::e) s=Env.get e s:=by simp only [Env.get,hb,cond_false]
   rw [e1,← ih]
   cases (Nat.beq k h||v.num)<;>simp only [cond_true,cond_false,Env.get,hb]
theorem zQ0 {e f e1:Env} {r:Nat} {pre:zAS} (he:f.get=e.get) (h:e.frz r pre=some e1):∃ f1,f.frz r pre=some f1∧f1.get=e1.get:=by
 simp only [Env.frz] at h ⊢
 rw [he]
 cases hl:(e.get r).isLock with
 | true=>rw [hl] at h;cases h
 | false =>
  rw [hl] at h;simp only [cond_false] at h ⊢
  cases hn:zAC (e.get r) pre with
  | none=>rw [hn] at h;cases h
  | some q =>
   rw [hn] at h;simp only at h ⊢
   cases hm:zAv (fun _=>some (zA0 q)) (e.get r) pre with
   | none=>rw [hm] at h;cases h
   | some root =>
    rw [hm] at h;simp only [Option.some.injEq] at h ⊢
    subst h
    refine ⟨_,rfl,?_⟩
    funext s
    rw [Env.get_map (f.set r root) (g:=fun p=>p.mapW (inl r pre q)) rfl s,Env.get_map (e.set r root) (g:=fun p=>p.mapW (inl r pre q)) rfl s,zBi,zBi,he]
theorem zFK:∀ {p:PM} {e f e1:Env},f.get=e.get→p.run o e=some e1→∃ f1,p.run o f=some f1∧f1.get=e1.get:=by
 intro p
 induction p with
 | ok=>intro e f e1 he h;simp only [PM.run,Option.some.injEq] at h;subst h;exact ⟨f,rfl,he⟩
 | fail=>intro e f e1 he h;cases h
 | view s k ih=>intro e f e1 he h;simp only [PM.run] at h ⊢;rw [he];exact ih _ he h
 | get s k ih =>
  intro e f e1 he h
  simp only [PM.run] at h ⊢
  rw [he]
  split at h
  ·cases h
  ·exact ih _ he h
 | set s v k ih=>intro e f e1 he h;exact ih (by rw [zBi,zBi,he]) h
 | cells r pre i c n k ih =>
  intro e f e1 he h
  simp only [PM.run] at h ⊢
  rw [he]
  split at h
  ·exact ih _ _ he h
  ·cases h
 | deep r pre k ih =>
  intro e f e1 he h
  simp only [PM.run] at h ⊢
  rw [he]
  split at h
  ·exact ih _ he h
  ·cases h
 | wcells r pre i c qs k ih =>
  intro e f e1 he h
  simp only [PM.run] at h ⊢
  rw [he]
  split at h
  ·exact ih (by rw [zBi,zBi,he]) h
  ·cases h
 | wnode r pre q k ih =>
  intro e f e1 he h
  simp only [PM.run] at h ⊢
  rw [he]
  cases hl:(e.get r).isLock with
  | true=>rw [hl] at h;cases h
  | false =>
   rw [hl] at h;simp only [cond_false] at h ⊢
   split at h
   ·exact ih (by rw [zBi,zBi,he]) h
   ·cases h
 | kill r pre k ih=>intro e f e1 he h;exact ih (by funext s;rw [Env.get_kill,Env.get_kill,he]) h
 | frz r pre k ih =>
  intro e f e1 he h
  simp only [PM.run] at h ⊢
  split at h
  ·rename_i e2 h2
   obtain ⟨f2,jk,hg⟩:=zQ0 he h2
   rw [jk]
   exact ih hg h
  ·cases h
 | killEx r pre k ih=>intro e f e1 he h;exact ih (by funext s;rw [Env.get_killEx,Env.get_killEx,he]) h
 | forget r k ih=>intro e f e1 he h;exact ih (by funext s;rw [zEU,zEU,he]) h
 | call f args hid k ih =>
  intro e f e1 he h
  simp only [PM.run] at h ⊢
  split at h
  ·exact ih _ _ he h
  ·cases h
theorem zEe:∀ {p:PM} {e e1:Env} {t:Tok},p.runT o e=some (e1,t)→p.run o e=some e1:=by
 have mp:∀ {x:Option (Env×Tok)} {f:Tok→Tok} {e1:Env} {t:Tok},(x.map fun y=>(y.1,f y.2))=some (e1,t)→∃ t',x=some (e1,t'):=by
  intro x f e1 t h
  cases x with
  | none=>cases h
  | some y=>simp only [Option.map_some,Option.some.injEq,Prod.mk.injEq] at h;exact ⟨y.2,by rw [← h.1]⟩
 intro p
 induction p with
 | ok=>intro e e1 t h;simp only [PM.runT,Option.some.injEq,Prod.mk.injEq] at h;rw [← h.1];rfl
 | fail=>intro e e1 t h;cases h
 | view s k ih=>intro e e1 t h;obtain ⟨t',h'⟩:=mp h;exact ih _ h'
 | get s k ih =>
  intro e e1 t h
  simp only [PM.runT,PM.run] at h ⊢
  split at h
  ·cases h
  ·obtain ⟨t',h'⟩:=mp h;exact ih _ h'
 | set s v k ih=>intro e e1 t h;obtain ⟨t',h'⟩:=mp h;exact ih h'
 | cells r pre i c n k ih =>
  intro e e1 t h
  simp only [PM.runT,PM.run] at h ⊢
  split at h
  ·obtain ⟨t',h'⟩:=mp h;exact ih _ _ h'
  ·cases h
 | deep r pre k ih =>
  intro e e1 t h
  simp only [PM.runT,PM.run] at h ⊢
  split at h
  ·obtain ⟨t',h'⟩:=mp h;exact ih _ h'
  ·cases h
 | wcells r pre i c qs k ih =>
  intro e e1 t h
  simp only [PM.runT,PM.run] at h ⊢
  split at h
  ·obtain ⟨t',h'⟩:=mp h;exact ih h'
  ·cases h
 | wnode r pre q k ih =>
  intro e e1 t h
  simp only [PM.runT,PM.run] at h ⊢
  cases hl:(e.get r).isLock with
  | true=>rw [hl] at h;cases h
  | false =>
   rw [hl] at h;simp only [cond_false] at h ⊢
   split at h
   ·obtain ⟨t',h'⟩:=mp h;exact ih h'
   ·cases h
 | kill r pre k ih=>intro e e1 t h;obtain ⟨t',h'⟩:=mp h;exact ih h'
 | frz r pre k ih =>
  intro e e1 t h
  simp only [PM.runT,PM.run] at h ⊢
  split at h
  ·obtain ⟨t',h'⟩:=mp h;exact ih h'
  ·cases h
 | killEx r pre k ih=>intro e e1 t h;obtain ⟨t',h'⟩:=mp h;exact ih h'
 | forget r k ih=>intro e e1 t h;obtain ⟨t',h'⟩:=mp (f:=fun _=>({all:=true}:Tok)) h;exact ih h'
 | call f args hid k ih =>
  intro e e1 t h
  simp only [PM.runT,PM.run] at h ⊢
  split at h
  ·exact ih _ _ h
  ·cases h
theorem zFD {e f:Env} {o:Oper} (h:f.get=e.get):zCa f o=zCa e o:=by
 have hv:zPn f=zPn e:=by funext x;cases x<;>simp only [zPn,h]
 simp only [zCa,h,hv]
theorem zNm {e f:Env} {ops:Array Oper} {o:Oper} (h:f.get=e.get):zLd ops f o=zLd ops e o:=by simp only [zLd,h]
theorem zJR {orc:zAF} {ops:Array Oper} {x:Oper} {k:Nat} {args:List PV} {l:Log} {e f e1:Env} {lg:Option Log} (h:f.get=e.get) (hr:zBP orc ops x k args l e=some (e1,lg)) :
  ∃ f1,zBP orc ops x k args l f=some (f1,lg)∧f1.get=e1.get:=by
 have mp:∀ {p:PM} {e f:Env} {lg':Option Log},f.get=e.get→(p.run orc e).map (fun e'=>(e',lg'))=some (e1,lg)→∃ f1,(p.run orc f).map (fun e'=>(e',lg'))=some (f1,lg)∧f1.get=e1.get:=by
  intro p e f lg' h hr
  obtain ⟨e2,h1,h2⟩:=Option.map_eq_some_iff.1 hr
  cases h2
  obtain ⟨f2,h3,h4⟩:=zFK h h1
  exact ⟨f2,by rw [h3];rfl,h4⟩
 have hfg:(f.forget zAb).get=(e.forget zAb).get:=by funext s;rw [zEU,zEU,h]
 simp only [zBP,zNm h] at hr ⊢
 split at hr
 ·cases hc:(args.all PV.flat&&l.k != 0&&Nat.beq k l.at_) with
  | false=>rw [hc] at hr;cases hr
  | true =>
   rw [hc] at hr;simp only [cond_true] at hr ⊢
   cases jV:(l.k==1) with
   | true=>rw [jV] at hr;exact mp hfg hr
   | false=>rw [jV] at hr;exact mp h hr
 ·exact mp h hr
 ·cases hr
section
variable {P:Program} {H:zBh} {o:zAF}
theorem zLp {ops:Array Oper} {x:Oper} {fz tk nl:Bool} {e:Env} {lg:Option Log} {t:Tok} {m:zCM} (h:(zFr P H ops fz tk nl x).does o e.get t m) (ha:t.all=false) :
  ∃ e1,zCN P H o fz tk nl ops x e lg=some (e1,lg)∧e1.get=m:=by
 obtain ⟨e1,h1,h2⟩:=zNy h ha
 cases lg with
 | none=>exact ⟨e1,by simp only [zCN,h1,Option.map_some],h2⟩
 | some l =>
  cases hy:zCa e x with
  | none=>exact ⟨e1,by simp only [zCN,hy,h1,Option.map_some],h2⟩
  | some kargs =>
   obtain ⟨kk,args⟩:=kargs
   have jd:(opM P H fz tk nl x).run o e=none:=by
    simp only [zCa] at hy
    split at hy
    ·rename_i c hc
     split at hy
     ·rename_i tc yv
      split at hy
      ·rename_i k hk
       simp only [opM,hc,zKv,yv,opd,PM.run,hk]
       rfl
      ·cases hy
     ·cases hy
    ·cases hy
   simp only [zFr] at h1
   simp only [zCN,hy,zBP,zLd]
   cases hg:x.guard with
   | none=>rw [hg] at h1;rw [jd] at h1;cases h1
   | some jw =>
    obtain ⟨j,want⟩:=jw
    rw [hg] at h1;simp only at h1 ⊢
    cases hj:(ops[j]?).bind (·.dst) with
    | none=>rw [hj] at h1;cases h1
    | some tj =>
     rw [hj] at h1;simp only [PM.run] at h1 ⊢
     cases hp:e.get tj<;>rw [hp] at h1<;>simp only at h1<;>try (cases h1;done)
     case bool b =>
      simp only
      by_cases hb:b=want
      ·rw [if_pos hb,jd] at h1;cases h1
      ·rw [if_neg hb] at h1
       have:(b==want)=false:=by simpa using hb
       rw [this];simp only [h1,Option.map_some]
       exact ⟨e1,rfl,h2⟩
     case und =>
      simp only [h1,Option.map_some]
      exact ⟨e1,rfl,h2⟩
def zOA (P:Program) (H:zBh) (o:zAF) (fz tk nl:Bool) (ops:Array Oper) (x:Oper) (t:Tok) (g:zCM) (lg:Option Log) (m:zCM) (lg':Option Log):Prop :=
 (t.all=true∧∀ e:Env,e.get=g→∃ e1,zCN P H o fz tk nl ops x e lg=some (e1,lg')∧e1.get=m)∨(t.all=false∧lg'=lg∧(zFr P H ops fz tk nl x).does o g t m)
theorem zOA.run {fz tk nl:Bool} {ops:Array Oper} {x:Oper} {t:Tok} {e:Env} {m:zCM} {lg lg':Option Log} (h:zOA P H o fz tk nl ops x t e.get lg m lg'):∃ e1,zCN P H o fz tk nl ops x e lg=some (e1,lg')∧e1.get=m:=by
 rcases h with ⟨_,h⟩ | ⟨ha,rfl,h⟩
 ·exact h e rfl
 ·exact zLp h ha
theorem zQC {fz tk nl:Bool} {ops:Array Oper} {x:Oper} {t:Tok} {e e1:Env} {lg lg':Option Log} (h:zEi P H o fz tk nl ops x e lg=some (e1,lg',t)):zOA P H o fz tk nl ops x t e.get lg e1.get lg':=by
 cases lg with
 | none =>
  simp only [zEi] at h
  obtain ⟨⟨e2,t2⟩,h1,h2⟩:=Option.map_eq_some_iff.1 h
  cases h2
  cases ha:t2.all with
  | true =>
   refine .inl ⟨ha,fun f hf=>?_⟩
   obtain ⟨f1,h3,h4⟩:=zFK hf (zEe h1)
   exact ⟨f1,by simp only [zCN,h3,Option.map_some],h4⟩
  | false =>
   rcases zH7 h1 with h3 | h3
   ·rw [h3] at ha;cases ha
   ·exact .inr ⟨ha,rfl,h3⟩
 | some l =>
  simp only [zEi] at h
  cases hy:zCa e x with
  | none =>
   rw [hy] at h;simp only at h
   obtain ⟨⟨e2,t2⟩,h1,h2⟩:=Option.map_eq_some_iff.1 h
   cases h2
   cases ha:t2.all with
   | true =>
    refine .inl ⟨ha,fun f hf=>?_⟩
    obtain ⟨f1,h3,h4⟩:=zFK hf (zEe h1)
    exact ⟨f1,by simp only [zCN,zFD hf,hy,h3,Option.map_some],h4⟩
   | false =>
    rcases zH7 h1 with h3 | h3
    ·rw [h3] at ha;cases ha
    ·exact .inr ⟨ha,rfl,h3⟩
  | some kargs =>
   obtain ⟨kk,args⟩:=kargs
   rw [hy] at h;simp only at h
   obtain ⟨⟨e2,lg2⟩,h1,h2⟩:=Option.map_eq_some_iff.1 h
   cases h2
   refine .inl ⟨rfl,fun f hf=>?_⟩
   obtain ⟨f1,h3,h4⟩:=zJR hf h1
   exact ⟨f1,by simp only [zCN,zFD hf,hy,h3],h4⟩
def zNb (P:Program) (H:zBh) (o:zAF) (fzs tks:List Nat) (nl:Bool) (ops:Array Oper) (tk:Nat→Tok):List Nat→zCM→Option Log→zCM→Option Log→Prop
 | [],g,lg,g',lg'=>g'=g∧lg'=lg
 | i::l,g,lg,g',lg'=>∃ x m lm,ops[i]? = some x∧zOA P H o (fzs.contains i) (tks.contains i) nl ops x (tk i) g lg m lm∧zNb P H o fzs tks nl ops tk l m lm g' lg'
theorem zIZ {fzs tks:List Nat} {nl:Bool} {ops:Array Oper} {tk:Nat→Tok} {i:Nat} {l2:List Nat}:∀ {l1:List Nat} {g g':zCM} {lg lg':Option Log},zNb P H o fzs tks nl ops tk (l1++i::l2) g lg g' lg'→(∀ j∈l1,zPp (tk j) (tk i)=false)→zNb P H o fzs tks nl ops tk (i::(l1++l2)) g lg g' lg'
 | [],_,_,_,_,h,_=>h
 | j :: l1,g,g',lg,lg',⟨x,m,lm,hx,h1,h2⟩,hc=>by
  obtain ⟨y,m2,lm2,hy,h3,h4⟩:=zIZ h2 fun k hk=>hc k (by simp [hk])
  have yP:=hc j (by simp)
  simp only [zPp,Bool.or_eq_false_iff] at yP
  have hp:=zJ0 yP.1
  have hq:=zJ0 yP.2
  rcases h1 with ⟨ha,_⟩ | ⟨_,rfl,hd1⟩
  ·have:=hp.all;rw [ha] at this;cases this
  ·rcases h3 with ⟨ha,_⟩ | ⟨_,rfl,hd2⟩
   ·have:=hq.all;rw [ha] at this;cases this
   ·obtain ⟨n,vV,j5⟩:=zWm hd1 hd2 hp hq
    exact ⟨y,n,_,hy,.inr ⟨hq.all,rfl,vV⟩,x,m2,_,hx,.inr ⟨hp.all,rfl,j5⟩,h4⟩
end
end
section
variable {P:Program} {H:zBh} {w0 w:World} {U Φ0 Φ:Nat→Prop} {nt:Nat} {hv:Hid} {a:Act} {e e':Env} {rv:Nat→Value} {E:Nat→PV} {L:Nat→List Nat} {orc:zAF} {ro:Option Nat} {n:Nat} {Q:Exit→Act→World→Prop}
theorem Fr.get' (hf:Fr w0 U Φ0 nt hv a w e) (h:e'.get=e.get):Fr w0 U Φ0 nt hv a w e':=by
 obtain ⟨Φ,rv,E,L,S,hb⟩:=hf
 exact ⟨Φ,rv,E,L,⟨S.conf,fun s hs=>by rw [h];exact S.env s hs,S.size,S.small,S.tmps,S.parts,S.hid,S.dfr⟩,hb⟩
theorem Fr.tick (hf:Fr w0 U Φ0 nt hv a w e) (d:Nat):Fr w0 U Φ0 nt hv a {w with drawn:=d} e:=by
 obtain ⟨Φ,rv,E,L,S,hb⟩:=hf
 have hc:Conf w0 U Φ0 {w with drawn:=d} Φ rv E L:=by
  refine S.conf.step2 some (fun p=>p) zCe (fun a b t ha hb=>by cases ha;cases hb;rfl) (fun a t ha=>by cases ha;exact ⟨(zBg _).symm,rfl,rfl⟩) (fun a ha=>by cases ha) (fun a v hw ha=>?_)
   (fun a ha=>by cases ha) (fun a b ha=>by cases ha) (fun a ha=>by cases ha) (Nat.le_refl _) (fun _ _ _=>rfl) ⟨rfl,rfl,rfl⟩
  exact zCW hw (zCF S.conf zCe ha (zBg _).symm rfl (fun _ _=>rfl))
 exact ⟨Φ,rv,E,L,⟨hc,S.env,S.size,S.small,S.tmps,S.parts,S.hid,S.dfr⟩,hb⟩
structure Drawn (ops:Array Oper) (i:Nat) (Bs:List Nat) (Ts:List Tok):Prop where
 early:∀ (k:Nat) (x:Oper),i≤k→ops[k]? = some x→∀ ed∈x.after.toList,Region.binds .any ed=true→ed.on<k
 bits:∀ (k:Nat) (x:Oper),i≤k→ops[k]? = some x→∀ j,(Bs.getD k 0).testBit j=true→∃ ed∈x.after.toList,Region.binds .any ed=true∧(ed.on=j∨(Bs.getD ed.on 0).testBit j=true)
 free:∀ (k j:Nat),i≤k→k<ops.size→j<k→(Bs.getD k 0).testBit j=true∨zPp (Ts.getD j {}) (Ts.getD k {})=false
theorem zIH {b:Nat} {t:Tok}:∀ {l:List Tok} {j:Nat},zFV b t j l=true→∀ k,k<l.length→b.testBit (j+k)=true∨zPp (l.getD k {}) t=false
 | [],j,_,k,hk=>by cases hk
 | u :: us,j,h,k,hk=>by
  simp only [zFV,Bool.and_eq_true,Bool.or_eq_true,Bool.not_eq_true'] at h
  cases k with
  | zero=>simpa using h.1
  | succ k =>
   have:=zIH h.2 k (by simpa using hk)
   rw [show j+(k+1)=j+1+k by omega]
   simpa using this
theorem zQo {acc:List Nat} {o:Oper} {j:Nat} (h:(zHO acc o).testBit j=true):∃ ed∈o.after.toList,Region.binds .any ed=true∧(ed.on=j∨(acc.getD ed.on 0).testBit j=true):=by
 have key:∀ (l:List Edge) (s:Nat),(l.foldl (fun s e=>if Region.binds .any e then s ||| 2 ^ e.on ||| acc.getD e.on 0 else s) s).testBit j=true→s.testBit j=true∨∃ ed∈l,Region.binds .any ed=true∧(ed.on=j∨(acc.getD ed.on 0).testBit j=true):=by
  intro l
  induction l with
  | nil=>intro s h;exact .inl h
  | cons x l ih =>
   intro s h
   rcases ih _ h with h1 | ⟨ed,h1,h2⟩
   ·simp only at h1
    by_cases hb:Region.binds .any x=true
    ·rw [if_pos hb] at h1
     simp only [Nat.testBit_or,Bool.or_eq_true] at h1
     rcases h1 with (h1 | h1) | h1
     ·exact .inl h1
     ·refine .inr ⟨x,by simp,hb,.inl ?_⟩
      rw [Nat.testBit_two_pow] at h1
      simpa using h1
     ·exact .inr ⟨x,by simp,hb,.inr h1⟩
    ·rw [if_neg hb] at h1;exact .inl h1
   ·exact .inr ⟨ed,by simp [h1],h2⟩
 rcases key _ _ h with h1 | h1
 ·simp at h1
 ·exact h1
theorem zJv {fzs tks:List Nat} {nl:Bool} {ops:Array Oper} {lg':Option Log}:∀ (l:List Oper) (i:Nat) (acc:List Nat) (ts:List Tok) (e:Env) (lg:Option Log),zCo P H orc fzs tks nl ops l i acc ts e lg=some (e',lg')→l=ops.toList.drop i→i+l.length=ops.size→acc.length=i→ts.length=i →
  ∃ Bs Ts,(∀ k,k<i→Bs.getD k 0=acc.getD k 0∧Ts.getD k {}=ts.getD k {})∧Drawn ops i Bs Ts∧zNb P H orc fzs tks nl ops (fun k=>Ts.getD k {}) (List.range' i l.length) e.get lg e'.get lg'
 | [],i,acc,ts,e,lg,h,hl,hs,ha,ht=>by
  simp only [zCo,Option.some.injEq,Prod.mk.injEq] at h
  obtain ⟨rfl,rfl⟩:=h
  have yD:ops.size=i:=by simpa using hs.symm
  refine ⟨acc,ts,fun k _=>⟨rfl,rfl⟩,⟨fun k x hk hx=>?_,fun k x hk hx=>?_,fun k j hk wH=>by omega⟩,rfl,rfl⟩
  ·have:=(Array.getElem?_eq_some_iff.1 hx).1;omega
  ·have:=(Array.getElem?_eq_some_iff.1 hx).1;omega
 | o :: l, i,acc,ts,e,lg,h,hl,hs,ha,ht=>by
  simp only [zCo] at h
  cases hr:zEi P H orc (fzs.contains i) (tks.contains i) nl ops o e lg with
  | none=>rw [hr] at h;cases h
  | some r =>
   obtain ⟨e1,lg1,t⟩:=r
   rw [hr] at h;simp only at h
   cases hb:(o.after.toList.all (fun e => !Region.binds .any e||Nat.blt e.on i)&&zFV (zHO acc o) t 0 ts) with
   | false=>rw [hb] at h;cases h
   | true =>
    rw [hb] at h;simp only [cond_true] at h
    rw [Bool.and_eq_true] at hb
    have hi:ops[i]? = some o:=by
     have:=congrArg (·[0]?) hl
     simp only [List.getElem?_cons_zero,List.getElem?_drop,Nat.add_zero] at this
     rw [← Array.getElem?_toList];exact this.symm
    have vG:l=ops.toList.drop (i+1):=by
     have:=congrArg List.tail hl
     simpa using this
    obtain ⟨Bs,Ts,h1,D,yi⟩:=zJv l (i+1) (acc++[zHO acc o]) (ts++[t]) e1 lg1 h vG (by simp at hs;omega) (by simp [ha]) (by simp [ht])
    have hBi:Bs.getD i 0=zHO acc o:=by rw [(h1 i (by omega)).1,← ha];simp [List.getD]
    have hTi:Ts.getD i {}=t:=by rw [(h1 i (by omega)).2,← ht];simp [List.getD]
    have hold:∀ k,k<i→Bs.getD k 0=acc.getD k 0∧Ts.getD k {}=ts.getD k {}:=by
     intro k hk
     obtain ⟨h2,h3⟩:=h1 k (by omega)
     rw [h2,h3]
     simp only [List.getD]
     rw [List.getElem?_append_left (by omega),List.getElem?_append_left (by omega)]
     exact ⟨rfl,rfl⟩
    have vu:∀ ed∈o.after.toList,Region.binds .any ed=true→ed.on<i:=by
     intro ed he hbd
     have:=List.all_eq_true.1 hb.1 ed he
     simp only [hbd,Bool.not_true,Bool.false_or] at this
     exact zBY this
    refine ⟨Bs,Ts,hold,⟨fun k x hk hx=>?_,fun k x hk hx j hj=>?_,fun k j hk hks hj=>?_⟩,?_⟩
    ·by_cases gJ:k=i
     ·subst gJ;rw [hi] at hx;cases hx;exact vu
     ·exact D.early k x (by omega) hx
    ·by_cases gJ:k=i
     ·subst gJ;rw [hi] at hx;cases hx
      rw [hBi] at hj
      obtain ⟨ed,h2,h3,h4⟩:=zQo hj
      refine ⟨ed,h2,h3,h4.imp_right fun h4=>?_⟩
      rw [(hold _ (vu ed h2 h3)).1];exact h4
     ·exact D.bits k x (by omega) hx j hj
    ·by_cases gJ:k=i
     ·subst gJ
      have:=zIH hb.2 j (by omega)
      rw [hBi,hTi,(hold j hj).2]
      simpa using this
     ·exact D.free k j (by omega) hks hj
    ·show zNb P H orc fzs tks nl ops _ (List.range' i (l.length+1)) _ _ _ _
     rw [List.range'_succ]
     refine ⟨o,e1.get,lg1,hi,?_,yi⟩
     simp only [hTi]
     exact zQC hr
structure Frame (P:Program) (H:zBh) (orc:zAF) (nt:Nat) (ro:Option Nat) (n:Nat) (D:Nat→Prop) (Fin:Option Log→Prop) (G:Act→World→Env→Option Log→Prop):Prop where
 down:∀ {ops:Array Oper} {o:Oper} {fz tk nl:Bool} {e e':Env} {lg lg':Option Log},zCN P H orc fz tk nl ops o e lg=some (e',lg')→Fin lg'→Fin lg
 step:∀ {ops:Array Oper} {i:Nat} {o:Oper} {fz tk nl:Bool} {a:Act} {w:World} {e e':Env} {lg lg':Option Log} {Q:Exit→Act→World→Prop},zNw P nt ops=true→ops[i]? = some o→(∀ d,o.dst=some d→D d)→Fin lg'→G a w e lg→zCN P H orc fz tk nl ops o e lg=some (e',lg') →
  wpOpIn (FF ro) n P ops Q i (fun a' w'=>G a' w' e' lg') a w
 get:∀ {a:Act} {w:World} {e e':Env} {lg:Option Log},G a w e lg→e'.get=e.get→G a w e' lg
 tick:∀ {a:Act} {w:World} {e:Env} {lg:Option Log} (d:Nat),G a w e lg→G a {w with drawn:=d} e lg
 drop:∀ {a:Act} {w:World} {e:Env} {lg:Option Log} (l:List Nat),G a w e lg→G a w (e.drop l) lg
 ice:∀ {a:Act} {w:World} {e:Env} {lg:Option Log} (l:List Nat),G a w e lg→G a w (zUm l e) lg
 cond:∀ {a:Act} {w:World} {e:Env} {lg:Option Log} {t:Nat} {b:Bool},G a w e lg→t<nt→e.get t = .bool b→a.tmps.getD t undef = .bool b
variable {G:Act→World→Env→Option Log→Prop} {Fin:Option Log→Prop} {D:Nat→Prop}
def zO9 (D:Nat→Prop) (ops:Array Oper):Prop:=∀ o∈ops.toList,∀ d,o.dst=some d→D d
theorem zO9.at {ops:Array Oper} (h:zO9 D ops) {i:Nat} {o:Oper} (hi:ops[i]? = some o):∀ d,o.dst=some d→D d:=h o (by rw [← Array.getElem?_toList] at hi;exact List.mem_of_getElem? hi)
theorem zJu (F:Frame P H orc nt ro n D Fin G) {fzs tks:List Nat} {nl:Bool} {ops:Array Oper} {tk:Nat→Tok}:∀ {l:List Nat} {e:Env} {g':zCM} {lg lg':Option Log},zNb P H orc fzs tks nl ops tk l e.get lg g' lg'→Fin lg'→Fin lg
 | [],_,_,_,_,⟨_,h⟩,hf=>by rw [← h];exact hf
 | i::l,e,g',lg,lg',⟨x,m,lm,_,yZ,hr⟩,hf=>by
  obtain ⟨e1,h1,h2⟩:=yZ.run
  exact F.down h1 (zJu F (by rw [h2];exact hr) hf)
theorem zU0 (F:Frame P H orc nt ro n D Fin G) {ops:Array Oper} (yw:zNw P nt ops=true) (hD:zO9 D ops) {fzs tks:List Nat} {nl:Bool} {Bs:List Nat} {Ts:List Tok} (Dr:Drawn ops 0 Bs Ts) {g':zCM} {lg':Option Log} (yJ:Fin lg')
  (hq:∀ a' w' e',e'.get=g'→G a' w' e' lg'→Q .normal a' w'):∀ (rem:List Nat) (listed:Array Bool) {a:Act} {w:World} {e:Env} {lg:Option Log},listed.size=ops.size→rem.Pairwise (· < ·)→(∀ i,i∈rem↔i<ops.size∧listed.getD i true=false) →
   (∀ i,i<ops.size→listed.getD i true=true→∀ j,(Bs.getD i 0).testBit j=true→listed.getD j true=true)→zNb P H orc fzs tks nl ops (fun k=>Ts.getD k {}) rem e.get lg g' lg'→G a w e lg →
   wpAnyIn (FF ro) n P .any ops Q rem.length listed a w:=by
 have ready_mem:∀ (listed:Array Bool) (i:Nat),i∈Region.ready .any ops listed↔i<ops.size∧listed.getD i true=false∧∀ x,ops[i]? = some x→∀ ed∈x.after.toList,Region.binds .any ed=true→listed.getD ed.on false=true:=by
  intro listed i
  simp only [Region.ready,List.mem_filter,List.mem_range,Bool.and_eq_true,Bool.not_eq_true']
  refine ⟨fun ⟨h1,h2,h3⟩=>⟨h1,h2,fun x hx ed he hb=>?_⟩,fun ⟨h1,h2,h3⟩=>⟨h1,h2,?_⟩⟩
  ·rw [hx] at h3
   simp only [Option.map_some,Option.getD_some,Array.all_eq_true'] at h3
   have:=h3 ed (by simpa using he)
   rw [hb] at this
   simpa using this
  ·have hx:ops[i]? = some ops[i]:=Array.getElem?_eq_getElem h1
   rw [hx]
   simp only [Option.map_some,Option.getD_some,Array.all_eq_true']
   intro ed he
   cases hb:Region.binds .any ed with
   | false=>rfl
   | true=>simpa using h3 _ hx ed (by simpa using he) hb
 have tf:∀ {listed:Array Bool} {k:Nat},k<listed.size→listed.getD k true=listed.getD k false:=by
  intro listed k hk
  simp [Array.getD,hk]
 have ft:∀ {listed:Array Bool} {k:Nat},listed.getD k false=true→listed.getD k true=true:=by
  intro listed k hk
  by_cases yL:k<listed.size
  ·rw [tf yL];exact hk
  ·simp [Array.getD,yL] at hk
 intro rem
 induction hm:rem.length generalizing rem with
 | zero =>
  intro listed a w e lg yD vw jA vz yi hf
  have hrem:rem=[]:=List.eq_nil_of_length_eq_zero hm
  subst hrem
  obtain ⟨h1,rfl⟩:=yi
  refine ⟨?_,hq a w e h1.symm hf⟩
  rw [List.eq_nil_iff_forall_not_mem]
  intro i hi
  obtain ⟨h1,h2,_⟩:=(ready_mem listed i).1 hi
  exact absurd ((jA i).2 ⟨h1,h2⟩) (by simp)
 | succ m ih =>
  intro listed a w e lg yD vw jA vz yi hf
  refine ⟨fun hr=>?_,fun i hi=>?_⟩
  ·
   exfalso
   match rem,hm with
   | i :: rest,_ =>
    have kU:=(jA i).1 (by simp)
    have:i∈Region.ready .any ops listed:=(ready_mem listed i).2 ⟨kU.1,kU.2,fun x hx ed he hb=>by
     have yL:=Dr.early i x (by omega) hx ed he hb
     have hed:ed.on<listed.size:=by omega
     rw [← tf hed]
     cases hl:listed.getD ed.on true with
     | true=>rfl
     | false =>
      have hin:=(jA ed.on).2 ⟨by omega,hl⟩
      rcases List.mem_cons.1 hin with h | h
      ·omega
      ·have:=List.rel_of_pairwise_cons vw h;omega⟩
    rw [hr] at this;cases this
  ·obtain ⟨h1,h2,h3⟩:=(ready_mem listed i).1 hi
   obtain ⟨l1,l2,gK⟩:=List.append_of_mem ((jA i).2 ⟨h1,h2⟩)
   subst gK
   have hx:ops[i]? = some ops[i]:=Array.getElem?_eq_getElem h1
   have vA:∀ j,(Bs.getD i 0).testBit j=true→listed.getD j true=true:=by
    intro j hj
    obtain ⟨ed,he,hb,hc⟩:=Dr.bits i _ (by omega) hx j hj
    have hl:=ft (h3 _ hx ed he hb)
    rcases hc with hc | hc
    ·rw [← hc];exact hl
    ·have yL:=Dr.early i _ (by omega) hx ed he hb
     exact vz ed.on (by omega) hl j hc
   have wA:∀ j∈l1,zPp (Ts.getD j {}) (Ts.getD i {})=false:=by
    intro j hj
    have vh:j<i:=by
     rw [List.pairwise_append] at vw
     exact vw.2.2 j hj i (by simp)
    rcases Dr.free i j (by omega) h1 vh with hb | hb
    ·have:=vA j hb
     have hjn:=(jA j).1 (by simp [hj])
     rw [hjn.2] at this;cases this
    ·exact hb
   obtain ⟨x,g1,lg1,jZ,yZ,yd⟩:=zIZ yi wA
   rw [hx] at jZ;cases jZ
   obtain ⟨e1,hr1,kX⟩:=yZ.run
   refine zDD (F.step yw hx (hD.at hx) (zJu F (by rw [kX];exact yd) yJ) hf hr1) fun a' w' yn=>?_
   have yU:∀ k,(listed.setIfInBounds i true).getD k true=if k=i then true else listed.getD k true:=by
    intro k
    simp only [Array.getD_eq_getD_getElem?,Array.getElem?_setIfInBounds]
    by_cases hk:i=k
    ·subst hk
     rw [if_pos rfl,if_pos rfl]
     split<;>rfl
    ·rw [if_neg hk,if_neg (fun e=>hk e.symm)]
   have hpw2:(l1++l2).Pairwise (· < ·):=by
    rw [List.pairwise_append] at vw ⊢
    refine ⟨vw.1,vw.2.1.tail,fun x hx y hy=>vw.2.2 x hx y (by simp [hy])⟩
   have hni:i∉l1∧i∉l2:=by
    rw [List.pairwise_append] at vw
    refine ⟨fun hin=>?_,fun hin=>?_⟩
    ·have:=vw.2.2 i hin i (by simp);omega
    ·have:=List.rel_of_pairwise_cons vw.2.1 hin;omega
   have hmem2:∀ k,k∈l1++l2↔k<ops.size∧(listed.setIfInBounds i true).getD k true=false:=by
    intro k
    rw [yU]
    by_cases hk:k=i
    ·subst hk
     simp only [if_true,List.mem_append]
     exact ⟨fun h=>absurd h (by simp [hni]),fun h=>by cases h.2⟩
    ·rw [if_neg hk,← jA k]
     simp only [List.mem_append,List.mem_cons,hk,false_or]
   have:=ih (l1++l2) (by simp at hm ⊢;omega) (listed.setIfInBounds i true) (by simpa using yD) hpw2 hmem2 (fun k hk hl j hj=>?_) (by rw [kX];exact yd) yn
   ·exact this
   ·rw [yU] at hl ⊢
    split
    ·rfl
    ·split at hl
     ·rename_i gJ;subst gJ;exact vA j hj
     ·exact vz k hk hl j hj
theorem zPg (F:Frame P H orc nt ro n D Fin G) (zFi:P.follows .mixedOrders=true) {ops:Array Oper} (yw:zNw P nt ops=true) (hD:zO9 D ops) {fzs tks:List Nat} {nl:Bool} {a:Act} {w:World} {e:Env} {lg lg':Option Log} {id:Nat} (yJ:Fin lg') (hf:G a w e lg)
  (h:zCo P H orc fzs tks nl ops ops.toList 0 [] [] e lg=some (e',lg')) (hq:∀ a' w',G a' w' e' lg'→Q .normal a' w'):(Code.region id ops true).wpIn (FF ro) n P Q a w:=by
 obtain ⟨Bs,Ts,_,Dr,yi⟩:=zJv ops.toList 0 [] [] e lg h (by simp) (by simp) rfl rfl
 refine wpIn_region_any zFi ?_
 have hO:(List.range' 0 ops.toList.length).length=ops.size:=by simp
 have:=zU0 (Q:=Q) F yw hD Dr (g':=e'.get) yJ (fun a' w' f hg yn=>hq a' w' (F.get yn hg.symm)) (List.range' 0 ops.toList.length) (Array.replicate ops.size false) (a:=a) (w:={w with drawn:=w.drawn+1}) (e:=e) (by simp) List.pairwise_lt_range' (fun i=>?_) (fun i hi hl=>?_) yi (F.tick _ hf)
 ·rw [hO] at this;exact this
 ·simp only [List.mem_range'_1,Array.length_toList]
  constructor
  ·intro ⟨_,h2⟩
   have:i<ops.size:=by omega
   exact ⟨this,by simp [Array.getD,this]⟩
  ·intro ⟨h2,_⟩;omega
 ·simp [Array.getD,hi] at hl
theorem zHE (F:Frame P H orc nt ro n D Fin G) {ops:Array Oper} {fzs tks:List Nat} {nl:Bool} {lg':Option Log}:∀ (l:List Oper) (i:Nat) {e:Env} {lg:Option Log},zBa P H orc fzs tks nl ops l i e lg=some (e',lg')→Fin lg'→Fin lg
 | [],i,e,lg,h,hf=>by
  simp only [zBa,Option.some.injEq,Prod.mk.injEq] at h
  rw [h.2];exact hf
 | o :: l,i,e,lg,h,hf=>by
  simp only [zBa] at h
  split at h
  ·rename_i e1 lg1 h1
   exact F.down h1 (zHE F l (i+1) h hf)
  ·cases h
theorem zRZ (F:Frame P H orc nt ro n D Fin G) {ops:Array Oper} {fzs tks:List Nat} {nl:Bool} {lg lg':Option Log} {e:Env} (h:zCo P H orc fzs tks nl ops ops.toList 0 [] [] e lg=some (e',lg')) (hf:Fin lg'):Fin lg:=by
 obtain ⟨Bs,Ts,_,D,yi⟩:=zJv ops.toList 0 [] [] e lg h (by simp) (by simp) rfl rfl
 exact zJu F yi hf
theorem zHP (F:Frame P H orc nt ro n D Fin G) {ops:Array Oper} (yw:zNw P nt ops=true) (hD:zO9 D ops) {fzs tks:List Nat} {nl:Bool} {lg':Option Log} (yJ:Fin lg'):∀ (l:List Oper) (i:Nat) {a:Act} {w:World} {e:Env} {lg:Option Log},l=ops.toList.drop i→i+l.length=ops.size→G a w e lg →
  zBa P H orc fzs tks nl ops l i e lg=some (e',lg')→(∀ a' w',G a' w' e' lg'→Q .normal a' w')→wpOpsIn (FF ro) n P ops Q (List.range' i l.length) a w
 | [],i,a,w,e,lg,hl,hs,hf,h,hq=>by
  simp only [zBa,Option.some.injEq,Prod.mk.injEq] at h
  obtain ⟨rfl,rfl⟩:=h
  exact hq _ _ hf
 | o :: l,i,a,w,e,lg,hl,hs,hf,h,hq=>by
  simp only [zBa] at h
  split at h
  ·rename_i e1 lg1 h1
   have hi:ops[i]? = some o:=by
    have:=congrArg (·[0]?) hl
    simp only [List.getElem?_cons_zero,List.getElem?_drop,Nat.add_zero] at this
    rw [← Array.getElem?_toList];exact this.symm
   have vG:l=ops.toList.drop (i+1):=by
    have:=congrArg List.tail hl
    simpa using this
   show wpOpsIn (FF ro) n P ops Q (List.range' i (l.length+1)) a w
   rw [List.range'_succ,wpOpsIn_cons]
   exact zDD (F.step yw hi (hD.at hi) (zHE F l (i+1) h yJ) hf h1) fun a' w' yn=>zHP F yw hD yJ l (i+1) vG (by simp at hs;omega) yn h hq
  ·cases h
end
end Go.Eng
namespace Go.Eng
open Go
theorem zTY (e:Env) (k:Nat) (v:PV) (s:Nat):(Env.put e k v).get s=if s=k then v else e.get s:=by
 by_cases hv:v = .bad
 ·subst hv
  simp only [Env.put]
  induction e with
  | nil=>simp only [List.filter_nil,Env.get];split<;>rfl
  | cons x e ih =>
   obtain ⟨k',v'⟩:=x
   simp only [List.filter_cons]
   cases hb:Nat.beq k' k with
   | true =>
    have:=Nat.eq_of_beq_eq_true hb
    subst this
    simp only [Bool.not_true,Bool.false_eq_true,if_false,ih,Env.get]
    by_cases hs:s=k'
    ·rw [if_pos hs,if_pos hs]
    ·rw [if_neg hs,if_neg hs]
     have:Nat.beq k' s=false:=by cases h:Nat.beq k' s with | false=>rfl | true=>exact absurd (Nat.eq_of_beq_eq_true h).symm hs
     rw [this];rfl
   | false =>
    simp only [Bool.not_false,if_true,Env.get]
    cases jS:Nat.beq k' s with
    | true =>
     have:=Nat.eq_of_beq_eq_true jS
     subst this
     have hH:k'≠k:=Nat.ne_of_beq_eq_false hb
     rw [if_neg hH];rfl
    | false=>simp only [cond_false,ih]
 ·have:Env.put e k v=e.set k v:=by cases v<;>first | rfl | exact absurd rfl hv
  rw [this,Env.get_set]
theorem zIj:∀ (e:Env) (s:Nat),e.norm.get s=e.get s
 | [],_=>rfl
 | (k,v)::e,s=>by
  simp only [Env.norm,zTY,zIj e,Env.get]
  cases hb:Nat.beq k s with
  | true=>rw [if_pos (Nat.eq_of_beq_eq_true hb).symm];rfl
  | false=>rw [if_neg (Ne.symm (Nat.ne_of_beq_eq_false hb))];rfl
section
variable {F:Fence} {n:Nat} {P:Program} {a:Act} {k:List Item} {cs:List Go.Frame} {w:World} {Q:Exit→Act→World→Prop}
theorem zDu {b:Go.Frame} {c:Code}:step P (lone (b.atR a (.code (.scope c)::k)) cs w) = .next (lone (b.atR a (.code c :: .inScope c::k)) cs w) :=
 step_lone_go (by simp [stepG,stepG.exec,Go.Frame.atR])
theorem zLk {b:Go.Frame} {c:Code}:step P (lone (b.atR a (.inScope c::k)) cs w) = .next (lone (b.atR a k) cs w) :=
 step_lone_go (by simp [stepG,stepG.exec,Go.Frame.atR])
theorem zO0 {c:Code} (hq:∀ l a w,¬ Q (.goto l) a w) (h:c.wpIn F n P Q a w):(Code.scope c).wpIn F n P Q a w:=by
 intro b k cs um hb hr
 have h0:(lone (b.atR a (.code (.scope c)::k)) cs w).fenced P F:=fenced_calm hb hr rfl
 obtain ⟨e,a₁,w₁,kf,vO⟩:=h b (.inScope c::k) cs um hb hr
 cases e with
 | normal=>exact ⟨.normal,a₁,w₁,kf,.head h0 zDu (StepsIn.trans vO (.one (fenced_calm hb hr rfl) zLk))⟩
 | exit id =>
  have hx:exitTo id (.inScope c::k)=exitTo id k:=by simp [exitTo]
  exact ⟨.exit id,a₁,w₁,kf,fun k' hk => .head h0 zDu (vO.1 k' (by rw [hx];exact hk)),
   fun yx hk=>let ⟨k₁,h1,h2⟩:=vO.2 yx (by rw [hx];exact hk);⟨k₁,h1,.head h0 zDu h2⟩⟩
 | goto l=>exact absurd kf (hq l a₁ w₁)
 | ret=>exact ⟨_,a₁,w₁,kf,.of_steps (.one h0 zDu) vO⟩
 | panic ch=>exact ⟨_,a₁,w₁,kf,.of_steps (.one h0 zDu) vO⟩
 | outgrown=>exact ⟨_,a₁,w₁,kf,.of_steps (.one h0 zDu) vO⟩
end
section
variable {P:Program} {H:zBh} {nt:Nat} {orc:zAF} {yo:zCP} {al:All} {ro:Option Nat} {n:Nat} {D:Nat→Prop} {Fin:Option Log→Prop} {G:Act→World→Env→Option Log→Prop} {hh:FHint}
theorem zLq (F:Frame P H orc nt ro n D Fin G):∀ (m:Nat) (c:Code) {e e':Env} {x:X} {lg lg':Option Log},exec P H orc yo al nt hh m c e lg=some (x,e',lg')→Fin lg'→Fin lg
 | 0,c,e,e',x,lg,lg',h,hf=>by cases h
 | m + 1,c,e,e',x,lg,lg',h,hf=>by
  have hZ:∀ {b:Code} {e e':Env} {x:X} {lg lg':Option Log},exec P H orc yo al nt hh m b e lg=some (x,e',lg')→Fin lg'→Fin lg:=fun h hf=>zLq F m _ h hf
  cases c<;>simp only [exec] at h<;>try (cases h;done)
  case skip=>cases h;exact hf
  case region id ops draw =>
   split at h
   ·rename_i e1 lg1 h1
    cases h
    cases draw with
    | true=>exact zRZ F h1 hf
    | false=>exact zHE F _ _ h1 hf
   ·cases h
  case seq a b =>
   split at h
   ·rename_i e1 lg1 h1;exact hZ h1 (hZ h hf)
   ·exact hZ h hf
  case cond c a b =>
   cases c with
   | tmp t =>
    simp only at h
    split at h
    ·exact hZ h hf
    ·exact hZ h hf
    ·cases h
   | const v =>
    split at h
    ·rename_i wq;cases wq
    ·exact hZ h hf
    ·exact hZ h hf
    ·cases h
   | global g=>cases h
   | func f=>cases h
  case block id b =>
   split at h
   ·rename_i id' r h1
    obtain ⟨e1,lg1⟩:=r
    cases h;exact hZ h1 hf
   ·exact hZ h hf
  case loop b =>
   split at h
   ·rename_i e1 lg1 h1;exact hZ h1 (hZ h hf)
   ·exact hZ h hf
  case exit id=>cases h;exact hf
  case ret=>cases h;exact hf
  case label l=>cases h;exact hf
  case scope b=>exact hZ h hf
  case rangeFunc f ps a b =>
   cases f with
   | tmp t =>
    cases lg with
    | none =>
     simp only at h
     obtain ⟨r,_,h2⟩:=Option.map_eq_some_iff.1 h
     cases h2;exact hf
    | some l=>cases h
   | const v=>cases h
   | global g=>cases h
   | func f=>cases h
def zD8 (P:Program) (H:zBh) (orc:zAF) (yo:zCP) (al:All) (nt:Nat) (hh:FHint) (ro:Option Nat) (n:Nat) (G:Act→World→Env→Option Log→Prop) (m:Nat):Prop :=
 ∀ m',m'<m→∀ (t:Nat) (ps:Array Tmp) (ca cb:Code) (a:Act) (w:World) (e:Env) (x:X) (e':Env),zCE P nt (.rangeFunc (.tmp t) ps ca cb)=true→G a w e none→exec P H orc yo al nt hh (m'+1) (.rangeFunc (.tmp t) ps ca cb) e none=some (x,e',none) →
   (Code.rangeFunc (.tmp t) ps ca cb).wpIn (FF ro) n P (fun ex a' w'=>ex=x.exit∧G a' w' e' none) a w
theorem zD8.less {m m':Nat} (h:zD8 P H orc yo al nt hh ro n G m) (hm:m'≤m):zD8 P H orc yo al nt hh ro n G m':=fun k hk=>h k (by omega)
theorem zHy (F:Frame P H orc nt ro n D Fin G) (zFi:P.follows .mixedOrders=true):∀ (m:Nat) (c:Code) (hr:zCY c=true∨zD8 P H orc yo al nt hh ro n G m) {a:Act} {w:World} {e:Env} {x:X} {e':Env} {lg lg':Option Log},zCE P nt c=true→(∀ d∈zBK c,D d)→Fin lg'→G a w e lg→exec P H orc yo al nt hh m c e lg=some (x,e',lg') →
  c.wpIn (FF ro) n P (fun ex a' w'=>ex=x.exit∧G a' w' e' lg') a w
 | 0,c,hr,a,w,e,x,e',lg,lg',hc,hD,yJ,hf,h=>by cases h
 | m + 1,c,hr,a,w,e,x,e',lg,lg',hc,hD,yJ,hf,h=>by
  have hZ:∀ {b:Code} {e1:Env} {y:X} {e2:Env} {a w} {l1 l2:Option Log},(zCY b=true∨zD8 P H orc yo al nt hh ro n G m)→zCE P nt b=true→(∀ d∈zBK b,D d)→Fin l2→G a w e1 l1→exec P H orc yo al nt hh m b e1 l1=some (y,e2,l2)→b.wpIn (FF ro) n P (fun ex a' w'=>ex=y.exit∧G a' w' e2 l2) a w :=
   fun hr hc hd hn hf h=>zHy F zFi m _ hr hc hd hn hf h
  have two:∀ {p q:Bool},((p&&q)=true∨zD8 P H orc yo al nt hh ro n G (m+1))→(p=true∨zD8 P H orc yo al nt hh ro n G m)∧(q=true∨zD8 P H orc yo al nt hh ro n G m):=by
   intro p q h
   rcases h with h | h
   ·rw [Bool.and_eq_true] at h;exact ⟨.inl h.1,.inl h.2⟩
   ·exact ⟨.inr (h.less (by omega)),.inr (h.less (by omega))⟩
  have one:∀ {p:Bool},(p=true∨zD8 P H orc yo al nt hh ro n G (m+1))→(p=true∨zD8 P H orc yo al nt hh ro n G m):=fun h=>h.imp_right fun h=>h.less (by omega)
  cases c<;>simp only [zCE,Bool.and_eq_true] at hc<;>try (cases hc;done)
  case skip =>
   simp only [exec,Option.some.injEq,Prod.mk.injEq] at h
   obtain ⟨rfl,rfl,rfl⟩:=h
   exact wpIn_skip ⟨rfl,hf⟩
  case region id ops draw =>
   simp only [exec] at h
   split at h
   ·rename_i e1 lg1 h1
    simp only [Option.some.injEq,Prod.mk.injEq] at h
    obtain ⟨rfl,rfl,rfl⟩:=h
    have fin:∀ {a' w'},G a' w' e1 lg1→G a' w' (e1.drop (hh.drop id)).norm lg1:=fun hg=>F.get (F.drop _ hg) (by funext s;exact zIj _ s)
    have hDs:zO9 D ops:=fun o ho d hd=>hD d (List.mem_filterMap.2 ⟨o,ho,hd⟩)
    cases draw with
    | true=>exact zPg F zFi hc hDs yJ hf h1 fun a' w' yn=>⟨rfl,fin yn⟩
    | false =>
     refine wpIn_region ?_
     have:=zHP (Q:=fun ex a' w'=>ex=X.norm.exit∧G a' w' (e1.drop (hh.drop id)).norm lg1) F hc hDs yJ ops.toList 0 (by simp) (by simp) hf h1 fun a' w' yn=>⟨rfl,fin yn⟩
     rw [List.range_eq_range']
     simpa using this
   ·cases h
  case seq c1 c2 =>
   simp only [exec] at h
   refine wpIn_seq ?_
   split at h
   ·rename_i e1 lg1 h1
    exact wpIn_mono (hZ (two hr).1 hc.1 (fun d hd=>hD d (List.mem_append_left _ hd)) (zLq F _ _ h yJ) hf h1) fun ex a' w' ⟨hx,yn⟩=>by subst hx;exact hZ (two hr).2 hc.2 (fun d hd=>hD d (List.mem_append_right _ hd)) yJ yn h
   ·rename_i hH
    exact wpIn_mono (hZ (two hr).1 hc.1 (fun d hd=>hD d (List.mem_append_left _ hd)) yJ hf h) fun ex a' w' ⟨hx,yn⟩=>by
     subst hx
     cases x with
     | norm=>exact absurd h (hH _ _)
     | ex id=>exact ⟨rfl,yn⟩
     | ret=>exact ⟨rfl,yn⟩
  case cond c c1 c2 =>
   have key:∀ t:Bool,a.eval c = .bool t→exec P H orc yo al nt hh m (if t then c1 else c2) e lg=some (x,e',lg')→(Code.cond c c1 c2).wpIn (FF ro) n P (fun ex a' w'=>ex=x.exit∧G a' w' e' lg') a w:=by
    intro t ht h
    refine wpIn_cond ht ?_
    cases t with
    | true=>exact hZ (two hr).1 hc.1.2 (fun d hd=>hD d (List.mem_append_left _ hd)) yJ hf h
    | false=>exact hZ (two hr).2 hc.2 (fun d hd=>hD d (List.mem_append_right _ hd)) yJ hf h
   simp only [exec] at h
   cases c with
   | tmp t =>
    simp only at h
    have uE:t<nt:=zBY hc.1.1
    split at h
    ·rename_i hp;exact key true (F.cond hf uE hp) h
    ·rename_i hp;exact key false (F.cond hf uE hp) h
    ·cases h
   | const v =>
    split at h
    ·rename_i yC;cases yC
    ·rename_i wq;cases wq;exact key true rfl h
    ·rename_i wq;cases wq;exact key false rfl h
    ·cases h
   | global g=>cases h
   | func f=>cases h
  case block id b =>
   simp only [exec] at h
   refine wpIn_block ?_
   split at h
   ·rename_i id' r h1
    obtain ⟨e1,lg1⟩:=r
    simp only [Option.some.injEq,Prod.mk.injEq] at h
    obtain ⟨rfl,rfl,rfl⟩:=h
    refine wpIn_mono (hZ (one hr) hc hD yJ hf h1) fun ex a' w' ⟨hx,yn⟩=>?_
    subst hx
    simp only [X.exit,Exit.inBlock]
    split
    ·exact ⟨rfl,yn⟩
    ·exact ⟨rfl,yn⟩
   ·rename_i hH
    refine wpIn_mono (hZ (one hr) hc hD yJ hf h) fun ex a' w' ⟨hx,yn⟩=>?_
    subst hx
    cases x with
    | norm=>exact ⟨rfl,yn⟩
    | ex id=>exact absurd h (hH _ _)
    | ret=>exact ⟨rfl,yn⟩
  case loop b =>
   have key:∀ (m':Nat),m'≤m+1→∀ {e:Env} {a:Act} {w:World} {lg:Option Log},G a w e lg→exec P H orc yo al nt hh m' (.loop b) e lg=some (x,e',lg') →
     Code.roundsIn (FF ro) n P b (fun ex a' w'=>ex=x.exit∧G a' w' e' lg') m' a w:=by
    intro m'
    induction m' with
    | zero=>intro _ e a w _ _ h;cases h
    | succ m' ih =>
     intro yK e a w lg hf h
     simp only [exec] at h
     show b.wpIn (FF ro) n P (Exit.then (Code.roundsIn (FF ro) n P b _ m') _) a w
     have qX:∀ {e1:Env} {y:X} {e2:Env} {a w} {l1 l2:Option Log},Fin l2→G a w e1 l1→exec P H orc yo al nt hh m' b e1 l1=some (y,e2,l2)→b.wpIn (FF ro) n P (fun ex a' w'=>ex=y.exit∧G a' w' e2 l2) a w:=by
      intro e1 y e2 a w l1 l2 hn hf h
      exact zHy F zFi m' b (hr.imp_right fun h=>h.less (by omega)) hc hD hn hf h
     split at h
     ·rename_i e1 lg1 h1
      exact wpIn_mono (qX (zLq F _ _ h yJ) (F.drop _ hf) h1) fun ex a' w' ⟨hx,yn⟩=>by subst hx;exact ih (by omega) yn h
     ·rename_i hH
      refine wpIn_mono (qX yJ (F.drop _ hf) h) fun ex a' w' ⟨hx,yn⟩=>?_
      subst hx
      cases x with
      | norm=>exact absurd h (hH _ _)
      | ex id=>exact ⟨rfl,yn⟩
      | ret=>exact ⟨rfl,yn⟩
   exact wpIn_loop_rounds (m+1) (key (m+1) (Nat.le_refl _) hf h)
  case exit id =>
   simp only [exec,Option.some.injEq,Prod.mk.injEq] at h
   obtain ⟨rfl,rfl,rfl⟩:=h
   exact wpIn_exit ⟨rfl,F.ice _ hf⟩
  case ret =>
   simp only [exec,Option.some.injEq,Prod.mk.injEq] at h
   obtain ⟨rfl,rfl,rfl⟩:=h
   exact wpIn_ret ⟨rfl,hf⟩
  case label l =>
   simp only [exec,Option.some.injEq,Prod.mk.injEq] at h
   obtain ⟨rfl,rfl,rfl⟩:=h
   exact wpIn_label ⟨rfl,hf⟩
  case scope b =>
   simp only [exec] at h
   exact zO0 (fun l a w hx=>by cases x<;>cases hx.1) (hZ (one hr) hc hD yJ hf h)
  case rangeFunc f ps ca cb =>
   cases f with
   | tmp t =>
    have h0:=h
    simp only [exec] at h
    cases lg with
    | none =>
     simp only at h
     obtain ⟨r,_,h2⟩:=Option.map_eq_some_iff.1 h
     cases h2
     rcases hr with hr | hr
     ·cases hr
     exact hr m (by omega) t ps ca cb a w e _ _ (by simp only [zCE,Bool.and_eq_true];exact hc) hf h0
    | some l=>cases h
   | const v=>simp only [exec] at h;cases h
   | global g=>simp only [exec] at h;cases h
   | func f=>simp only [exec] at h;cases h
end
end Go.Eng
namespace Go.Eng
open Go
structure Rel (w0:World) (U Φ0:Nat→Prop) (w1:World) (U1 Φ1:Nat→Prop):Prop where
 size:w0.heap.size≤w1.heap.size
 kept:∀ b,b<w0.heap.size→¬ U b→w1.heap[b]? = w0.heap[b]?
 own:∀ b,U1 b→U b∨w0.heap.size≤b
 frz:∀ b,Φ1 b→Φ0 b∨U b∨w0.heap.size≤b
 frz0:∀ b,Φ0 b→Φ1 b
 os:w1.os=w0.os
 tape:w1.tape=w0.tape
 output:w1.output=w0.output
section
variable {w0 w w' w1 w2:World} {U Φ0 Φ U1 Φ1 U2 Φ2:Nat→Prop} {nt:Nat} {hv:Hid} {a:Act} {e e':Env} {rv:Nat→Value} {E:Nat→PV} {L:Nat→List Nat}
theorem Rel.refl:Rel w U Φ w U Φ:=⟨Nat.le_refl _,fun _ _ _=>rfl,fun _ h => .inl h,fun _ h => .inl h,fun _ h=>h,rfl,rfl,rfl⟩
theorem Rel.trans (h:Rel w0 U Φ0 w1 U1 Φ1) (k:Rel w1 U1 Φ1 w2 U2 Φ2):Rel w0 U Φ0 w2 U2 Φ2:=by
 have hU:∀ b,b<w0.heap.size→¬ U b→¬ U1 b:=fun b hb hu h1=>by rcases h.own b h1 with h2 | h2<;>first | exact hu h2 | omega
 refine ⟨Nat.le_trans h.size k.size,fun b hb hu=>(k.kept b (Nat.lt_of_lt_of_le hb h.size) (hU b hb hu)).trans (h.kept b hb hu),fun b hb=>?_,fun b hb=>?_,fun b hb=>k.frz0 b (h.frz0 b hb),k.os.trans h.os,k.tape.trans h.tape,k.output.trans h.output⟩
 ·rcases k.own b hb with h1 | h1
  ·exact h.own b h1
  ·exact .inr (Nat.le_trans h.size h1)
 ·rcases k.frz b hb with h1 | h1 | h1
  ·exact h.frz b h1
  ·rcases h.own b h1 with h2 | h2
   ·exact .inr (.inl h2)
   ·exact .inr (.inr h2)
  ·exact .inr (.inr (Nat.le_trans h.size h1))
theorem Conf.rel (C:Conf w0 U Φ0 w Φ rv E L):Rel w0 U Φ0 w (fun b=>∃ s,b∈L s) Φ :=
 ⟨C.size,C.kept,fun b ⟨s,hs⟩=>(C.own s b hs).2.2,fun b hb=>(C.frz b hb).2,C.frz0,C.os,C.tape,C.output⟩
theorem Conf.rebase (h:Rel w0 U Φ0 w1 U1 Φ1) (C:Conf w1 U1 Φ1 w Φ rv E L):Conf w0 U Φ0 w Φ rv E L:=by
 have r:=h.trans C.rel
 exact ⟨C.rep,C.nodup,C.disj,fun s b hb=>⟨(C.own s b hb).1,(C.own s b hb).2.1,r.own b ⟨s,hb⟩⟩,fun b hb=>⟨(C.frz b hb).1,r.frz b hb⟩,r.frz0,r.size,r.kept,r.os,r.tape,r.output⟩
theorem Conf.fresh (C:Conf w0 U Φ0 w Φ rv E L):Conf w (fun b=>∃ s,b∈L s) Φ w Φ rv E L :=
 ⟨C.rep,C.nodup,C.disj,fun s b hb=>⟨(C.own s b hb).1,(C.own s b hb).2.1,.inl ⟨s,hb⟩⟩,fun b hb=>⟨(C.frz b hb).1,.inl hb⟩,fun _ h=>h,Nat.le_refl _,fun _ _ _=>rfl,rfl,rfl,rfl⟩
theorem Conf.moved (C:Conf w0 U Φ0 w Φ rv E L) (hs:w.heap.size≤w'.heap.size) (hL:∀ s,∀ b∈L s,w'.heap[b]? = w.heap[b]?) (hΦ:∀ b,Φ b→w'.heap[b]? = w.heap[b]?) (hk:∀ b,b<w0.heap.size→¬ U b→w'.heap[b]? = w.heap[b]?)
  (ho:w'.os=w.os∧w'.tape=w.tape∧w'.output=w.output):Conf w0 U Φ0 w' Φ rv E L:=by
 refine ⟨fun s=>?_,C.nodup,C.disj,fun s b hb=>⟨Nat.lt_of_lt_of_le (C.own s b hb).1 hs,(C.own s b hb).2⟩,fun b hb=>⟨Nat.lt_of_lt_of_le (C.frz b hb).1 hs,(C.frz b hb).2⟩,C.frz0,Nat.le_trans C.size hs,fun b hb hu=>(hk b hb hu).trans (C.kept b hb hu),
  ho.1.trans C.os,ho.2.1.trans C.tape,ho.2.2.trans C.output⟩
 have:=Rep.map (f:=fun p=>p) (w':=w') (Φ':=Φ) (A':=zA2 w' rv E) (fun _=>rfl) (fun b hb=>⟨hb,hΦ b hb⟩) (fun b v hw ha=>zCW hw (zCF C zCe ha (zBg _).symm rfl (hL _))) (E s) (rv s) (L s) (hL s) (C.rep s)
 rwa [zBg] at this
theorem Conf.arrive (C:Conf w0 U Φ0 w Φ rv E L) (hs:w.heap.size≤w'.heap.size) (hL:∀ s,∀ b∈L s,w'.heap[b]? = w.heap[b]?) (hΦ:∀ b,Φ b→w'.heap[b]? = w.heap[b]?):Conf w' (fun b=>∃ s,b∈L s) Φ w' Φ rv E L:=by
 refine ⟨fun s=>?_,C.nodup,C.disj,fun s b hb=>⟨Nat.lt_of_lt_of_le (C.own s b hb).1 hs,(C.own s b hb).2.1,.inl ⟨s,hb⟩⟩,fun b hb=>⟨Nat.lt_of_lt_of_le (C.frz b hb).1 hs,.inl hb⟩,fun _ h=>h,Nat.le_refl _,fun _ _ _=>rfl,rfl,rfl,rfl⟩
 have:=Rep.map (f:=fun p=>p) (w':=w') (Φ':=Φ) (A':=zA2 w' rv E) (fun _=>rfl) (fun b hb=>⟨hb,hΦ b hb⟩) (fun b v hw ha=>zCW hw (zCF C zCe ha (zBg _).symm rfl (hL _))) (E s) (rv s) (L s) (hL s) (C.rep s)
 rwa [zBg] at this
theorem St.with (S:St w0 U Φ0 nt hv a w e Φ rv E L) (C:Conf w1 U1 Φ1 w' Φ2 rv E L):St w1 U1 Φ1 nt hv a w' e Φ2 rv E L :=
 ⟨C,S.env,S.size,S.small,S.tmps,S.parts,S.hid,S.dfr⟩
def zKe:PV→Value
 | .int k n => .int k n
 | .bool b => .bool b
 | _=>undef
def zCI:PV→Value
 | .agg cs => .agg (cs.map zKe).toArray
 | p=>zKe p
theorem zUr {A:Al} {p:PV} {v:Value} {Lp:List Nat} (h:Rep w Φ A p v Lp) (hn:p.num=true):v=zKe p:=by
 cases p<;>first | (cases hn;done) | exact h.1
theorem zNM {A:Al}:∀ {ps:List PV} {vs:List Value} {Lp:List Nat},zAZ w Φ A ps vs Lp→ps.all PV.num=true→vs=ps.map zKe
 | [],vs,_,h,_=>h.1
 | p::ps,vs,_,⟨v,vs',L1,L2,h1,_,h3,h4⟩,hn=>by
  simp only [List.all_cons,Bool.and_eq_true] at hn
  rw [h1,zUr h3 hn.1,zNM h4 hn.2];rfl
theorem zR5 {A:Al} {p:PV} {v:Value} {Lp:List Nat} (h:Rep w Φ A p v Lp) (hn:p.flat=true):v=zCI p:=by
 cases p<;>first | (cases hn;done) | exact h.1 | skip
 obtain ⟨vs,rfl,h2⟩:=h
 have:=zNM h2 hn
 simp only [zCI,← this]
theorem zSR (S:St w0 U Φ0 nt hv a w e Φ rv E L) {x:Operand} (hx:zAW nt x=true):Rep w Φ (zA2 w rv E) (zPn e x) (a.eval x) []:=by
 cases x with
 | tmp t =>
  have ht:t<nt:=zBY hx
  have hg:t<zAb:=Nat.lt_of_lt_of_le ht (Nat.le_trans S.small (by decide))
  have:=S.conf.view hg
  rw [S.env t hg,← S.tmps t ht] at this
  exact this
 | const v=>exact zIF v
 | global g=>exact (rfl:([]:List Nat)=[])
 | func f=>exact (rfl:([]:List Nat)=[])
theorem zSk {ops:Array Oper} {P:Program} (yw:zNw P nt ops=true) (S:St w0 U Φ0 nt hv a w e Φ rv E L) {o:Oper} {b:Bool} (h:zLd ops e o=some b):Region.wanted o (yielded ops a.tmps)=b:=by
 have yT:∀ (j:Nat) (x:Oper),ops[j]? = some x→zPI P nt x=true:=fun j x hx=>List.all_eq_true.1 yw x (by
  rw [← Array.getElem?_toList] at hx;exact List.mem_of_getElem? hx)
 simp only [zLd] at h
 cases hg:o.guard with
 | none=>rw [hg] at h;simp only [Option.some.injEq] at h;subst h;simp [Region.wanted,hg]
 | some x =>
  obtain ⟨j,want⟩:=x
  rw [hg] at h
  simp only at h
  cases hj:(ops[j]?).bind (·.dst) with
  | none=>rw [hj] at h;cases h
  | some t =>
   rw [hj] at h
   simp only at h
   have uE:t<nt:=by
    cases gH:ops[j]? with
    | none=>rw [gH] at hj;cases hj
    | some oj=>rw [gH] at hj;exact zIi (yT j oj gH) t hj
   have yj:t<zAb:=Nat.lt_of_lt_of_le uE (Nat.le_trans S.small (by decide))
   have hI:=S.conf.rep t
   rw [S.env t yj] at hI
   have htm:a.tmps[t]? = some (rv t):=by
    have h1:=S.tmps t uE
    have h2:t<a.tmps.size:=by rw [S.size];exact uE
    rw [Array.getElem?_eq_getElem h2]
    simp only [Array.getD,h2,dite_true] at h1
    rw [← h1];rfl
   have kB:yielded ops a.tmps j=match rv t with | .bool b=>some b | _=>none:=by
    simp only [yielded,hj,Option.bind_some,htm]
    cases rv t<;>rfl
   revert h
   cases hp:e.get t<;>intro h<;>try (cases h;done)
   case bool c =>
    simp only [Option.some.injEq] at h
    have yC:rv t = .bool c:=by rw [hp] at hI;exact hI.1
    rw [yC] at kB
    simp only at kB
    rw [← h]
    simp only [Region.wanted,hg,kB]
    rfl
   case und =>
    simp only [Option.some.injEq] at h
    have yC:rv t=undef:=by rw [hp] at hI;exact hI.1
    rw [yC] at kB
    rw [← h]
    simp only [Region.wanted,hg,kB]
    rfl
end
theorem zLE {P:Program} {w:World} {fn:Func} {a:Act} (h:fn.results.isEmpty=true):(results fn a.tmps).run P w = .ok (.tuple #[]) w:=by
 have h0:fn.results=#[]:=by simpa using h
 simp only [results,h0]
 simp [Sem.run_bind,Sem.run_pure]
structure Apart (w w':World) (B Ψ:Nat→Prop):Prop where
 size:w.heap.size≤w'.heap.size
 os:w'.os=w.os
 tape:w'.tape=w.tape
 output:w'.output=w.output
 kept:∀ b,b<w.heap.size→¬ B b→w'.heap[b]? = w.heap[b]?
 seen:∀ b,Ψ b→w'.heap[b]? = w.heap[b]?
structure Client (P:Program) (l:Nat) (plan:List (List PV)) (k0:Int) (Ψ:Nat→Prop) (J:List (List PV)→World→(Nat→Prop)→Prop) (Jx:World→Prop):Prop where
 abide:∀ {xs:List (List PV)} {w w':World} {B:Nat→Prop},J xs w B→w.heap.size≤w'.heap.size→(∀ b,B b→w'.heap[b]? = w.heap[b]?)→w'.os=w.os∧w'.tape=w.tape∧w'.output=w.output→J xs w' B
 small:∀ {xs:List (List PV)} {w:World} {B:Nat→Prop},J xs w B→∀ b,B b→b<w.heap.size
 round:∀ {xs:List (List PV)} {x:List PV} {w:World} {B:Nat→Prop},J xs w B→xs++[x] <+: plan→k0-xs.length≠1→x.all PV.flat=true→YieldAt (FF none) 0 P l (x.map zCI).toArray w fun en w'=>en = .returned (.bool true)∧Apart w w' B Ψ ∧
  ∃ B',J (xs++[x]) w' B'∧∀ b,B' b→B b∨w.heap.size≤b
 last:∀ {xs:List (List PV)} {x:List PV} {w:World} {B:Nat→Prop},J xs w B→xs++[x] <+: plan→k0-xs.length=1→x.all PV.flat=true→YieldAt (FF none) 0 P l (x.map zCI).toArray w fun en w'=>en = .returned (.bool false)∧Jx w'
 abideX:∀ {w w':World},Jx w→w.heap.size≤w'.heap.size→(∀ b,b<w.heap.size→w'.heap[b]? = w.heap[b]?)→w'.os=w.os∧w'.tape=w.tape∧w'.output=w.output→Jx w'
section
variable {P:Program} {H:zBh} {orc:zAF} {yo:zCP} {al:All} {nt:Nat} {val:Nat→Value} {l:Nat} {plan:List (List PV)} {k0:Int} {Ψ:Nat→Prop} {J:List (List PV)→World→(Nat→Prop)→Prop} {Jx:World→Prop}
def GJ (nt:Nat) (val:Nat→Value) (l:Nat) (k0:Int) (Ψ:Nat→Prop) (J:List (List PV)→World→(Nat→Prop)→Prop) (Jx:World→Prop) (a:Act) (w:World) (e:Env) (lg:Option Log):Prop :=
 ∃ g,lg=some g∧g.at_=l∧g.k=k0-g.xs.length∧∃ w1 U1 Φ1,Fr w1 U1 Φ1 nt ⟨val,[]⟩ a w e ∧
  ((g.k≠0∧∃ B,J g.xs w1 B∧(∀ b,B b→¬ U1 b)∧∀ b,Φ1 b→Ψ b∨¬ B b)∨(g.k=0∧Jx w1∧∀ b,¬ U1 b))
def zWf (plan:List (List PV)) (lg:Option Log):Prop:=∃ g,lg=some g∧g.xs <+: plan
theorem zHs {fz tk nl:Bool} {ops:Array Oper} {o:Oper} {e e':Env} {g:Log} {lg':Option Log} (h:zCN P H orc fz tk nl ops o e (some g)=some (e',lg')):∃ g',lg'=some g'∧g.xs <+: g'.xs:=by
 have mp:∀ {x:Option Env} {q:Log},x.map (fun e'=>(e',some q))=some (e',lg')→lg'=some q:=by
  intro x q h
  obtain ⟨y,_,h2⟩:=Option.map_eq_some_iff.1 h
  cases h2;rfl
 simp only [zCN] at h
 split at h
 ·simp only [zBP] at h
  split at h
  ·rcases zBf h with ⟨_,h⟩ | ⟨_,h⟩
   ·exact ⟨_,mp h,List.prefix_append _ _⟩
   ·cases h
  ·exact ⟨_,mp h,List.prefix_refl _⟩
  ·cases h
 ·exact ⟨_,mp h,List.prefix_refl _⟩
theorem zUE (jH : zGf P orc) (hnm:zER P) (hC:Client P l plan k0 Ψ J Jx):Frame P H orc nt none 0 (fun _=>True) (zWf plan) (GJ nt val l k0 Ψ J Jx):=by
 refine ⟨?_,?_,?_,?_,?_,?_,?_⟩
 ·intro ops o fz tk nl e e' lg lg' h hf
  obtain ⟨g',rfl,hp⟩:=hf
  cases lg with
  | none=>simp only [zCN] at h;obtain ⟨y,_,h2⟩:=Option.map_eq_some_iff.1 h;cases h2
  | some g =>
   obtain ⟨g2,h2,h3⟩:=zHs h
   cases h2
   exact ⟨g,rfl,h3.trans hp⟩
 ·intro ops i o fz tk nl a w e e' lg lg' Q yw hi _ yJ hG h
  obtain ⟨g,rfl,uY,hk,w1,U1,Φ1,hf,jh⟩:=hG
  have yT:zPI P nt o=true:=List.all_eq_true.1 yw o (by
   rw [← Array.getElem?_toList] at hi;exact List.mem_of_getElem? hi)
  simp only [zCN] at h
  cases hy:zCa e o with
  | none =>
   rw [hy] at h;simp only at h
   obtain ⟨e1,h1,h2⟩:=Option.map_eq_some_iff.1 h
   cases h2
   exact zDD (zKE jH hnm yw hf hi h1) fun a' w' yn=>⟨g,rfl,uY,hk,w1,U1,Φ1,yn,jh⟩
  | some yH =>
   obtain ⟨h0,args⟩:=yH
   rw [hy] at h;simp only at h
   obtain ⟨Φ,rv,E,L,S,hb⟩:=hf
   have uW:=zIi yT
   simp only [zCa] at hy
   split at hy
   ·rename_i c hc
    split at hy
    ·rename_i tc yv
     split at hy
     ·rename_i gL kB
      simp only [Option.some.injEq,Prod.mk.injEq] at hy
      obtain ⟨rfl,rfl⟩:=hy
      have yE:zAW nt (.tmp tc)=true∧∀ x∈c.args.toList,zAW nt x=true:=by
       have h1:=yT
       simp only [zPI,hc,Bool.and_eq_true,yv] at h1
       obtain ⟨_,h2,h3⟩:=h1
       exact ⟨by simpa using h3,List.all_eq_true.1 (by simpa using h2)⟩
      have htc:tc<nt:=zBY yE.1
      have yj:tc<zAb:=Nat.lt_of_lt_of_le htc (Nat.le_trans S.small (by decide))
      have hcv:a.eval (.tmp tc) = .func (.yield gL) #[] #[]:=by
       have:=S.conf.rep tc
       rw [S.env tc yj,kB] at this
       show a.tmps.getD tc undef=_
       rw [S.tmps tc htc];exact this.2
      simp only [zBP] at h
      cases hw:zLd ops e o with
      | none=>rw [hw] at h;cases h
      | some b =>
       have hwant:=zSk yw S hw
       simp only [wpOpIn,hi,hwant]
       cases b with
       | false =>
        rw [hw] at h;simp only at h
        obtain ⟨e1,h1,h2⟩:=Option.map_eq_some_iff.1 h
        cases h2
        exact ⟨fun _ _=>trivial,g,rfl,uY,hk,w1,U1,Φ1,zAw S hb uW h1 (p := .und) ⟨rfl,rfl⟩,jh⟩
       | true =>
        rw [hw] at h;simp only at h
        rcases zBf h with ⟨j1,h⟩ | ⟨_,h⟩
        ·simp only [Bool.and_eq_true] at j1
         obtain ⟨⟨ji,hkn⟩,vP⟩:=j1
         have vP:=Nat.eq_of_beq_eq_true vP
         rw [uY] at vP;subst vP
         have hkn:g.k≠0:=by simpa using hkn
         obtain ⟨e1,h1,h2⟩:=Option.map_eq_some_iff.1 h
         cases h2
         rcases jh with ⟨_,B,hJ,hBU,hBΦ⟩ | ⟨h0,_⟩
         ·
          have hvals:c.args.map a.eval=((c.args.toList.map (zPn e)).map zCI).toArray:=by
           have key:∀ l:List Operand,(∀ x∈l,zAW nt x=true)→(l.map (zPn e)).all PV.flat=true→l.map a.eval=(l.map (zPn e)).map zCI:=by
            intro l
            induction l with
            | nil=>intro _ _;rfl
            | cons x l ih =>
             intro h1 h2
             simp only [List.map_cons,List.all_cons,Bool.and_eq_true] at h2
             simp only [List.map_cons]
             rw [zR5 (zSR S (h1 x (by simp))) h2.1,ih (fun y hy=>h1 y (by simp [hy])) h2.2]
           have:=key c.args.toList yE.2 ji
           rw [← this]
           apply Array.toList_inj.1
           simp
          have hJw:J g.xs w B:=by
           refine hC.abide hJ S.conf.size (fun b hb=>S.conf.kept b (hC.small hJ b hb) (hBU b hb)) ⟨S.conf.os,S.conf.tape,S.conf.output⟩
          have hLB:∀ s,∀ b∈L s,¬ B b:=by
           intro s b jO wR
           rcases (S.conf.own s b jO).2.2 with h3 | h3
           ·exact hBU b wR h3
           ·have:=hC.small hJ b wR;omega
          have hΦB:∀ b,Φ b→Ψ b∨¬ B b:=by
           intro b hbΦ
           rcases (S.conf.frz b hbΦ).2 with h3 | h3 | h3
           ·exact hBΦ b h3
           ·exact .inr fun wR=>hBU b wR h3
           ·exact .inr fun wR=>by have:=hC.small hJ b wR;omega
          have qY:g.xs++[c.args.toList.map (zPn e)] <+: plan:=by
           obtain ⟨g2,qj,hp⟩:=yJ
           cases qj;exact hp
          have hexec:(execOp a.eval o).run P w=(Instr.yield gL (c.args.map a.eval)).run P w:=by
           simp only [execOp,hc,Go.resolve,yv,hcv,Deferred.ofValue,Sem.run_bind,Sem.run_pure,Result.andThen_ok,invoke]
           simp
          have kT:∀ {R:Ending→World→Prop},YieldAt (FF none) 0 P gL ((c.args.toList.map (zPn e)).map zCI).toArray w R→(∀ en w',R en w'→∃ v,en = .returned v∧GJ nt val gL k0 Ψ J Jx (a.put o.dst v) w' e' (some ⟨g.xs++[c.args.toList.map (zPn e)],g.k-1,g.at_⟩)) →
            o.wpIn (FF none) 0 P a w (fun a' w'=>GJ nt val gL k0 Ψ J Jx a' w' e' (some ⟨g.xs++[c.args.toList.map (zPn e)],g.k-1,g.at_⟩)) Q:=by
           intro R ⟨fn,tmps,ca,cb,hZ,yO⟩ hR
           refine ⟨fun _ _=>trivial,?_⟩
           rw [Oper.semAt_eq (FF none).round a.eval o (fun c' yg=>by rw [hc] at yg;cases yg),hexec,hvals,hZ]
           refine ⟨fun h=>(by cases h),yO.mono fun en w' uz=>?_⟩
           obtain ⟨v,rfl,hv⟩:=hR en w' uz
           exact hv
          have hO:g.k-1=k0-((g.xs++[c.args.toList.map (zPn e)]).length:Int):=by rw [hk];simp;omega
          rcases zBf h1 with ⟨jV,h1⟩ | ⟨jV,h1⟩
          ·
           have jV:g.k=1:=by simpa using jV
           refine kT (hC.last hJw qY (by rw [← hk];exact jV) ji) fun en w' ⟨uz,hx⟩=>⟨_,uz,?_⟩
           refine ⟨_,rfl,uY,hO,w',fun _=>False,fun _=>False,?_,.inr ⟨by rw [jV];rfl,hx,fun _ h=>h⟩⟩
           have C':Conf w' (fun _=>False) (fun _=>False) w' (fun _=>False) rv (fun s=>if (E s).num then E s else .bad) (fun _=>[]):=by
            refine ⟨fun s=>?_,fun _=>List.nodup_nil,fun _ _ _ b hb=>(by cases hb),fun s b hb=>(by cases hb),fun b hb=>hb.elim,fun b hb=>hb,Nat.le_refl _,fun _ _ _=>rfl,rfl,rfl,rfl⟩
            have:=S.conf.rep s
            split
            ·rename_i hn
             revert this hn
             cases E s<;>intro this hn<;>first | (cases hn;done) | exact ⟨this.1,rfl⟩
            ·rfl
           have S':St w' (fun _=>False) (fun _=>False) nt ⟨val,[]⟩ a w' (e.forget zAb) (fun _=>False) rv (fun s=>if (E s).num then E s else .bad) (fun _=>[]):=by
            refine ⟨C',fun s hs=>?_,S.size,S.small,S.tmps,fun d ps j hd hp hj=>?_,S.hid,S.dfr⟩
            ·rw [zEU,S.env s hs]
             have:s≠zAb:=by omega
             simp [this]
            ·split at hp
             ·rename_i hn;rw [hp] at hn;cases hn
             ·cases hp
           exact zAw S' (fun s hs=>by show (if (E s).num then E s else PV.bad) = .bad;rw [hb s hs];rfl) uW h1 (p := .bool false) ⟨rfl,rfl⟩
          ·
           have jV:g.k≠1:=by simpa using jV
           refine kT (hC.round hJw qY (by rw [← hk];exact jV) ji) fun en w' ⟨uz,gM,B',hJ',hB'⟩=>⟨_,uz,?_⟩
           have gY:∀ s,∀ b∈L s,w'.heap[b]? = w.heap[b]?:=fun s b hb=>gM.kept b (S.conf.own s b hb).1 (hLB s b hb)
           have hΦk:∀ b,Φ b→w'.heap[b]? = w.heap[b]?:=fun b hb=>(hΦB b hb).elim (fun h=>gM.seen b h) (fun h=>gM.kept b (S.conf.frz b hb).1 h)
           have C1:=S.conf.arrive (w':=w') gM.size gY hΦk
           have S':=S.with C1
           refine ⟨_,rfl,uY,hO,w',_,_,zAw S' hb uW h1 (p := .bool true) ⟨rfl,rfl⟩,.inl ⟨by simp only;omega,B',hJ',fun b wR ⟨s,jO⟩=>?_,fun b hbΦ=>?_⟩⟩
           ·rcases hB' b wR with h3 | h3
            ·exact hLB s b jO h3
            ·have:=(S.conf.own s b jO).1;omega
           ·rcases hΦB b hbΦ with h3 | h3
            ·exact .inl h3
            ·refine .inr fun wR=>?_
             rcases hB' b wR with h4 | h4
             ·exact h3 h4
             ·have:=(S.conf.frz b hbΦ).1;omega
         ·exact absurd h0 hkn
        ·cases h
     ·cases hy
    ·cases hy
   ·cases hy
 ·intro a w e e' lg ⟨g,h1,h2,h3,w1,U1,Φ1,hf,hc⟩ hg
  exact ⟨g,h1,h2,h3,w1,U1,Φ1,hf.get' hg,hc⟩
 ·intro a w e lg d ⟨g,h1,h2,h3,w1,U1,Φ1,hf,hc⟩
  exact ⟨g,h1,h2,h3,w1,U1,Φ1,hf.tick d,hc⟩
 ·intro a w e lg l ⟨g,h1,h2,h3,w1,U1,Φ1,hf,hc⟩
  exact ⟨g,h1,h2,h3,w1,U1,Φ1,hf.drop l,hc⟩
 ·intro a w e lg l ⟨g,h1,h2,h3,w1,U1,Φ1,hf,hc⟩
  exact ⟨g,h1,h2,h3,w1,U1,Φ1,hf.ice,hc⟩
 ·intro a w e lg t b ⟨g,h1,h2,h3,w1,U1,Φ1,⟨Φ,rv,E,L,S,hb⟩,hc⟩ ht he
  have yj:t<zAb:=Nat.lt_of_lt_of_le ht (Nat.le_trans S.small (by decide))
  have:=S.conf.rep t
  rw [S.env t yj,he] at this
  rw [S.tmps t ht];exact this.1
theorem zTF (zFi:P.follows .mixedOrders=true) (jH:zGf P orc) (hnm:zER P) (hC:Client P l plan k0 Ψ J Jx) {m:Nat} {f:FuncId} {fn:Func} {body:Code} {args:List PV} (hf:P.funcs[f]? = some fn) (yR:fn.body=some body) (jM:zCE P fn.ntmps body=true)
  (uV:fn.ntmps≤2000000) (yH:args.length≤fn.ntmps) (uZ:args.all (fun p => !p.isTup)=true) (ya:fn.results.isEmpty=true) {x:X} {e1:Env} {g:Log}
  (hx:exec P H orc yo al fn.ntmps (H f) m body (zA5 args []) (some ⟨[],k0,l⟩)=some (x,e1,some g)) (gN:x = .norm∨x = .ret) (hg:g.xs=plan) (hk:k0≠0)
  {w:World} {Φ:Nat→Prop} {rv:Nat→Value} {E:Nat→PV} {L:Nat→List Nat} {vs:Array Value} (hE:∀ s,s<zAb→E s=(zA5 args []).get s) (kY:∀ s,zAb≤s→E s = .bad) (C:Conf w (fun b=>∃ s,b∈L s) Φ w Φ rv E L)
  (yD:vs.size=args.length) (yq:∀ i,i<args.length→vs[i]? = some (rv i)) (jb:∀ s,args.length≤s→s<zAl→rv s=undef) {B:Nat→Prop} (hJ:J [] w B) (hBL:∀ b,B b→∀ s,b∉L s) (hBΦ:∀ b,Φ b→Ψ b∨¬ B b) :
  CallsIn (FF none) 0 P f vs w fun en w'=>(∃ v,en = .returned v)∧((k0-plan.length≠0∧∃ B',J plan w' B')∨(k0-plan.length=0∧Jx w')):=by
 have ho:zAA=60000000:=rfl
 have hh:zAl=50000000:=rfl
 have wP:zAb=1000000000:=rfl
 refine callsIn_of_wp hf yR trivial ?_
 have S:St w (fun b=>∃ s,b∈L s) Φ fn.ntmps ⟨rv,[]⟩ {tmps:=vs++Array.replicate (fn.ntmps-vs.size) undef,defers:=[]} w (zA5 args []) Φ rv E L:=by
  refine ⟨C,hE,by simp;omega,uV,fun t ht=>?_,fun d ps i hd hp hi=>?_,fun _ _ _=>rfl,rfl⟩
  ·simp only [Array.getD_eq_getD_getElem?,Array.getElem?_append]
   by_cases h1:t<vs.size
   ·rw [if_pos h1,yq t (by omega)];rfl
   ·rw [if_neg h1,Array.getElem?_replicate,if_pos (by omega),jb t (by omega) (by omega)];rfl
  ·rw [hE d (by omega),zDm (by omega)] at hp
   split at hp
   ·rename_i vZ
    have:(args.getD d .bad)∈args:=by
     simp only [List.getD,List.getElem?_eq_getElem vZ,Option.getD_some];exact List.getElem_mem vZ
    have:=List.all_eq_true.1 uZ _ this
    rw [hp] at this;cases this
   ·split at hp
    ·rename_i h2;simp at h2;omega
    ·cases hp
 have yJ:zWf plan (some g):=⟨g,rfl,by rw [hg];exact List.prefix_refl _⟩
 have hw:=zHy (zUE (val:=rv) jH hnm hC) zFi m body (.inr fun m' _ t ps ca cb a w e x e' _ hG _=>by obtain ⟨g,h,_⟩:=hG;cases h) jM (fun _ _=>trivial) yJ
  (⟨_,rfl,rfl,by simp,w,_,_,⟨Φ,rv,E,L,S,kY⟩,.inl ⟨hk,B,hJ,fun b hb ⟨s,hs⟩=>hBL b hb s hs,hBΦ⟩⟩:GJ fn.ntmps rv l k0 Ψ J Jx _ w (zA5 args []) (some ⟨[],k0,l⟩)) hx
 refine wpIn_mono hw fun ex a' w' ⟨gO,g',hg',_,vr,w1,U1,Φ1,qE,jh⟩=>?_
 cases hg'
 rw [hg] at vr;rw [vr] at jh
 obtain ⟨Φ2,rv2,E2,L2,S2,jS⟩:=qE
 have hZ:=zLE (P:=P) (w:=w') (fn:=fn) (a:=a') ya
 have vp:bodyPost P fn (fun en w'=>(∃ v,en = .returned v)∧((k0-plan.length≠0∧∃ B',J plan w' B')∨(k0-plan.length=0∧Jx w'))) .normal a' w':=by
  refine ⟨S2.dfr,_,hZ,⟨_,rfl⟩,?_⟩
  rcases jh with ⟨h1,B1,hJ1,hBU,_⟩ | ⟨h1,jZ,hU⟩
  ·rw [hg] at hJ1
   exact .inl ⟨h1,B1,hC.abide hJ1 S2.conf.size (fun b hb=>S2.conf.kept b (hC.small hJ1 b hb) (hBU b hb)) ⟨S2.conf.os,S2.conf.tape,S2.conf.output⟩⟩
  ·exact .inr ⟨h1,hC.abideX jZ S2.conf.size (fun b hb=>S2.conf.kept b hb (hU b)) ⟨S2.conf.os,S2.conf.tape,S2.conf.output⟩⟩
 subst gO
 rcases gN with rfl | rfl<;>exact vp
end
end Go.Eng
namespace Go.Eng
open Go
section
variable {w0 w w' w1 w2:World} {U Φ0 Φ U1 Φ1 U2 Φ2:Nat→Prop} {nt:Nat} {hv:Hid} {a:Act} {e e':Env} {rv rv':Nat→Value} {E E':Nat→PV} {L L':Nat→List Nat}
theorem zN9 {f:Nat→PV→PV}:∀ (e:Env) (s:Nat),f s .bad = .bad→Env.get (e.map fun x=>(x.1,f x.1 x.2)) s=f s (e.get s)
 | [],s,h=>h.symm
 | (k,v)::e,s,h=>by
  simp only [List.map_cons,Env.get]
  cases hb:Nat.beq k s with
  | true=>rw [Nat.eq_of_beq_eq_true hb];rfl
  | false=>exact zN9 e s h
def zDf (nt:Nat) (R ds:List Nat) (e:Env) (s:Nat) (p:PV):PV :=
 bif R.contains s || !p.heavy&&p.ways.all (fun w=>R.contains w.1) then p else bif !(Nat.blt s nt && !ds.contains s||Nat.ble zAl s&&Nat.blt s zAA) then .bad else bif (R.isEmpty||(e.get s).free) && !(e.get s).isTup then e.get s else .bad
theorem zPH (nt:Nat) (R ds:List Nat) (e0 e:Env) (s:Nat):(after nt R ds e0 e).get s=zDf nt R ds e s (e0.get s) :=
 zN9 (f:=fun s p=>zDf nt R ds e s p) e0 s (by simp [zDf,PV.heavy,PV.ways])
theorem zKM (nt:Nat) (R ds:List Nat) (e:Env) (s:Nat) (p:PV) :
  (zDf nt R ds e s p=p∧s∈R)∨(zDf nt R ds e s p=p∧p.heavy=false∧∀ x∈p.ways,x.1∈R)∨zDf nt R ds e s p = .bad ∨
  (zDf nt R ds e s p=e.get s∧s∉R∧((s<nt∧s∉ds)∨(zAl≤s∧s<zAA))∧(R=[]∨(e.get s).free=true)∧(e.get s).isTup=false):=by
 simp only [zDf]
 cases h1:(R.contains s || !p.heavy&&p.ways.all (fun w=>R.contains w.1)) with
 | true =>
  simp only [Bool.or_eq_true,Bool.and_eq_true,Bool.not_eq_true',List.contains_iff_mem,List.all_eq_true] at h1
  rcases h1 with h1 | ⟨h1,h2⟩
  ·exact .inl ⟨rfl,h1⟩
  ·exact .inr (.inl ⟨rfl,h1,h2⟩)
 | false =>
  simp only [cond_false]
  have hs:s∉R:=by
   simp only [Bool.or_eq_false_iff] at h1
   intro hm
   rw [List.contains_iff_mem.2 hm] at h1;cases h1.1
  cases h2:(!(Nat.blt s nt && !ds.contains s||Nat.ble zAl s&&Nat.blt s zAA)) with
  | true=>exact .inr (.inr (.inl rfl))
  | false =>
   simp only [cond_false]
   cases h3:((R.isEmpty||(e.get s).free) && !(e.get s).isTup) with
   | false=>exact .inr (.inr (.inl rfl))
   | true =>
    simp only [Bool.not_eq_false',Bool.or_eq_true,Bool.and_eq_true,Bool.not_eq_true'] at h2 h3
    refine .inr (.inr (.inr ⟨rfl,hs,?_,?_,h3.2⟩))
    ·rcases h2 with ⟨h4,h5⟩ | ⟨h4,h5⟩
     ·refine .inl ⟨zBY h4,fun hm=>?_⟩
      rw [List.contains_iff_mem.2 hm] at h5;cases h5
     ·exact .inr ⟨Nat.le_of_ble_eq_true h4,zBY h5⟩
    ·rcases h3.1 with h4 | h4
     ·exact .inl (by simpa using h4)
     ·exact .inr h4
theorem zOS {p:PV} (h:p.flat=true):p.isTup=false∧p.heavy=false:=by
 cases p<;>first | (cases h;done) | exact ⟨rfl,rfl⟩ | skip
 rename_i cs
 refine ⟨rfl,?_⟩
 have key:∀ cs:List PV,cs.all PV.num=true→zC3 cs=false:=by
  intro cs
  induction cs with
  | nil=>intro _;rfl
  | cons c cs ih =>
   intro h
   simp only [List.all_cons,Bool.and_eq_true] at h
   simp only [zC3,ih h.2,Bool.or_false]
   cases c<;>first | (cases h.1;done) | rfl
 exact key cs h
theorem zTX {A:Al} {p:PV} (h:p.num=true):Rep w Φ A p (zKe p) []:=by
 cases p<;>first | (cases h;done) | exact ⟨rfl,rfl⟩
theorem zOB {A:Al}:∀ (ps:List PV),ps.all PV.num=true→zAZ w Φ A ps (ps.map zKe) []
 | [],_=>⟨rfl,rfl⟩
 | p::ps,h=>by
  simp only [List.all_cons,Bool.and_eq_true] at h
  exact ⟨_,_,[],[],rfl,rfl,zTX h.1,zOB ps h.2⟩
theorem zRW {A:Al} {p:PV} (h:p.flat=true):Rep w Φ A p (zCI p) []:=by
 cases p<;>first | (cases h;done) | exact ⟨rfl,rfl⟩ | skip
 exact ⟨_,rfl,by simpa using zOB _ h⟩
theorem zH4:∀ (ps:List Tmp) (x:List PV) {a:Act} {e e1:Env},Fr w0 U Φ0 nt hv a w e→(∀ t∈ps,t<nt)→x.all PV.flat=true→zCq ps x e=some e1 →
  ps.length=x.length∧Fr w0 U Φ0 nt hv {a with tmps:=(ps.zip (x.map zCI)).foldl (fun t (p,v)=>t.setIfInBounds p v) a.tmps} w e1 ∧
  ∀ t,t∉ps→((ps.zip (x.map zCI)).foldl (fun t (p,v)=>t.setIfInBounds p v) a.tmps).getD t undef=a.tmps.getD t undef
 | [],[],a,e,e1,hf,_,_,h=>by
  simp only [zCq,Option.some.injEq] at h;subst h
  exact ⟨rfl,hf,fun _ _=>rfl⟩
 | [],_::_,a,e,e1,hf,_,_,h=>by cases h
 | _::_,[],a,e,e1,hf,_,_,h=>by cases h
 | t :: ts,v::vs,a,e,e1,hf,ht,hx,h=>by
  simp only [zCq] at h
  split at h
  ·cases h
  ·simp only [List.all_cons,Bool.and_eq_true] at hx
   obtain ⟨Φ,rv,E,L,S,hb⟩:=hf
   have hl:=zOS hx.1
   have hZ:(put (some t) v).run (fun _ _ _=>none) e=some (e.set t v):=by
    simp only [put,hl.1,cond_false,lay,hl.2,PM.run]
   have hf1:=zAw (d:=some t) S hb (fun y hy=>by cases hy;exact ht t (by simp)) hZ (zRW hx.1)
   obtain ⟨h1,h2,h3⟩:=zH4 ts vs hf1 (fun y hy=>ht y (by simp [hy])) hx.2 h
   refine ⟨by simp [h1],h2,fun y hy=>?_⟩
   simp only [List.mem_cons,not_or] at hy
   have:=h3 y hy.2
   simp only [List.map_cons,List.zip_cons_cons,List.foldl_cons]
   refine Eq.trans this ?_
   show (a.tmps.setIfInBounds t (zCI v)).getD y undef=_
   simp only [Array.getD_eq_getD_getElem?,Array.getElem?_setIfInBounds]
   rw [if_neg (fun e=>hy.1 e.symm)]
end
theorem zMT {F:Fence} {n:Nat} {P:Program} {ops:Array Oper} {Q:Exit→Act→World→Prop} {i:Nat} {K:Act→World→Prop} {T:Act→Prop} {a:Act} {w:World} {o:Oper} (hi:ops[i]? = some o) (hT:∀ v ds,T ({a with defers:=ds}.put o.dst v))
  (h:wpOpIn F n P ops Q i K a w):wpOpIn F n P ops Q i (fun a' w'=>K a' w'∧T a') a w:=by
 have hT0:∀ v,T (a.put o.dst v):=fun v=>hT v a.defers
 simp only [wpOpIn,hi] at h ⊢
 split
 ·rename_i hw
  rw [if_pos hw] at h
  refine ⟨h.1,?_⟩
  have h:=h.2
  revert h
  generalize (o.semAt F.round a.eval).run P w=r
  intro h
  cases r with
  | ok x w' =>
   cases x<;>simp only [Oper.uponIn] at h ⊢ <;> first
    | exact ⟨h,hT0 _⟩
    | exact ⟨h,hT _ _⟩
    | exact ⟨h.1,h.2.mono fun e w'' he=>by cases e<;>first | exact ⟨he,hT0 _⟩ | exact he⟩
    | exact ⟨h.1,h.2.mono fun v w'' he=>⟨he,hT0 _⟩⟩
    | exact h
  | halt x w'=>cases x<;>simp only [Oper.uponIn] at h ⊢ <;> exact h
 ·rename_i hw
  rw [if_neg hw] at h
  exact ⟨h.1,h.2,hT0 _⟩
def GR (wb:World) (Ub Φb:Nat→Prop) (nt:Nat) (val:Nat→Value) (ds:List Nat) (tm:Array Value) (a:Act) (w:World) (e:Env) (lg:Option Log):Prop :=
 lg=none∧Fr wb Ub Φb nt ⟨val,[]⟩ a w e∧∀ t,t∉ds→a.tmps.getD t undef=tm.getD t undef
theorem zS5 {P:Program} {H:zBh} {orc:zAF} {nt l:Nat} {wb:World} {Ub Φb:Nat→Prop} {val:Nat→Value} {ds:List Nat} {tm:Array Value} (jH:zGf P orc) (hnm:zER P) :
  Frame P H orc nt (some l) 0 (fun d=>d∈ds) (fun lg=>lg=none) (GR wb Ub Φb nt val ds tm):=by
 refine ⟨?_,?_,?_,?_,?_,?_,?_⟩
 ·intro ops o fz tk nl e e' lg lg' h hf
  cases lg with
  | none=>rfl
  | some g=>obtain ⟨g',h2,_⟩:=zHs h;rw [h2] at hf;cases hf
 ·intro ops i o fz tk nl a w e e' lg lg' Q yw hi hd yJ ⟨v0,hf,ht⟩ h
  subst v0
  simp only [zCN] at h
  obtain ⟨e1,h1,h2⟩:=Option.map_eq_some_iff.1 h
  cases h2
  refine zDD (zMT (T:=fun a'=>∀ t,t∉ds→a'.tmps.getD t undef=tm.getD t undef) hi (fun v ds' t uq=>?_) (zKE jH hnm yw hf hi h1)) fun a' w' ⟨yn,gX⟩=>⟨rfl,yn,gX⟩
  rw [← ht t uq]
  cases uW:o.dst with
  | none=>rfl
  | some d =>
   have hH:t≠d:=by rintro rfl;exact uq (hd t uW)
   simp only [Act.put,Array.getD_eq_getD_getElem?,Array.getElem?_setIfInBounds]
   rw [if_neg (fun e=>hH e.symm)]
 ·intro a w e e' lg ⟨h1,hf,ht⟩ hg
  exact ⟨h1,hf.get' hg,ht⟩
 ·intro a w e lg d ⟨h1,hf,ht⟩
  exact ⟨h1,hf.tick d,ht⟩
 ·intro a w e lg l ⟨h1,hf,ht⟩
  exact ⟨h1,hf.drop l,ht⟩
 ·intro a w e lg l ⟨h1,hf,ht⟩
  exact ⟨h1,hf.ice,ht⟩
 ·intro a w e lg t b ⟨_,⟨Φ,rv,E,L,S,hb⟩,_⟩ ht he
  have yj:t<zAb:=Nat.lt_of_lt_of_le ht (Nat.le_trans S.small (by decide))
  have:=S.conf.rep t
  rw [S.env t yj,he] at this
  rw [S.tmps t ht];exact this.1
def X.isNorm:X→Bool
 | .norm=>true
 | _=>false
def zIu:X→Code
 | .ret => .ret
 | .ex id => .exit id
 | .norm => .skip
def zJE (run:Code→Env→Option (X×Env)) (ps:List Tmp) (ca cb:Code) (x:List PV) (e:Env):Option (X×Env) :=
 match zCq ps x e with
 | some e1=>match run ca e1 with
  | some (.norm,e2)=>run cb e2
  | _=>none
 | none=>none
section
variable {w0 w w' w1 w2:World} {U Φ0 Φ U1 Φ1 U2 Φ2:Nat→Prop} {nt:Nat} {hv:Hid} {a:Act} {e e':Env} {rv rv':Nat→Value} {E E':Nat→PV} {L L':Nat→List Nat}
theorem zLz {p:PV} (h:p.heavy=false):p.unlock=p:=by cases p<;>first | rfl | cases h
open Classical in
theorem Conf.behind {wb w4:World} {Ub Φb Φ3:Nat→Prop} {rv3:Nat→Value} {E3:Nat→PV} {L3:Nat→List Nat} {e3:Env} {R ds:List Nat} (C:Conf w0 U Φ0 w Φ rv E L) (hE:∀ s,s<zAb→E s=e.get s) (kY:zBw E)
  (C3:Conf wb Ub Φb w4 Φ3 rv3 E3 L3) (hE3:∀ s,s<zAb→E3 s=e3.get s) (yP:∀ r∈R,∀ x∈(E r).ways,x.1∈R)
  (ja:∀ s,(s<nt∧s∉ds)∨(zAl≤s∧s<zAA)→rv3 s=rv s)
  (hs:w.heap.size≤w4.heap.size) (hk:∀ b,b<w.heap.size→(Φ b∨(∃ r∈R,b∈L r)∨b<w0.heap.size∧¬ U b)→w4.heap[b]? = w.heap[b]?)
  (hΦ3:∀ b,Φ b→Φ3 b) (hΦb:∀ b,Φ3 b→Φ b∨(∃ s,b∈L s)∨w.heap.size≤b) (hΦR:∀ r∈R,∀ b∈L r,Φ3 b) (hL3:∀ s,∀ b∈L3 s,(∃ t,b∈L t)∨w.heap.size≤b) (ho:w4.os=w.os∧w4.tape=w.tape∧w4.output=w.output) :
  ∃ E' L',(∀ s,s<zAb→E' s=zDf nt R ds e3 s (e.get s))∧zBw E'∧Conf w0 U Φ0 w4 (fun b=>Φ3 b∧∀ r∈R,b∉L r) rv E' L'∧(∀ r∈R,L' r=L r)∧(∀ s,∀ b∈L' s,(∃ r∈R,b∈L r)∨∃ t,b∈L3 t) ∧
   ∀ d ps,d<zAb→E' d = .tup ps→E d = .tup ps:=by
 let Tk:Nat→Prop:=fun s=>s<zAb∧zDf nt R ds e3 s (e.get s)=e3.get s∧((s<nt∧s∉ds)∨(zAl≤s∧s<zAA))∧(R=[]∨(e3.get s).free=true)∧(e3.get s).isTup=false
 let E':Nat→PV:=fun s=>if s<zAb then zDf nt R ds e3 s (e.get s) else .bad
 let L':Nat→List Nat:=fun s=>if s∈R then L s else if Tk s then L3 s else []
 have hE':∀ s,s<zAb→E' s=zDf nt R ds e3 s (e.get s):=fun s hs=>if_pos hs
 have hEb':zBw E':=fun g hg=>if_neg (by omega)
 have qZ:∀ s,s∈R→L' s=L s:=fun s hs=>if_pos hs
 have gP:∀ s,s∉R→Tk s→L' s=L3 s:=fun s hs ht=>by show (if s∈R then L s else if Tk s then L3 s else [])=_;rw [if_neg hs,if_pos ht]
 have qa:∀ s,s∉R→¬ Tk s→L' s=[]:=fun s hs ht=>by show (if s∈R then L s else if Tk s then L3 s else [])=_;rw [if_neg hs,if_neg ht]
 have fate:∀ s,(s∈R∧E' s=E s)∨(s∉R∧Tk s∧E' s=E3 s)∨(s∉R∧¬ Tk s∧E' s=E s∧(E s).heavy=false∧∀ x∈(E s).ways,x.1∈R)∨(s∉R∧¬ Tk s∧E' s = .bad):=by
  intro s
  by_cases yb:s<zAb
  ·rw [hE' s yb,hE s yb]
   by_cases jB:s∈R
   ·have:zDf nt R ds e3 s (e.get s)=e.get s:=by
     simp only [zDf,List.contains_iff_mem.2 jB,Bool.true_or,cond_true]
    exact .inl ⟨jB,this⟩
   ·by_cases ht:Tk s
    ·exact .inr (.inl ⟨jB,ht,by rw [hE3 s yb];exact ht.2.1⟩)
    ·rcases zKM nt R ds e3 s (e.get s) with ⟨_,h2⟩ | ⟨h1,h2,h3⟩ | h1 | ⟨h1,h2,h3,h4,h5⟩
     ·exact absurd h2 jB
     ·exact .inr (.inr (.inl ⟨jB,ht,h1,h2,h3⟩))
     ·exact .inr (.inr (.inr ⟨jB,ht,h1⟩))
     ·exact absurd ⟨yb,h1,h3,h4,h5⟩ ht
  ·have hb:E' s = .bad:=hEb' s (by omega)
   have ht:¬ Tk s:=fun ht=>yb ht.1
   by_cases jB:s∈R
   ·exact .inl ⟨jB,by rw [hb,kY s (by omega)]⟩
   ·exact .inr (.inr (.inr ⟨jB,ht,hb⟩))
 have hΦ:zDo w w4 Φ (fun b=>Φ3 b∧∀ r∈R,b∉L r):=fun b hb=>⟨⟨hΦ3 b hb,fun r _ wJ=>(C.own r b wJ).2.1 hb⟩,hk b (C.frz b hb).1 (.inl hb)⟩
 have gY:∀ r∈R,∀ b∈L r,w4.heap[b]? = w.heap[b]?:=fun r hr b hb=>hk b (C.own r b hb).1 (.inr (.inl ⟨r,hr,hb⟩))
 have hA:∀ b v,b.isWay=true→(zA2 w rv E b v∧∀ x∈b.ways,x.1∈R)→zA2 w4 rv E' b v:=by
  intro b v hw ⟨ha,hR⟩
  have hr:(zA4 b).1∈R:=by
   have:=hR (zA4 b)
   cases b<;>first | (cases hw;done) | (exact ha.elim) | skip
   all_goals exact this (by simp [PV.ways,zA4])
  have hg:=zCX ha
  rcases fate (zA4 b).1 with ⟨_,h1⟩ | ⟨h1,_⟩ | ⟨h1,_⟩ | ⟨h1,_⟩
  ·exact zCF C zCe ha (by rw [h1,zBg]) rfl (gY _ hr)
  all_goals exact absurd hr h1
 have keepRep:∀ s,(∀ x∈(E s).ways,x.1∈R)→(∀ b∈L s,w4.heap[b]? = w.heap[b]?)→Rep w4 (fun b=>Φ3 b∧∀ r∈R,b∉L r) (zA2 w4 rv E') (E s) (rv s) (L s):=by
  intro s hx hL
  have h1:=Rep.ways (A':=fun b v=>zA2 w rv E b v∧∀ x∈b.ways,x.1∈R) (E s) (rv s) (L s) (fun b v _ qp ha=>⟨ha,fun x hxb=>hx x (qp x hxb)⟩) (C.rep s)
  exact h1.mono (Φ':=fun b=>Φ3 b∧∀ r∈R,b∉L r) hΦ hA hL
 refine ⟨E',L',hE',hEb',⟨fun s=>?_,fun s=>?_,fun s s' hH b hb yF=>?_,fun s b hb=>?_,fun b ⟨hb,_⟩=>?_,fun b hb=>⟨hΦ3 b (C.frz0 b hb),fun r _ wJ=>(C.own r b wJ).2.1 (C.frz0 b hb)⟩,Nat.le_trans C.size hs,
  fun b hb hu=>(hk b (Nat.lt_of_lt_of_le hb C.size) (.inr (.inr ⟨hb,hu⟩))).trans (C.kept b hb hu),ho.1.trans C.os,ho.2.1.trans C.tape,ho.2.2.trans C.output⟩,qZ,fun s b hb=>?_,fun d ps hd hp=>?_⟩
 ·rcases fate s with ⟨h1,h2⟩ | ⟨h1,h2,h3⟩ | ⟨h1,h2,h3,h4,h5⟩ | ⟨h1,h2,h3⟩
  ·rw [h2,qZ s h1];exact keepRep s (yP s h1) (gY s h1)
  ·rw [h3,gP s h1 h2]
   have jl:=ja s h2.2.2.1
   rw [← jl]
   rcases h2.2.2.2.1 with hR | wA
   ·subst hR
    refine (C3.rep s).mono (Φ':=fun b=>Φ3 b∧∀ r∈([]:List Nat),b∉L r) (fun b hb=>⟨⟨hb,fun r hr=>by cases hr⟩,rfl⟩) (fun b v hw ha=>?_) (fun _ _=>rfl)
    have hg:=zCX ha
    rcases fate (zA4 b).1 with ⟨h1,_⟩ | ⟨_,h4,h5⟩ | ⟨_,_,h5,h6,_⟩ | ⟨_,_,h5⟩
    ·cases h1
    ·exact zCF C3 zCe ha (by rw [h5,zBg]) (ja _ h4.2.2.1).symm (fun _ _=>rfl)
    ·exact zLf ha (by rw [h5,zLz h6];exact h6)
    ·exact zLf ha (by rw [h5];rfl)
   ·exact Rep.free _ _ _ (by rw [hE3 s h2.1];exact wA) (C3.rep s)
  ·rw [h3,qa s h1 h2]
   have wt:=zDl _ _ _ h4 (C.rep s)
   have:=keepRep s h5 (by rw [wt];simp)
   rwa [wt] at this
  ·rw [h3,qa s h1 h2];rfl
 ·by_cases h1:s∈R
  ·rw [qZ s h1];exact C.nodup s
  ·by_cases h2:Tk s
   ·rw [gP s h1 h2];exact C3.nodup s
   ·rw [qa s h1 h2];exact List.nodup_nil
 ·by_cases h1:s∈R
  ·rw [qZ s h1] at hb
   by_cases jX:s'∈R
   ·rw [qZ s' jX] at yF;exact C.disj s s' hH b hb yF
   ·by_cases jF:Tk s'
    ·rw [gP s' jX jF] at yF;exact (C3.own s' b yF).2.1 (hΦR s h1 b hb)
    ·rw [qa s' jX jF] at yF;cases yF
  ·by_cases h2:Tk s
   ·rw [gP s h1 h2] at hb
    by_cases jX:s'∈R
    ·rw [qZ s' jX] at yF;exact (C3.own s b hb).2.1 (hΦR s' jX b yF)
    ·by_cases jF:Tk s'
     ·rw [gP s' jX jF] at yF;exact C3.disj s s' hH b hb yF
     ·rw [qa s' jX jF] at yF;cases yF
   ·rw [qa s h1 h2] at hb;cases hb
 ·by_cases h1:s∈R
  ·rw [qZ s h1] at hb
   have:=C.own s b hb
   exact ⟨Nat.lt_of_lt_of_le this.1 hs,fun ⟨_,h2⟩=>h2 s h1 hb,this.2.2⟩
  ·by_cases h2:Tk s
   ·rw [gP s h1 h2] at hb
    have:=C3.own s b hb
    refine ⟨this.1,fun ⟨h3,_⟩=>this.2.1 h3,?_⟩
    rcases hL3 s b hb with ⟨t,h3⟩ | h3
    ·exact (C.own t b h3).2.2
    ·exact .inr (Nat.le_trans C.size h3)
   ·rw [qa s h1 h2] at hb;cases hb
 ·refine ⟨(C3.frz b hb).1,?_⟩
  rcases hΦb b hb with h3 | ⟨t,h3⟩ | h3
  ·exact (C.frz b h3).2
  ·exact .inr (C.own t b h3).2.2
  ·exact .inr (.inr (Nat.le_trans C.size h3))
 ·by_cases h1:s∈R
  ·rw [qZ s h1] at hb;exact .inl ⟨s,h1,hb⟩
  ·by_cases h2:Tk s
   ·rw [gP s h1 h2] at hb;exact .inr ⟨s,hb⟩
   ·rw [qa s h1 h2] at hb;cases hb
 ·rcases fate d with ⟨h1,h2⟩ | ⟨h1,h2,h3⟩ | ⟨h1,h2,h3,_⟩ | ⟨h1,h2,h3⟩
  ·rw [← h2];exact hp
  ·rw [h3,hE3 d hd] at hp
   have:=h2.2.2.2.2
   rw [hp] at this;cases this
  ·rw [← h3];exact hp
  ·rw [h3] at hp;cases hp
end
section
variable {P:Program} {H:zBh} {orc:zAF} {yo:zCP} {al:All} {w0 w:World} {U Φ0 Φ:Nat→Prop} {nt:Nat} {hv:Hid} {aM:Act} {e ef e3:Env} {rv:Nat→Value} {E:Nat→PV} {L:Nat→List Nat} {hh:FHint} {m:Nat}
def zJU (P:Program) (H:zBh) (orc:zAF) (yo:zCP) (al:All) (nt:Nat) (hh:FHint) (m:Nat) (c:Code) (e:Env):Option (X×Env) :=
 match exec P H orc yo al nt hh m c e none with
 | some (x,e',none)=>some (x,e')
 | _=>none
theorem zJ9 {c:Code} {e e':Env} {x:X} (h:zJU P H orc yo al nt hh m c e=some (x,e')):exec P H orc yo al nt hh m c e none=some (x,e',none):=by
 simp only [zJU] at h
 split at h
 ·rename_i hx;cases h;exact hx
 ·cases h
theorem zKq:∀ (R:List Nat) {e ef:Env},zEj R e=some ef→∀ r∈R,r<zAb
 | [],_,_,_,r,hr=>by cases hr
 | t :: R,e,ef,h,r,hr=>by
  simp only [zEj] at h
  rcases zBf h with ⟨h1,h⟩ | ⟨_,h⟩
  ·split at h
   ·rcases List.mem_cons.1 hr with rfl | hr
    ·exact zBY h1
    ·exact zKq R h r hr
   ·cases h
  ·cases h
theorem zOz (zFi:P.follows .mixedOrders=true) (jH:zGf P orc) (hnm:zER P) {ps:Array Tmp} {ca cb:Code} {ds:List Nat} {x:List PV} {r:X} (yc:∀ t∈ps.toList,t<nt) (gm:zCE P nt ca=true) (gp:zCE P nt cb=true) (gq:zCY ca=true) (gr:zCY cb=true)
  (gu:∀ t∈ps.toList,t∈ds) (vZ:∀ d∈zBK ca,d∈ds) (gv:∀ d∈zBK cb,d∈ds) (hx:x.all PV.flat=true) (S:St w0 U Φ0 nt hv aM w e Φ rv E L) (hb:zBw E)
  {l:Nat} {rc:Go.Loop} (uN:rc.params=ps) (jz:rc.assign=ca) (hrb:rc.body=cb) (wS:rc.tmps=aM.tmps) (jl:rc.state = .ready) (hl:w.heap[l]? = some (.loop rc)) (hlL:∀ s,l∉L s) (hlΦ:¬ Φ l) (vl:w0.heap.size≤l)
  {R:List Nat} (hR:(R=[]∧ef=e)∨(zGc e R=true∧zEj R e=some ef)) (yO:zJE (zJU P H orc yo al nt hh m) ps.toList ca cb x ef=some (r,e3)) :
  YieldAt (FF none) 0 P l (x.map zCI).toArray w fun en w4=>en = .returned (.bool r.isNorm)∧w.heap.size≤w4.heap.size∧(w4.os=w.os∧w4.tape=w.tape∧w4.output=w.output) ∧
   w4.heap[l]? = some (.loop {rc with state:=bif r.isNorm then .ready else .done,pending:=bif r.isNorm then none else some (zIu r)})∧(∀ b,b<w.heap.size→b≠l→(∀ s,s∉R→b∉L s)→w4.heap[b]? = w.heap[b]?) ∧
   ∃ Φ4 E4 L4,St w0 U Φ0 nt hv aM w4 (after nt R ds e e3) Φ4 rv E4 L4∧zBw E4∧(∀ b,Φ b→Φ4 b)∧(∀ b,Φ4 b→Φ b∨(∃ s,b∈L s)∨w.heap.size≤b)∧(∀ r∈R,L4 r=L r)∧∀ s,∀ b∈L4 s,(∃ t,b∈L t)∨w.heap.size≤b:=by
 subst jz;subst hrb
 have wP:zAb=1000000000:=rfl
 have jc:=S.small
 have hlw:l<w.heap.size:=(Array.getElem?_eq_some_iff.1 hl).1
 obtain ⟨Φr,Er,Lr,Sr,wJ,f1,f2,f3,f4⟩:∃ Φr Er Lr,St w (fun b=>∃ s,b∈L s) Φ nt hv aM w ef Φr rv Er Lr∧zBw Er∧(∀ b,Φ b→Φr b)∧(∀ b,Φr b→Φ b∨∃ r∈R,b∈L r)∧(∀ r∈R,∀ b∈L r,Φr b)∧∀ s,∀ b∈Lr s,b∈L s:=by
  rcases hR with ⟨rfl,rfl⟩ | ⟨_,hf⟩
  ·exact ⟨Φ,E,L,S.with S.conf.fresh,hb,fun _ h=>h,fun _ h => .inl h,fun _ h=>(by cases h),fun _ _ h=>h⟩
  ·exact zJj R (S.with S.conf.fresh) hb hf
 have yP:∀ r∈R,∀ x∈(E r).ways,x.1∈R:=by
  rcases hR with ⟨rfl,_⟩ | ⟨hc,hf⟩
  ·intro r hr;cases hr
  ·intro r hr x hx
   have:=List.all_eq_true.1 hc r hr
   rw [S.env r (zKq R hf r hr)] at hx
   exact List.contains_iff_mem.1 (List.all_eq_true.1 this x hx)
 have wT:∀ s,l∉Lr s:=fun s hs=>hlL s (f4 s l hs)
 have hlΦr:¬ Φr l:=fun h=>(f2 l h).elim hlΦ fun ⟨t,_,ht⟩=>hlL t ht
 simp only [zJE] at yO
 cases j3:zCq ps.toList x ef with
 | none=>rw [j3] at yO;cases yO
 | some e1 =>
  rw [j3] at yO;simp only at yO
  split at yO
  ·rename_i e2 hra1
   have jZ:=zJ9 hra1
   have jY:=zJ9 yO
   have S0:St w (fun b=>∃ s,b∈Lr s) Φr nt ⟨hv.val,[]⟩ {tmps:=aM.tmps,defers:=[]} w ef Φr rv Er Lr :=
    ⟨Sr.conf.fresh,Sr.env,Sr.size,Sr.small,Sr.tmps,Sr.parts,Sr.hid,rfl⟩
   obtain ⟨g1,g2,g3⟩:=zH4 ps.toList x ⟨_,_,_,_,S0,wJ⟩ yc hx j3
   have kT:=run_yield (P:=P) (args:=(x.map zCI).toArray) hl (by rw [uN];simpa using g1.symm)
   have hfold:(rc.params.zip (x.map zCI).toArray).foldl (fun tmps (t,a)=>tmps.setIfInBounds t a) rc.tmps=(ps.toList.zip (x.map zCI)).foldl (fun t (p,v)=>t.setIfInBounds p v) aM.tmps:=by
    rw [uN,wS,← Array.foldl_toList]
    simp
   refine ⟨_,_,_,_,kT,roundIn_of_wpIn trivial ?_⟩
   rw [hfold]
   refine wpIn_mono (zHy (zS5 (l:=l) (tm:=aM.tmps) jH hnm) zFi m rc.assign (.inl gq) gm vZ rfl ⟨rfl,g2,fun t ht=>g3 t (fun h=>ht (gu t h))⟩ jZ) fun ex a1 w1 ⟨gO,_,hf1,ht1⟩=>?_
   subst gO
   obtain ⟨Φa,rva,Ea,La,Sa,hba⟩:=hf1
   have qF:w1.heap[l]? = some (.loop rc):=(Sa.conf.kept l hlw (fun ⟨s,hs⟩=>wT s hs)).trans hl
   have gw:∀ s,l∉La s:=fun s hs=>by rcases (Sa.conf.own s l hs).2.2 with ⟨t,ht⟩ | h2<;>first | exact wT t ht | omega
   have hlΦa:¬ Φa l:=fun h=>by rcases (Sa.conf.frz l h).2 with h2 | ⟨t,ht⟩ | h2<;>first | exact hlΦr h2 | exact wT t ht | omega
   refine ⟨_,run_beginRound qF jl,?_⟩
   obtain ⟨w2,vQ⟩:∃ w2,w1.putObj l (.loop {rc with state := .busy})=w2:=⟨_,rfl⟩
   rw [vQ]
   have hlw1:l<w1.heap.size:=(Array.getElem?_eq_some_iff.1 qF).1
   have qb:∀ b,b≠l→w2.heap[b]? = w1.heap[b]?:=fun b hb=>by rw [← vQ];exact World.putObj_heap_other hb
   have h2l:w2.heap[l]? = some (.loop {rc with state := .busy}):=by rw [← vQ];exact World.putObj_heap_same hlw1
   have h2s:w1.heap.size≤w2.heap.size:=by rw [← vQ];simp
   have wB:w2.os=w1.os∧w2.tape=w1.tape∧w2.output=w1.output:=by rw [← vQ];exact ⟨rfl,rfl,rfl⟩
   have C2:=Sa.conf.arrive h2s (fun s b hb=>qb b fun e=>gw s (e▸hb)) (fun b hb=>qb b fun e=>hlΦa (e▸hb))
   refine wpIn_mono (zHy (zS5 (l:=l) (tm:=aM.tmps) jH hnm) zFi m rc.body (.inl gr) gp gv rfl ⟨rfl,⟨_,_,_,_,Sa.with C2,hba⟩,ht1⟩ jY) fun ex a3 w3 ⟨gO,_,hf3,ht3⟩=>?_
   obtain ⟨Φ3,rv3,E3,L3,S3,wn⟩:=hf3
   have hlw2:l<w2.heap.size:=by omega
   have hl3:w3.heap[l]? = some (.loop {rc with state := .busy}):=(S3.conf.kept l hlw2 (fun ⟨s,hs⟩=>gw s hs)).trans h2l
   have hl3L:∀ s,l∉L3 s:=fun s hs=>by rcases (S3.conf.own s l hs).2.2 with ⟨t,ht⟩ | h2<;>first | exact gw t ht | omega
   have hl3Φ:¬ Φ3 l:=fun h=>by rcases (S3.conf.frz l h).2 with h2 | ⟨t,ht⟩ | h2<;>first | exact hlΦa h2 | exact gw t ht | omega
   have hlw3:l<w3.heap.size:=(Array.getElem?_eq_some_iff.1 hl3).1
   have hws:w.heap.size≤w1.heap.size:=Sa.conf.size
   have hws3:w2.heap.size≤w3.heap.size:=S3.conf.size
   have hLa:∀ s,∀ b∈La s,(∃ t,b∈L t)∨w.heap.size≤b:=fun s b hb=>(Sa.conf.own s b hb).2.2.imp (fun ⟨t,ht⟩=>⟨t,f4 t b ht⟩) id
   have hL3:∀ s,∀ b∈L3 s,(∃ t,b∈L t)∨w.heap.size≤b:=fun s b hb=>by
    rcases (S3.conf.own s b hb).2.2 with ⟨t,ht⟩ | h2
    ·exact hLa t b ht
    ·exact .inr (by omega)
   have hΦ3:∀ b,Φr b→Φ3 b:=fun b hb=>S3.conf.frz0 b (Sa.conf.frz0 b hb)
   have hΦb:∀ b,Φ3 b→Φ b∨(∃ s,b∈L s)∨w.heap.size≤b:=fun b hb=>by
    rcases (S3.conf.frz b hb).2 with h2 | ⟨t,ht⟩ | h2
    ·rcases (Sa.conf.frz b h2).2 with h4 | ⟨t,ht⟩ | h4
     ·rcases f2 b h4 with h5 | ⟨t,_,ht⟩
      ·exact .inl h5
      ·exact .inr (.inl ⟨t,ht⟩)
     ·exact .inr (.inl ⟨t,f4 t b ht⟩)
     ·exact .inr (.inr h4)
    ·exact .inr (hLa t b ht)
    ·exact .inr (.inr (by omega))
   have hkept:∀ b,b<w.heap.size→b≠l→(∀ s,b∉Lr s)→w3.heap[b]? = w.heap[b]?:=by
    intro b gI kG jO
    have e1:=Sa.conf.kept b gI (fun ⟨s,hs⟩=>jO s hs)
    have e3:=S3.conf.kept b (by omega) (fun ⟨s,hs⟩=>by
     rcases (Sa.conf.own s b hs).2.2 with ⟨t,ht⟩ | h2
     ·exact jO t ht
     ·omega)
    rw [e3,qb b kG,e1]
   have hRr:∀ t∈R,∀ b∈L t,∀ s,b∉Lr s:=fun t ht b kV s hs=>(Sr.conf.own s b hs).2.1 (f3 t ht b kV)
   have fin:∀ (w4:World),(∀ b,b≠l→w4.heap[b]? = w3.heap[b]?)→w4.heap.size=w3.heap.size→(w4.os=w3.os∧w4.tape=w3.tape∧w4.output=w3.output)→w4.heap[l]? = some (.loop {rc with state:=bif r.isNorm then .ready else .done,pending:=bif r.isNorm then none else some (zIu r)}) →
     w.heap.size≤w4.heap.size∧(w4.os=w.os∧w4.tape=w.tape∧w4.output=w.output) ∧
     w4.heap[l]? = some (.loop {rc with state:=bif r.isNorm then .ready else .done,pending:=bif r.isNorm then none else some (zIu r)})∧(∀ b,b<w.heap.size→b≠l→(∀ s,s∉R→b∉L s)→w4.heap[b]? = w.heap[b]?) ∧
     ∃ Φ4 E4 L4,St w0 U Φ0 nt hv aM w4 (after nt R ds e e3) Φ4 rv E4 L4∧zBw E4∧(∀ b,Φ b→Φ4 b)∧(∀ b,Φ4 b→Φ b∨(∃ s,b∈L s)∨w.heap.size≤b)∧(∀ r∈R,L4 r=L r)∧∀ s,∀ b∈L4 s,(∃ t,b∈L t)∨w.heap.size≤b:=by
    intro w4 qc h4s wC h4l
    have uB:w4.os=w.os∧w4.tape=w.tape∧w4.output=w.output:=⟨wC.1.trans (S3.conf.os.trans (wB.1.trans Sa.conf.os)),wC.2.1.trans (S3.conf.tape.trans (wB.2.1.trans Sa.conf.tape)),wC.2.2.trans (S3.conf.output.trans (wB.2.2.trans Sa.conf.output))⟩
    have C4:=S3.conf.arrive (w':=w4) (by omega) (fun s b hb=>qc b fun e=>hl3L s (e▸hb)) (fun b hb=>qc b fun e=>hl3Φ (e▸hb))
    have hk4:∀ b,b<w.heap.size→b≠l→(∀ s,b∉Lr s)→w4.heap[b]? = w.heap[b]?:=fun b h1 h2 h3=>(qc b h2).trans (hkept b h1 h2 h3)
    obtain ⟨E',L',q1,q2,q3,q4,q5,q6⟩:=S.conf.behind (nt:=nt) (R:=R) (ds:=ds) (e3:=e3) S.env hb C4 S3.env yP (fun s hs=>by
      rcases hs with ⟨h1,h2⟩ | ⟨h1,h2⟩
      ·rw [← S3.tmps s h1,ht3 s h2,S.tmps s h1]
      ·exact (S3.hid s h1 h2).trans (S.hid s h1 h2).symm) (by omega) (fun b gI hc=>hk4 b gI (fun e=>by
       subst e
       rcases hc with h1 | ⟨t,_,h1⟩ | ⟨h1,_⟩
       ·exact hlΦ h1
       ·exact hlL t h1
       ·omega) (fun s hs=>by
       rcases hc with h1 | ⟨t,ht,h1⟩ | ⟨h1,h2⟩
       ·exact (S.conf.own s b (f4 s b hs)).2.1 h1
       ·exact hRr t ht b h1 s hs
       ·rcases (S.conf.own s b (f4 s b hs)).2.2 with h3 | h3
        ·exact h2 h3
        ·omega)) (fun b hb=>hΦ3 b (f1 b hb)) hΦb (fun t ht b kV=>hΦ3 b (f3 t ht b kV)) hL3 uB
    refine ⟨by omega,uB,h4l,fun b h1 h2 h3=>hk4 b h1 h2 fun s hs=>?_,_,E',L',⟨q3,fun s hs=>by rw [q1 s hs,zPH],S.size,S.small,S.tmps,fun d ps i hd hp hi=>?_,S.hid,S.dfr⟩,q2,fun b hb=>⟨hΦ3 b (f1 b hb),fun t _ ht=>(S.conf.own t b ht).2.1 hb⟩,fun b hb=>hΦb b hb.1,q4,fun s b hb=>?_⟩
    ·by_cases jB:s∈R
     ·exact hRr s jB b (f4 s b hs) s hs
     ·exact h3 s jB (f4 s b hs)
    ·exact S.parts d ps i hd (q6 d ps (by omega) hp) hi
    ·rcases q5 s b hb with ⟨t,_,ht⟩ | ⟨t,ht⟩
     ·exact .inl ⟨t,ht⟩
     ·exact hL3 t b ht
   have put_o:∀ o:Obj,(∀ b,b≠l→(w3.putObj l o).heap[b]? = w3.heap[b]?)∧(w3.putObj l o).heap.size=w3.heap.size∧((w3.putObj l o).os=w3.os∧(w3.putObj l o).tape=w3.tape∧(w3.putObj l o).output=w3.output)∧(w3.putObj l o).heap[l]? = some o :=
    fun o=>⟨fun b hb=>World.putObj_heap_other hb,by simp,⟨rfl,rfl,rfl⟩,World.putObj_heap_same hlw3⟩
   subst gO
   cases r with
   | norm =>
    have he:(Instr.endRound l none).run P w3 = .ok (.bool true) (w3.putObj l (.loop {rc with state := .ready,pending:=none})):=by rw [run_endRound none hl3];rfl
    refine ⟨_,_,he,?_⟩
    obtain ⟨p1,p2,p3,p4⟩:=put_o (.loop {rc with state := .ready,pending:=none})
    exact ⟨rfl,fin _ p1 p2 p3 p4⟩
   | ret =>
    have he:(Instr.endRound l (some .ret)).run P w3 = .ok (.bool false) (w3.putObj l (.loop {rc with state := .done,pending:=some .ret})):=by rw [run_endRound (some .ret) hl3];rfl
    refine ⟨_,_,he,?_⟩
    obtain ⟨p1,p2,p3,p4⟩:=put_o (.loop {rc with state := .done,pending:=some .ret})
    exact ⟨rfl,fin _ p1 p2 p3 p4⟩
   | ex id =>
    have he:(Instr.endRound l (some (.exit id))).run P w3 = .ok (.bool false) (w3.putObj l (.loop {rc with state := .done,pending:=some (.exit id)})):=by rw [run_endRound (some (.exit id)) hl3];rfl
    refine ⟨_,_,he,?_⟩
    obtain ⟨p1,p2,p3,p4⟩:=put_o (.loop {rc with state := .done,pending:=some (.exit id)})
    exact ⟨rfl,fin _ p1 p2 p3 p4⟩
  ·cases yO
end
end Go.Eng
