/- The payments that are told clear balances; they are as many as there are people with a balance less the groups; without one of them the others do not clear (up to 7 balances of numbers; any payment). -/
import Derived.Test.YtpmbobnmpehobaaPb
import Derived.MapKept
import Derived.OrdersIn
import Derived.LoopNIn
import Derived.RangeFuncRecord
import Derived.RangeFuncLeaves
import Derived.RangeFuncSeq
set_option linter.unusedVariables false
set_option linter.unusedSimpArgs false
set_option linter.unusedSectionVars false
namespace Go.Eng
open Go
theorem zOn (off:Nat):∀ (vs:List Value) (k:Nat) (cells:Array Value),off+k+vs.length≤cells.size →
  ((vs.zipIdx k).foldl (fun cs x=>cs.setIfInBounds (off+x.2) x.1) cells).toList=cells.toList.take (off+k)++vs++cells.toList.drop (off+k+vs.length)
 | [],k,cells,h=>by simp
 | v :: vs,k,cells,h=>by
  simp only [List.length_cons] at h
  simp only [List.zipIdx_cons,List.foldl_cons]
  rw [zOn off vs (k+1) (cells.setIfInBounds (off+k) v) (by simp;omega)]
  apply List.ext_getElem?
  intro m
  rw [zCS (by simp;omega),zCS (by simp;omega)]
  simp only [Array.toList_setIfInBounds,List.getElem?_set,List.length_cons,Array.length_toList]
  by_cases h1:m<off+k
  ·have:¬ off+k=m:=by omega
   rw [if_pos (by omega),if_pos h1,if_neg this]
  ·by_cases h2:m=off+k
   ·subst h2
    have h5:off+k<off+(k+1):=by omega
    have h6:off+k<cells.size:=by omega
    have h7:off+k<off+k+(vs.length+1):=by omega
    simp [h5,h6,h7]
   ·have h3:¬ off+k=m:=by omega
    by_cases h4:m<off+k+(vs.length+1)
    ·rw [if_neg (by omega),if_pos (by omega),if_neg h1,if_pos h4]
     rw [show m-(off+k)=(m-(off+(k+1)))+1 by omega];simp
    ·rw [if_neg (by omega),if_neg (by omega),if_neg h1,if_neg h4,if_neg h3]
theorem zOe (off:Nat) (v:Value) (cells:Array Value) (h:off+v.cells.size≤cells.size):v.cells.zipIdx.foldl (fun cs (c,j)=>cs.setIfInBounds (off+j) c) cells=zBf cells off v.cells.toList:=by
 apply Array.ext'
 rw [← Array.foldl_toList,Array.toList_zipIdx]
 have:=zOn off v.cells.toList 0 cells (by simpa using h)
 simpa [zBf] using this
section
variable {P:Program} {w0 w:World} {U Φ0 Φ:Nat→Prop} {nt:Nat} {hv:Hid} {a:Act} {e e':Env} {rv:Nat→Value} {E:Nat→PV} {L:Nat→List Nat} {o:zAL} {A:Al}
theorem zN6:∀ (xs:List Operand) (i:Nat) {k:List PV→PM} {e:Env} {rv:Nat→Value} {E:Nat→PV} {L:Nat→List Nat},St w0 U Φ0 nt hv a w e Φ rv E L→(∀ x∈xs,zAW nt x=true)→(zSo xs k).run o e=some e' →
  ∃ e1 rv1 E1 L1 ps,(k ps).run o e1=some e'∧St w0 U Φ0 nt hv a w e1 Φ rv1 E1 L1∧ps.length=xs.length∧(∀ (j:Nat) (p:PV) (x:Operand),ps[j]? = some p→xs[j]? = some x→E1 (zAd+i+j)=p∧rv1 (zAd+i+j)=a.eval x) ∧
   ∀ s,zAd≤s→(s<zAd+i∨zAd+i+xs.length≤s)→E1 s=E s∧rv1 s=rv s
 | [],i,k,e,rv,E,L,S,hx,h=>⟨e,rv,E,L,[],h,S,rfl,by simp,fun _ _ _=>⟨rfl,rfl⟩⟩
 | x :: xs,i,k,e,rv,E,L,S,hx,h=>by
  simp only [zSo] at h
  obtain ⟨e1,rv1,E1,L1,h1,S1,h2,h3⟩:=zHB S (hx x (by simp)) (g:=zAd+i) (by omega) h
  obtain ⟨e2,rv2,E2,L2,ps,h4,S2,h5,h6,h7⟩:=zN6 xs (i+1) S1 (fun y hy=>hx y (by simp [hy])) h1
  refine ⟨e2,rv2,E2,L2,E1 (zAd+i)::ps,h4,S2,by simp [h5],fun j p y hp hy=>?_,fun s hs jj=>?_⟩
  ·cases j with
   | zero =>
    simp at hp hy;subst hp;subst hy
    obtain ⟨k1,k2⟩:=h7 (zAd+i) (by omega) (.inl (by omega))
    simp only [Nat.add_zero]
    rw [k1,k2];exact ⟨rfl,h2⟩
   | succ j =>
    have:=h6 j p y (by simpa using hp) (by simpa using hy)
    rwa [show zAd+i+(j+1)=zAd+(i+1)+j by omega]
  ·obtain ⟨k1,k2⟩:=h7 s hs (by simp at jj;omega)
   obtain ⟨k3,k4,_⟩:=h3 s hs (by simp at jj;omega)
   exact ⟨k1.trans k3,k2.trans k4⟩
theorem zTH (S:St w0 U Φ0 nt hv a w e Φ rv E L) {nz:Option Nat} {x:Operand} (hx:zAW nt x=true) {g:Nat} (hg:zAd≤g) {k:PV→PM} (h:(zUY nz x k).run o e=some e') :
  ∃ e1 rv1 E1 L1,(k (E1 g)).run o e1=some e'∧St w0 U Φ0 nt hv a w e1 Φ rv1 E1 L1∧rv1 g=a.eval x∧zUh g rv rv1 E E1 L L1:=by
 unfold zUY at h
 split at h
 ·rename_i s
  have hr:Rep w Φ (zA6 w rv E) (.own s []) (a.eval (.const (.slice none 0 0))) [] := .inl ⟨rfl,rfl,rfl⟩
  refine ⟨e,_,_,_,?_,S.hold hg hr,zAh,fun s _ hI=>⟨zAf hI,zAf hI,zAf hI⟩⟩
  rw [zAh];exact h
 ·exact zHB S hx hg h
theorem zOi {nz:Option Nat}:∀ (xs:List Operand) (i:Nat) {k:List PV→PM} {e:Env} {rv:Nat→Value} {E:Nat→PV} {L:Nat→List Nat},St w0 U Φ0 nt hv a w e Φ rv E L→(∀ x∈xs,zAW nt x=true)→(zOw nz xs k).run o e=some e' →
  ∃ e1 rv1 E1 L1 ps,(k ps).run o e1=some e'∧St w0 U Φ0 nt hv a w e1 Φ rv1 E1 L1∧ps.length=xs.length∧(∀ (j:Nat) (p:PV) (x:Operand),ps[j]? = some p→xs[j]? = some x→E1 (zAd+i+j)=p∧rv1 (zAd+i+j)=a.eval x) ∧
   ∀ s,zAd≤s→(s<zAd+i∨zAd+i+xs.length≤s)→E1 s=E s∧rv1 s=rv s
 | [],i,k,e,rv,E,L,S,hx,h=>⟨e,rv,E,L,[],h,S,rfl,by simp,fun _ _ _=>⟨rfl,rfl⟩⟩
 | x :: xs,i,k,e,rv,E,L,S,hx,h=>by
  simp only [zOw] at h
  obtain ⟨e1,rv1,E1,L1,h1,S1,h2,h3⟩:=zTH S (hx x (by simp)) (g:=zAd+i) (by omega) h
  obtain ⟨e2,rv2,E2,L2,ps,h4,S2,h5,h6,h7⟩:=zOi xs (i+1) S1 (fun y hy=>hx y (by simp [hy])) h1
  refine ⟨e2,rv2,E2,L2,E1 (zAd+i)::ps,h4,S2,by simp [h5],fun j p y hp hy=>?_,fun s hs jj=>?_⟩
  ·cases j with
   | zero =>
    simp at hp hy;subst hp;subst hy
    obtain ⟨k1,k2⟩:=h7 (zAd+i) (by omega) (.inl (by omega))
    simp only [Nat.add_zero]
    rw [k1,k2];exact ⟨rfl,h2⟩
   | succ j =>
    have:=h6 j p y (by simpa using hp) (by simpa using hy)
    rwa [show zAd+i+(j+1)=zAd+(i+1)+j by omega]
  ·obtain ⟨k1,k2⟩:=h7 s hs (by simp at jj;omega)
   obtain ⟨k3,k4,_⟩:=h3 s hs (by simp at jj;omega)
   exact ⟨k1.trans k3,k2.trans k4⟩
theorem zI4 (hA:∀ a v,a.isWay=true→A a v→v.oneCell'=true) {p:PV} {v:Value} {M:List Nat} (h:Rep w Φ A p v M) (hw:p.whole=true):zCh v=p.isAgg∧v.cells.size=p.cells.length:=by
 simp only [PV.whole,Bool.or_eq_true] at hw
 have ha:zCh v=p.isAgg:=by
  rcases hw with hw | hw
  ·cases p<;>simp [PV.isAgg] at hw
   obtain ⟨vs,rfl,_⟩:=h;rfl
  ·rw [(zBH (zB7 hA h hw)).2,(zBl hw).2]
 have:=(h.cellsAll ha).length
 exact ⟨ha,by simpa using this⟩
theorem zPi (C:Conf w0 U Φ0 w Φ rv E L) {place place':Nat→Option (Nat×Nat)} (ue:∀ i x,place i=some x→place' i=some x):∀ (ps:List (Nat×PV)) (vs:List (Nat×Value)) (k:Nat) (z cs:List PV) (zc:Array Value) (Lz:List Nat),
  zFp place z ps=some cs→vs.length=ps.length→(∀ (j:Nat) (x:Nat×PV) (y:Nat×Value),ps[j]? = some x→vs[j]? = some y→x.1=y.1∧E (zAd+k+j)=x.2∧rv (zAd+k+j)=y.2) →
  zA1 w Φ (zA6 w rv E) z zc.toList Lz→Lz.Nodup→(∀ b∈Lz,∃ t,zAd≤t∧t<zAd+k∧b∈L t) →
  ∃ cells Lc,Instr.fill place' zc vs=some cells∧zA1 w Φ (zA6 w rv E) cs cells.toList Lc∧Lc.Nodup∧∀ b∈Lc,∃ t,zAd≤t∧t<zAd+k+ps.length∧b∈L t
 | [],vs,k,z,cs,zc,Lz,h,hl,_,hr,hn,hm=>by
  have:vs=[]:=List.eq_nil_of_length_eq_zero (by simpa using hl)
  subst this
  simp only [zFp,Option.some.injEq] at h;subst h
  exact ⟨zc,Lz,rfl,hr,hn,by simpa using hm⟩
 | (i, p) :: ps,vs,k,z,cs,zc,Lz,h,hl,hj,hr,hn,hm=>by
  match vs,hl,hj with
  | (i', v) :: vs,hl,hj =>
   obtain ⟨h1,h2,h3⟩:=hj 0 (i,p) (i',v) rfl rfl
   simp only [Nat.add_zero] at h1 h2 h3
   subst h1
   simp only [zFp] at h
   cases hp:place i with
   | none=>rw [hp] at h;cases h
   | some x =>
    obtain ⟨off,n⟩:=x
    rw [hp] at h;simp only at h
    split at h
    ·rename_i hc
     obtain ⟨c1,c2,c3⟩:=hc
     have hH:=C.rep (zAd+k)
     rw [h2,h3] at hH
     obtain ⟨q1,q2⟩:=zI4 (fun a v hw h=>zCW hw h) hH c3
     have kb:zc.size=z.length:=by have:=hr.length;simpa using this
     obtain ⟨L1,L2,L3,hL,hk⟩:=hr.replace off n
     subst hL
     have jZ:=hk (w':=w) (Φ':=Φ) (A':=zA6 w rv E) (fun _ _ _ h=>h) zDf.refl (fun _ _=>rfl) (hH.cellsAll q1)
     have uw:v.cells.toList.length=n:=by simp;omega
     have yY:(zBf zc off v.cells.toList).toList=zc.toList.take off++v.cells.toList++zc.toList.drop (off+n):=by
      simp only [zBf];rw [uw]
     simp only [List.nodup_append] at hn
     have kh:∀ b∈L (zAd+k),b∉L1++L2++L3:=by
      intro b hb jN
      obtain ⟨t,k1,k2,k3⟩:=hm b jN
      exact C.disj t (zAd+k) (by omega) b k3 hb
     obtain ⟨cells,Lc,g1,g2,g3,g4⟩:=zPi C ue ps vs (k+1) _ cs (zBf zc off v.cells.toList) (L1++L (zAd+k)++L3) h (by simpa using hl) (fun j x y hx hy=>by
      rw [show zAd+(k+1)+j=zAd+k+(j+1) by omega];exact hj (j+1) x y (by simpa using hx) (by simpa using hy)) (by rw [yY];exact jZ)
      (by
       simp only [List.nodup_append]
       refine ⟨⟨hn.1.1,C.nodup _,fun x hx y hy e=>kh y hy (by rw [← e];simp [hx])⟩,hn.2.1,fun x hx y hy e=>?_⟩
       rcases List.mem_append.1 hx with hx | hx
       ·exact hn.2.2 x (by simp [hx]) y hy e
       ·exact kh x hx (by rw [e];simp [hy]))
      (fun b hb=>by
       simp only [List.mem_append] at hb
       rcases hb with (hb | hb) | hb
       ·obtain ⟨t,k1,k2,k3⟩:=hm b (by simp [hb]);exact ⟨t,k1,by omega,k3⟩
       ·exact ⟨zAd+k,by omega,by omega,hb⟩
       ·obtain ⟨t,k1,k2,k3⟩:=hm b (by simp [hb]);exact ⟨t,k1,by omega,k3⟩)
     refine ⟨cells,Lc,?_,g2,g3,fun b hb=>?_⟩
     ·simp only [Instr.fill,ue i _ hp]
      rw [if_neg (by simp;omega),zOe off v zc (by omega)]
      exact g1
     ·obtain ⟨t,k1,k2,k3⟩:=g4 b hb
      exact ⟨t,k1,by simp;omega,k3⟩
    ·cases h
theorem St.madeN (S:St w0 U Φ0 nt hv a w e Φ rv E L) (N:Nat) (hb:∀ s,zAd+N≤s→E s = .bad) {d:Option Nat} (hd:∀ x,d=some x→x<nt) {w':World} {p:PV} {v:Value} {Lp:List Nat} (hr:∀ A:Al,(∀ a u,a.isWay=true→zA6 w rv E a u→A a u)→Rep w' Φ A p v Lp) (uu:Lp.Nodup)
  (ho:∀ b∈Lp,(∃ t,zAd≤t∧t<zAd+N∧b∈L t)∨(w.heap.size≤b∧b<w'.heap.size)) (hw:w.heap.size≤w'.heap.size)
  (hk:∀ b,b<w.heap.size→(∀ t,zAd≤t→t<zAd+N→b∉L t)→w'.heap[b]? = w.heap[b]?) (kn:w'.os=w.os∧w'.tape=w.tape∧w'.output=w.output) (h:(put d p).run o e=some e') :
  Fr w0 U Φ0 nt hv (a.put d v) w' e':=by
 have hG:∀ s,decide (zAd≤s∧s<zAd+N)=true↔zAd≤s∧s<zAd+N:=fun s=>decide_eq_true_iff
 have hc:=S.conf.make (w':=w') (fun s=>decide (zAd≤s∧s<zAd+N)) (fun s hs=>((hG s).1 hs).1) (g:=zAd+N) (by omega) (fun A hA=>hr A hA) uu
  (fun b hb=>(ho b hb).imp (fun ⟨t,h1,h2,h3⟩=>⟨t,h3,(hG t).2 ⟨h1,h2⟩⟩) id) hw
  (fun b hb hn=>hk b hb fun t h1 h2 h3=>by have:=hn t h3;rw [(hG t).2 ⟨h1,h2⟩] at this;cases this) kn
 have S1:=S.turn (e':=e) hc (fun s hs=>by
  rw [zAf (by omega)]
  have:decide (zAd≤s∧s<zAd+N)=false:=decide_eq_false (by omega)
  simp only [this,Bool.false_eq_true,if_false];exact S.env s hs) (fun s hs=>zAf (by omega)) (fun d ps hd hp=>by
  rw [zAf (by simp only [zAd];omega)] at hp
  have:decide (zAd≤d∧d<zAd+N)=false:=decide_eq_false (by simp only [zAd];omega)
  simp only [this,Bool.false_eq_true,if_false] at hp;exact ⟨ps,hp,rfl⟩)
 have:=zFJ S1 hd (g:=zAd+N) (by omega) (by rw [zAh];exact h) (fun s hs hI=>by
  rw [zAf hI]
  by_cases h3:s<zAd+N
  ·have:decide (zAd≤s∧s<zAd+N)=true:=(hG s).2 ⟨hs,h3⟩
   simp [this]
  ·have:decide (zAd≤s∧s<zAd+N)=false:=decide_eq_false (by omega)
   simp only [this,Bool.false_eq_true,if_false];exact hb s (by omega))
 rwa [zAh] at this
theorem zNM (S:St w0 U Φ0 nt hv a w e Φ rv E L) (hb:zBy E) {d:Option Nat} (hd:∀ x,d=some x→x<nt) {place place':Nat→Option (Nat×Nat)} (ue:∀ i x,place i=some x→place' i=some x) {t:TypeId} {z:PV} (hz:zDd P t=some z) {ps:List (Nat×Operand)} (y6:∀ x∈ps,zAW nt x.2=true)
  (h:(zOc place z.cells ps fun cs=>put d (.agg cs)).run o e=some e'):∃ v cells,(∀ w:World,(zeroValue t).run P w = .ok v w)∧Instr.fill place' v.cells (ps.map fun x=>(x.1,a.eval x.2))=some cells∧Fr w0 U Φ0 nt hv (a.put d (.agg cells)) w e':=by
 obtain ⟨i,zv,hi,hzv,hX,kW⟩:=zD0 hz
 simp only [zOc] at h
 obtain ⟨e1,rv1,E1,L1,vs,h1,S1,h2,h3,h4⟩:=zN6 (ps.map (·.2)) 0 S (fun x hx=>by
  obtain ⟨y,hy,rfl⟩:=List.mem_map.1 hx;exact y6 y hy) h
 simp only [List.length_map] at h2 h4
 split at h1
 ·rename_i cs hf
  obtain ⟨hr,uv,kR,_⟩:=zCt (w:=w) (Φ:=Φ) (A:=zA6 w rv1 E1) kW
  obtain ⟨cells,Lc,g1,g2,g3,g4⟩:=zPi S1.conf ue ((ps.map (·.1)).zip vs) (ps.map fun x=>(x.1,a.eval x.2)) 0 z.cells cs zv.cells [] hf (by simp [h2]) (fun j x y hx hy=>by
   obtain ⟨jV,jG⟩:=List.getElem?_zip_eq_some.1 hx
   rw [List.getElem?_map] at jV hy
   cases vD:ps[j]? with
   | none=>rw [vD] at hy;cases hy
   | some q =>
    rw [vD] at jV hy
    simp only [Option.map_some,Option.some.injEq] at jV hy
    obtain ⟨k1,k2⟩:=h3 j x.2 q.2 jG (by rw [List.getElem?_map,vD];rfl)
    exact ⟨by rw [← jV,← hy],k1,by rw [k2,← hy]⟩) (hr.cellsAll kR) List.nodup_nil (by simp)
  refine ⟨zv,cells,hX,g1,S1.madeN ps.length (fun s hs=>?_) hd (p := .agg cs) (v := .agg cells) (w':=w) (Lp:=Lc) (fun A hA=>⟨cells,rfl,g2.mono zDf.refl hA (fun _ _=>rfl)⟩) g3 (fun b hb => .inl ?_) (Nat.le_refl _) (fun _ _ _=>rfl) ⟨rfl,rfl,rfl⟩ h1⟩
  ·rw [(h4 s (by omega) (.inr (by omega))).1];exact hb s (by omega)
  ·obtain ⟨t,k1,k2,k3⟩:=g4 b hb
   have hl:((ps.map (·.1)).zip vs).length=ps.length:=by simp [h2]
   exact ⟨t,k1,by omega,k3⟩
 ·cases h1
theorem zPX {α β:Type} {f:α→Sem β} {g:α→β} (l:List α) (h:∀ x∈l,∀ w:World,(f x).run P w = .ok (g x) w) (w:World):(l.mapM f).run P w = .ok (l.map g) w:=by
 induction l with
 | nil=>rfl
 | cons x l ih=>simp only [List.mapM_cons,Sem.run_bind,h x (by simp),Result.andThen_ok,ih (fun y hy=>h y (by simp [hy])),Sem.run_pure,List.map_cons]
theorem zSF (S:St w0 U Φ0 nt hv a w e Φ rv E L) (hb:zBy E) {d:Option Nat} (hd:∀ x,d=some x→x<nt) {t:TypeId} {ps:Array (Nat×Operand)} (y6:∀ x∈ps.toList,zAW nt x.2=true) (h:(zNo P d t ps.toList).run o e=some e') :
  ∃ v,(Instr.build t (ps.map fun x=>(x.1,a.eval x.2))).run P w = .ok v w∧Fr w0 U Φ0 nt hv (a.put d v) w e':=by
 have uJ:(ps.map fun x=>(x.1,a.eval x.2)).toList=ps.toList.map fun x=>(x.1,a.eval x.2):=by simp
 simp only [zNo] at h
 split at h
 ·rename_i fs z ht hz
  obtain ⟨wQ,h1⟩:=zAU h
  simp only [Option.map_eq_some_iff] at hz
  obtain ⟨zp,hz,rfl⟩:=hz
  let sz:Field→Nat:=fun f=>(szT P f.type).getD 0
  have v8:∀ f∈fs.toList,∀ w:World,(sizeOf f.type).run P w = .ok (sz f) w:=by
   intro f hf w
   rw [← Array.all_toList] at wQ
   have:=List.all_eq_true.1 wQ f hf
   obtain ⟨n,hn⟩:=Option.isSome_iff_exists.1 this
   obtain ⟨i,hi,qK⟩:=zCf hn
   simp only [sz,hn,Option.getD_some]
   rw [zAX hi,qK]
  obtain ⟨zv,cells,k1,k2,k3⟩:=zNM (P:=P) S hb hd (place':=fun i=>(fs.map fun f=>(f.offset,sz f))[i]?) (fun i x hx=>by
   cases hfi:fs[i]? with
   | none=>rw [hfi] at hx;cases hx
   | some f =>
    rw [hfi] at hx;simp only [Option.bind_some] at hx
    cases hs:szT P f.type with
    | none=>rw [hs] at hx;cases hx
    | some n =>
     rw [hs] at hx;simp only [Option.map_some,Option.some.injEq] at hx
     subst hx
     simp [hfi,sz,hs]) hz y6 h1
  refine ⟨.agg cells,?_,k3⟩
  have hm:∀ w:World,(fs.mapM fun f=>(do pure (f.offset,← sizeOf f.type):Sem (Nat×Nat))).run P w = .ok (fs.map fun f=>(f.offset,sz f)) w:=by
   intro w
   have:=zPX (P:=P) (f:=fun f=>(do pure (f.offset,← sizeOf f.type):Sem (Nat×Nat))) (g:=fun f=>(f.offset,sz f)) fs.toList (fun f hf w=>by
    simp only [Sem.run_bind,v8 f hf w,Result.andThen_ok,Sem.run_pure]) w
   rw [Array.mapM_eq_mapM_toList]
   simp only [Sem.run_map,this,Result.andThen_ok]
   rw [← Array.toList_map,Array.toArray_toList]
  simp only [Instr.build,Sem.run_bind,k1,Result.andThen_ok,run_underlying ht,hm]
  rw [uJ,k2]
  rfl
 ·rename_i len el z ht hz
  obtain ⟨n,hn,h1⟩:=zBI h
  simp only [Option.map_eq_some_iff] at hz
  obtain ⟨zp,hz,rfl⟩:=hz
  obtain ⟨i,hi,qK⟩:=zCf hn
  obtain ⟨zv,cells,k1,k2,k3⟩:=zNM (P:=P) S hb hd (place':=fun i=>some (i*n,n)) (fun i x hx=>hx) hz y6 h1
  refine ⟨.agg cells,?_,k3⟩
  simp only [Instr.build,Sem.run_bind,k1,Result.andThen_ok,run_underlying ht,zAX hi,qK]
  rw [uJ,k2]
  rfl
 ·cases h
theorem zKg {tk:Bool}:∀ (ps:List PV) (i:Nat) {k:List PV→PM} {e:Env} {Φ:Nat→Prop} {rv:Nat→Value} {E:Nat→PV} {L:Nat→List Nat},St w0 U Φ0 nt hv a w e Φ rv E L→(∀ (j:Nat) (p:PV),ps[j]? = some p→E (zAd+i+j)=p)→(zFO tk ps k).run o e=some e' →
  ∃ e1 Φ1 rv1 E1 L1 qs,(k qs).run o e1=some e'∧St w0 U Φ0 nt hv a w e1 Φ1 rv1 E1 L1∧qs.length=ps.length∧(∀ (j:Nat) (q:PV),qs[j]? = some q→E1 (zAd+i+j)=q∧rv1 (zAd+i+j)=rv (zAd+i+j)) ∧
   ∀ s,zAd≤s→(s<zAd+i∨zAd+i+ps.length≤s)→E1 s=E s∧rv1 s=rv s
 | [],i,k,e,Φ,rv,E,L,S,hp,h=>⟨e,Φ,rv,E,L,[],h,S,rfl,by simp,fun _ _ _=>⟨rfl,rfl⟩⟩
 | p :: ps,i,k,e,Φ,rv,E,L,S,hp,h=>by
  simp only [zFO] at h
  have hE:=hp 0 p rfl
  simp only [Nat.add_zero] at hE
  rw [← hE] at h
  obtain ⟨e1,rv1,E1,h1,W⟩:=zMz S (g:=zAd+i) (by omega) h
  obtain ⟨Φ1,L1,S1⟩:=W.st
  obtain ⟨e2,Φ2,rv2,E2,L2,qs,h2,S2,h3,h4,h5⟩:=zKg ps (i+1) S1 (fun j q hq=>by
   rw [(W.rest _ (by omega) (by omega)).1,show zAd+(i+1)+j=zAd+i+(j+1) by omega];exact hp (j+1) q (by simpa using hq)) h1
  refine ⟨e2,Φ2,rv2,E2,L2,E1 (zAd+i)::qs,h2,S2,by simp [h3],fun j q hq=>?_,fun s hs jj=>?_⟩
  ·cases j with
   | zero =>
    simp at hq;subst hq
    obtain ⟨k1,k2⟩:=h5 (zAd+i) (by omega) (.inl (by omega))
    simp only [Nat.add_zero]
    exact ⟨k1,k2.trans W.val⟩
   | succ j =>
    obtain ⟨k1,k2⟩:=h4 j q (by simpa using hq)
    rw [show zAd+(i+1)+j=zAd+i+(j+1) by omega] at k1 k2
    exact ⟨k1,k2.trans (W.rest _ (by omega) (by omega)).2⟩
  ·obtain ⟨k1,k2⟩:=h5 s hs (by simp at jj;omega)
   obtain ⟨k3,k4⟩:=W.rest s hs (by simp at jj;omega)
   exact ⟨k1.trans k3,k2.trans k4⟩
theorem zOk (C:Conf w0 U Φ0 w Φ rv E L) {s n:Nat}:∀ (ps:List (Nat×PV)) (vs:List (Nat×Value)) (k:Nat) (xs:List PV) (us:List Value) (cells:Array Value) (Lx:List Nat),vs.length=ps.length →
  (∀ (j:Nat) (x:Nat×PV) (y:Nat×Value),ps[j]? = some x→vs[j]? = some y→x.1=y.1∧x.1<n∧E (zAd+k+j)=x.2∧rv (zAd+k+j)=y.2∧x.2.ways=[]∧x.2.whole=true∧x.2.cells.length=s) →
  xs.length=n→us.length=n→cells.toList=flat us→(∀ x∈xs,x.cells.length=s)→(∀ u∈us,u.cells.size=s)→us.map zCh=xs.map PV.isAgg→zA1 w Φ zCj xs us Lx→Lx.Nodup→(∀ b∈Lx,∃ t,zAd≤t∧t<zAd+k∧b∈L t) →
  ∃ cells' us' Lc,Instr.fill (fun i=>some (i*s,s)) cells vs=some cells'∧cells'.toList=flat us'∧us'.length=n∧(∀ u∈us',u.cells.size=s)∧(∀ x∈ps.foldl (fun xs (i,v)=>xs.set i v) xs,x.cells.length=s)∧us'.map zCh=(ps.foldl (fun xs (i,v)=>xs.set i v) xs).map PV.isAgg ∧
   zA1 w Φ zCj (ps.foldl (fun xs (i,v)=>xs.set i v) xs) us' Lc∧Lc.Nodup∧∀ b∈Lc,∃ t,zAd≤t∧t<zAd+k+ps.length∧b∈L t
 | [],vs,k,xs,us,cells,Lx,hl,_,h1,h2,h3,h4,h5,h6,h7,h8,h9=>by
  have:vs=[]:=List.eq_nil_of_length_eq_zero (by simpa using hl)
  subst this
  exact ⟨cells,us,Lx,rfl,h3,h2,h5,h4,h6,h7,h8,by simpa using h9⟩
 | (i, p)::ps,vs,k,xs,us,cells,Lx,hl,hj,h1,h2,h3,h4,h5,h6,h7,h8,h9=>by
  match vs,hl,hj with
  | (i',v)::vs,hl,hj =>
   obtain ⟨q1,q2,q3,q4,q5,q6,q7⟩:=hj 0 (i,p) (i',v) rfl rfl
   simp only [Nat.add_zero] at q1 q2 q3 q4 q5 q6 q7
   subst q1
   have hH:=C.rep (zAd+k)
   rw [q3,q4] at hH
   obtain ⟨w1,w2⟩:=zI4 (fun a v hw h=>zCW hw h) hH q6
   have yg:v.cells.size=s:=by omega
   have hrep0:Rep w Φ zCj p v (L (zAd+k)):=zSU q5 (fun a v hw h=>zIs hw h) hH
   obtain ⟨L1,L2,L3,hL,hk⟩:=h7.replace i 1
   subst hL
   have jZ:=hk (w':=w) (Φ':=Φ) (A':=zCj) (fun _ _ _ h=>h) zDf.refl (fun _ _=>rfl) (show zA1 w Φ zCj [p] [v] (L (zAd+k)) from ⟨v,[],_,[],rfl,by simp,hrep0,rfl,rfl⟩)
   rw [← zEt (by omega),← zEt (by omega)] at jZ
   have hci:cells.size=n*s:=by
    have:=congrArg List.length h3
    rw [zBn h5,h2] at this;simpa using this
   have wT:i*s+s≤n*s:=by rw [← Nat.succ_mul];exact Nat.mul_le_mul_right _ q2
   have ji:(zBf cells (i*s) v.cells.toList).toList=flat (us.set i v):=by
    simp only [zBf]
    rw [h3,zEt (by omega:i<us.length),zCO,zCO,show (v.cells.toList).length=s by simpa using yg,zIB h5]
    have:i*s+s=(i+1)*s:=by rw [Nat.succ_mul]
    rw [this,zJo h5]
    simp [flat]
   simp only [List.nodup_append] at h8
   have kh:∀ b∈L (zAd+k),b∉L1++L2++L3:=by
    intro b hb jN
    obtain ⟨t,k1,k2,k3⟩:=h9 b jN
    exact C.disj t (zAd+k) (by omega) b k3 hb
   have yj:(us.set i v).map zCh=(xs.set i p).map PV.isAgg:=by
    apply List.ext_getElem?
    intro m
    have hm:=congrArg (·[m]?) h6
    simp only [List.getElem?_map,List.getElem?_set] at hm ⊢
    by_cases hmi:i=m
    ·subst hmi
     have e1:i<us.length:=by omega
     have e2:i<xs.length:=by omega
     simp [e1,e2,w1]
    ·simp only [hmi,if_false];exact hm
   obtain ⟨cells',us',Lc,g1,g2,g3,g4,g5,g6,g7,g8,g9⟩:=zOk C ps vs (k+1) (xs.set i p) (us.set i v) (zBf cells (i*s) v.cells.toList) (L1++L (zAd+k)++L3) (by simpa using hl) (fun j x y hx hy=>by
    rw [show zAd+(k+1)+j=zAd+k+(j+1) by omega];exact hj (j+1) x y (by simpa using hx) (by simpa using hy)) (by simpa using h1) (by simpa using h2) ji
    (fun x hx=>(List.mem_or_eq_of_mem_set hx).elim (h4 x) (fun h=>h▸q7)) (fun u hu=>(List.mem_or_eq_of_mem_set hu).elim (h5 u) (fun h=>h▸yg)) yj jZ
    (by
     simp only [List.nodup_append]
     refine ⟨⟨h8.1.1,C.nodup _,fun x hx y hy e=>kh y hy (by rw [← e];simp [hx])⟩,h8.2.1,fun x hx y hy e=>?_⟩
     rcases List.mem_append.1 hx with hx | hx
     ·exact h8.2.2 x (by simp [hx]) y hy e
     ·exact kh x hx (by rw [e];simp [hy]))
    (fun b hb=>by
     simp only [List.mem_append] at hb
     rcases hb with (hb | hb) | hb
     ·obtain ⟨t,k1,k2,k3⟩:=h9 b (by simp [hb]);exact ⟨t,k1,by omega,k3⟩
     ·exact ⟨zAd+k,by omega,by omega,hb⟩
     ·obtain ⟨t,k1,k2,k3⟩:=h9 b (by simp [hb]);exact ⟨t,k1,by omega,k3⟩)
   refine ⟨cells',us',Lc,?_,g2,g3,g4,g5,g6,g7,g8,fun b hb=>?_⟩
   ·simp only [Instr.fill]
    rw [if_neg (by simp;omega),zOe (i*s) v cells (by omega)]
    exact g1
   ·obtain ⟨t,k1,k2,k3⟩:=g9 b hb
    exact ⟨t,k1,by simp;omega,k3⟩
theorem zMx:∀ {ps:List PV},zBB ps=[]→∀ p∈ps,p.ways=[]
 | [],_,_,h=>by cases h
 | q::qs,h,p,hp=>by
  simp only [zBB,List.append_eq_nil_iff] at h
  rcases List.mem_cons.1 hp with rfl | hp
  ·exact h.1
  ·exact zMx h.2 p hp
theorem zKx (S:St w0 U Φ0 nt hv a w e Φ rv E L) (hb:zBy E) {d:Option Nat} (hd:∀ x,d=some x→x<nt) {tk:Bool} {t:TypeId} {n:Nat} {ps:Array (Nat×Operand)} (y6:∀ x∈ps.toList,zAW nt x.2=true) (h:(zDv P tk d t n ps.toList).run o e=some e') :
  ∃ v w',(Instr.buildSlice t n (ps.map fun x=>(x.1,a.eval x.2))).run P w = .ok v w'∧Fr w0 U Φ0 nt hv (a.put d v) w' e':=by
 have uJ:(ps.map fun x=>(x.1,a.eval x.2)).toList=ps.toList.map fun x=>(x.1,a.eval x.2):=by simp
 simp only [zDv] at h
 split at h
 ·rename_i el yc
  split at h
  ·rename_i s z hs hz
   obtain ⟨hc,h1⟩:=zC5 h
   simp only [Bool.and_eq_true,decide_eq_true_eq,List.all_eq_true] at hc
   obtain ⟨⟨hns,kb⟩,hpn⟩:=hc
   have kb:=Nat.eq_of_beq_eq_true kb
   obtain ⟨i,zv,hi,hzv,hX,kW⟩:=zD0 hz
   obtain ⟨i2,vL,qK⟩:=zCf hs
   rw [hi] at vL;cases vL
   have ht:=zCw yc
   obtain ⟨e1,rv1,E1,L1,vs,h2,S1,h3,h4,h5⟩:=zOi (ps.toList.map (·.2)) 0 S (fun x hx=>by
    obtain ⟨y,hy,rfl⟩:=List.mem_map.1 hx;exact y6 y hy) h1
   obtain ⟨e2,Φ2,rv2,E2,L2,qs,h6,S2,h7,h8,h9⟩:=zKg vs 0 S1 (fun j p hp=>by
    have hj:j<(ps.toList.map (·.2)).length:=by
     have:=(List.getElem?_eq_some_iff.1 hp).1;omega
    exact (h4 j p _ hp (List.getElem?_eq_getElem hj)).1) h2
   obtain ⟨hq,h10⟩:=zC5 h6
   simp only [Bool.and_eq_true,List.all_eq_true,List.isEmpty_iff,decide_eq_true_eq] at hq
   obtain ⟨hw,hq⟩:=hq
   simp only [List.length_map] at h3 h5
   have hO:((ps.toList.map (·.1)).zip qs).length=ps.toList.length:=by simp;simp at h3;omega
   obtain ⟨vN,uv,kR,_⟩:=zCt (w:=w) (Φ:=Φ2) (A:=zCj) kW
   have ug:zv.cells.size=s:=by rw [uv,kb]
   have hzz:zA1 w Φ2 zCj (List.replicate n z) (List.replicate n zv) []:=by
    clear h10 hO hq h6 h2 hns hpn h1 h kb
    induction n with
    | zero=>exact ⟨rfl,rfl⟩
    | succ n ih=>exact ⟨zv,_,[],[],rfl,rfl,(zCt kW).1,ih⟩
   have hmade:(madeCells zv.cells (n*s)).toList=flat (List.replicate n zv):=by
    have hl:(flat (List.replicate n zv)).length=n*s:=by
     rw [zBn (sz:=s) (fun u hu=>by rw [List.eq_of_mem_replicate hu];exact ug)];simp
    apply List.ext_getElem?
    intro m
    by_cases hm:m<n*s
    ·have:=zGc ug (l:=n) (k:=m) (List.getElem?_eq_getElem (by omega))
     rw [Array.getElem?_toList,zNI (m:=m+1) hm (by omega),this,List.getElem?_eq_getElem (by omega)]
    ·rw [List.getElem?_eq_none (by simp [size_madeCells];omega),List.getElem?_eq_none (by omega)]
   obtain ⟨cells',us',Lc,g1,g2,g3,g4,g5,g6,g7,g8,g9⟩:=zOk S2.conf (s:=s) (n:=n) ((ps.toList.map (·.1)).zip qs) (ps.toList.map fun x=>(x.1,a.eval x.2)) 0 (List.replicate n z) (List.replicate n zv) (madeCells zv.cells (n*s)) [] (by simp;simp at h3;omega)
    (fun j x y hx hy=>by
     obtain ⟨jV,jG⟩:=List.getElem?_zip_eq_some.1 hx
     rw [List.getElem?_map] at jV hy
     cases vD:ps.toList[j]? with
     | none=>rw [vD] at hy;cases hy
     | some q =>
      rw [vD] at jV hy
      simp only [Option.map_some,Option.some.injEq] at jV hy
      have jJ:q∈ps.toList:=List.mem_of_getElem? vD
      obtain ⟨k1,k2⟩:=h8 j x.2 jG
      have hvj:j<vs.length:=by have:=(List.getElem?_eq_some_iff.1 jG).1;omega
      obtain ⟨k3,k4⟩:=h4 j _ q.2 (List.getElem?_eq_getElem hvj) (by rw [List.getElem?_map,vD];rfl)
      have hqx:=hq x.2 (List.mem_of_getElem? jG)
      refine ⟨by rw [← jV,← hy],by rw [← jV];exact hpn q jJ,k1,?_,zMx hw _ (List.mem_of_getElem? jG),hqx.2,hqx.1.1⟩
      rw [Nat.add_zero] at k2 k4 ⊢
      rw [k2,k4,← hy])
    (by simp) (by simp) hmade (fun x hx=>by rw [List.eq_of_mem_replicate hx];exact kb) (fun u hu=>by rw [List.eq_of_mem_replicate hu];exact ug) (by simp [kR]) hzz List.nodup_nil (by simp)
   have jU:cells'.size=n*s:=by
    have:=congrArg List.length g2
    rw [zBn g4,g3] at this;simpa using this
   refine ⟨.slice (some ⟨w.heap.size,0,none⟩) n n,zGr w cells' el,?_,?_⟩
   ·subst qK
    have uk:∀ y:Array Value,(n*i.size=0∨y=zv.cells)→(Array.range (n*i.size)).map (fun k=>y[k % y.size]!)=madeCells zv.cells (n*i.size):=by
     rintro y (h0 | rfl)
     ·simp [h0,madeCells]
     ·rfl
    have yK:¬ n*i.size>2 ^ 24:=by omega
    simp only [Instr.buildSlice,Sem.run_bind,run_underlying ht,Result.andThen_ok,zAX hi]
    rw [if_neg yK]
    split
    ·rename_i h0
     simp only [Sem.run_pure,Result.andThen_ok,Sem.run_bind,uk #[] (.inl h0),uJ,g1,zEY]
    ·simp only [Sem.run_pure,Result.andThen_ok,Sem.run_bind,hX,uk zv.cells (.inr rfl),uJ,g1,zEY]
   ·have hold:∀ b,b<w.heap.size→(zGr w cells' el).heap[b]? = w.heap[b]?:=fun b hb=>zGR hb
    have hΦ:zDf w (zGr w cells' el) Φ2 Φ2:=fun b hb=>⟨hb,hold b (S2.conf.frz b hb).1⟩
    have jg:zA1 (zGr w cells' el) Φ2 zCj (zMv n z ((ps.toList.map (·.1)).zip qs)) us' Lc:=g7.mono hΦ (fun _ _ _ h=>h) fun b hb=>by
     obtain ⟨t,_,_,k3⟩:=g9 b hb
     exact hold b (S2.conf.own t b k3).1
    have jb:(zMv n z ((ps.toList.map (·.1)).zip qs)).length=n:=jg.length.symm.trans g3
    refine S2.madeN ps.toList.length (fun s hs=>?_) hd (p := .own s (zMv n z ((ps.toList.map (·.1)).zip qs))) (Lp:=w.heap.size::Lc) (fun A _=>?_) ?_ (fun b yE=>?_) (by rw [zFZ];omega) (fun b yE _=>hold b yE) ⟨rfl,rfl,rfl⟩ h10
    ·rw [(h9 s (by omega) (.inr (by omega))).1,(h5 s (by omega) (.inr (by omega))).1];exact hb s (by omega)
    ·refine .inr ⟨⟨w.heap.size,0,none⟩,n,cells',us',Lc,rfl,by rw [jb],rfl,by omega,zLq,by rw [jU];simp,g5,⟨g4,g6⟩,?_,jg⟩
     rw [jb]
     refine zHq (by rw [zBn g4,g3]) fun k u hk=>?_
     rw [Nat.zero_add,← hk,← g2,Array.getElem?_toList]
    ·refine List.nodup_cons.2 ⟨fun hm=>?_,g8⟩
     obtain ⟨t,_,_,k3⟩:=g9 _ hm
     exact absurd (S2.conf.own t _ k3).1 (Nat.lt_irrefl _)
    ·rcases List.mem_cons.1 yE with rfl | yE
     ·exact .inr ⟨Nat.le_refl _,by rw [zFZ];omega⟩
     ·obtain ⟨t,k1,k2,k3⟩:=g9 b yE
      exact .inl ⟨t,k1,by omega,k3⟩
  ·cases h
 ·cases h
end
end Go.Eng
namespace Go.Eng
open Go
section
variable {P:Program} {w0 w:World} {U Φ0 Φ:Nat→Prop} {nt:Nat} {hv:Hid} {a:Act} {e e':Env} {rv:Nat→Value} {E:Nat→PV} {L:Nat→List Nat} {o:zAL} {A:Al}
theorem zT5 (S:St w0 U Φ0 nt hv a w e Φ rv E L) (hb:zBy E) {d:Option Nat} (hd:∀ x,d=some x→x<nt) {t t2 ty:TypeId} {x y:Operand} (hx:zAW nt x=true) (hy:zAW nt y=true)
  (h:(zBw P d .copy [t,t2] [x,y]).run o e=some e'):∃ v w',(Builtin.copy_ #[t,t2] ty #[a.eval x,a.eval y]).run P w = .ok v w'∧Fr w0 U Φ0 nt hv (a.put d v) w' e':=by
 simp only [zBw] at h
 obtain ⟨sz,yC,h1⟩:=zBI h
 obtain ⟨el,yc,jo⟩:=zT2 (el:=0) yC
 have ht:=zCw yc
 obtain ⟨i,hi,yf⟩:=zCf jo
 obtain ⟨p,h2,hp⟩:=zBD S hx h1
 obtain ⟨q,h3,hq⟩:=zBD S hy h2
 obtain ⟨ys,us,Ly,h4,kF⟩:=zLO S hq h3
 obtain ⟨⟨xb,xc,vA,yM⟩,jF,v8,jr⟩:=kF
 cases p<;>try (cases h4;done)
 rename_i r pre z lo n
 obtain ⟨hc,h5⟩:=zAU h4
 simp only [Bool.and_eq_true,List.all_eq_true] at hc
 obtain ⟨⟨⟨ug,kB⟩,hln⟩,j0⟩:=hc
 have ug:=Nat.eq_of_beq_eq_true ug
 have kB:=zB2 kB
 have hln:=Nat.le_of_ble_eq_true hln
 subst ug
 have ul:∀ y∈ys,y.plain=true∧y.cells.length=z:=fun y hy=>⟨(j0 y hy).1,Nat.eq_of_beq_eq_true (j0 y hy).2⟩
 have qI:Ly=[]:=zFT (fun y hy=>(ul y hy).1) jF
 subst qI
 have hsu:=v8 z (fun y hy=>(ul y hy).2)
 have S1:=S.hold (g:=zAd+2) (by omega) hp
 obtain ⟨w1,e1,rv1,E1,L1,k1,S2,k3,_,k4⟩:=zKB (z:=z) (lo:=lo) (n:=n) (v:=a.eval x) kB ys us 0 S1 zAh zAh (fun s hs hI=>by rw [zAf hI];exact hb s hs) ul jr jF (by omega) (by simpa using h5)
 have yH:Fr w0 U Φ0 nt hv (a.put d (.int .i64 ys.length)) w1 e':=by
  obtain ⟨Φ2,rv2,E2,L2,S3,qM⟩:=S2.clear
  exact zAG S3 qM hd k1 (v := .int .i64 ys.length) ⟨rfl,rfl⟩
 have hf:=yM z (fun y hy=>(ul y hy).2) P w (fun _=>rfl)
 have hmin:Nat.min ys.length n=ys.length:=Nat.min_eq_left hln
 obtain ⟨_,hg,⟨b,cap,wN,yO,yX,yZ⟩,hn⟩:=hp
 rcases k4 with ⟨rfl,rfl⟩ | ⟨b',cap',row,yB,yY,yA,hZ,yJ,rfl⟩
 ·refine ⟨.int .i64 0,w1,?_,yH⟩
  have yt:us=[]:=List.eq_nil_of_length_eq_zero (by have:=jF.length;simpa using this)
  subst yt
  rw [wN,vA]
  rw [vA] at hf
  have hf0:(Builtin.firstCells z 0 (.slice xb 0 xc)).run P w1 = .ok #[] w1:=hf
  cases b with
  | none=>simp [Builtin.copy_,run_underlying ht,Builtin.lenOf,zAX hi,yf,hf0,goInt]
  | some b=>simp [Builtin.copy_,run_underlying ht,Builtin.lenOf,zAX hi,yf,hf0,goInt,storeCells]
 ·rw [yB] at wN
  simp only [Value.slice.injEq] at wN
  refine ⟨_,_,?_,yH⟩
  rw [yB,vA]
  rw [vA] at hf
  obtain ⟨et,jb⟩:=yA
  have yR:=run_storeCells_at (P:=P) b'.block b'.off et (flat us) 0 row w jb (by simpa using hZ) yJ
  simp only [Nat.add_zero] at yR
  have yE:b'=⟨b'.block,b'.off,none⟩:=by cases b';simp_all
  rw [← yE] at yR
  simp [Builtin.copy_,run_underlying ht,Builtin.lenOf,zAX hi,yf,hmin,hf,yR,goInt,zBf]
theorem zGa {z:Value} {n:Nat}:flat (List.replicate n z)=(Builtin.zeroCells z.cells n).toList:=by
 have hO:(flat (List.replicate n z)).length=n*z.cells.size:=by
  rw [zBn (sz:=z.cells.size) (fun u hu=>by rw [List.eq_of_mem_replicate hu])];simp
 apply List.ext_getElem
 ·rw [hO];simp [Builtin.zeroCells]
 ·intro k h1 h2
  rw [hO] at h1
  have hs:0<z.cells.size:=Nat.pos_of_ne_zero fun h0=>by rw [h0] at h1;simp at h1
  have hdm:k / z.cells.size*z.cells.size+k % z.cells.size=k:=Nat.div_add_mod' k _
  have hq:k / z.cells.size<n:=Nat.div_lt_of_lt_mul (by rw [Nat.mul_comm];exact h1)
  have hr:k % z.cells.size<z.cells.size:=Nat.mod_lt _ hs
  have hzc : z.cells.toList[k % z.cells.size]? = some (z.cells[k % z.cells.size]'hr) := by simp
  have:=zDQ (sz:=z.cells.size) (us:=List.replicate n z) (fun u hu=>by rw [List.eq_of_mem_replicate hu]) (i:=k / z.cells.size) (c:=k % z.cells.size) (x:=z) (by simp [hq]) hzc
  rw [hdm] at this
  have h3:=(List.getElem?_eq_some_iff.1 this).2
  rw [h3]
  simp [Builtin.zeroCells,getElem!_pos z.cells (k % z.cells.size) hr]
theorem zR5 (S:St w0 U Φ0 nt hv a w e Φ rv E L) (hb:zBy E) {d:Option Nat} (hd:∀ x,d=some x→x<nt) {t ty:TypeId} {ts:List TypeId} {x:Operand} (hx:zAW nt x=true)
  (h:(zBw P d .clear (t::ts) [x]).run o e=some e'):∃ w',(Builtin.clear_ (t::ts).toArray ty #[a.eval x]).run P w = .ok (.tuple #[]) w'∧Fr w0 U Φ0 nt hv (a.put d (.tuple #[])) w' e':=by
 simp only [zBw] at h
 obtain ⟨p,h1,hp⟩:=zBD S hx h
 simp only [zSJ] at h1
 have light:∀ {v:Value},a.eval x=v→d=none→PM.ok.run o e=some e'→(∃ el,P.underlying t=some (.slice el))→((∃ b c,v = .slice b 0 c))→∃ w',(Builtin.clear_ (t::ts).toArray ty #[a.eval x]).run P w = .ok (.tuple #[]) w'∧Fr w0 U Φ0 nt hv (a.put d (.tuple #[])) w' e':=by
  intro v yB uu yD ⟨el,ht⟩ ⟨b,c,hvb⟩
  subst uu
  have vV:Fr w0 U Φ0 nt hv (a.put none (.tuple #[])) w e':=by
   simp only [PM.run,Option.some.injEq] at yD
   subst yD
   exact ⟨Φ,rv,E,L,S,hb⟩
  refine ⟨w,?_,vV⟩
  rw [yB,hvb]
  cases b<;>simp [Builtin.clear_,run_underlying ht]
 split at h1
 ·rename_i r pre z lo n q s uv kR
  obtain ⟨hc,h2⟩:=zAU h1
  simp only [Bool.and_eq_true] at hc
  obtain ⟨⟨⟨c1,c2⟩,c3⟩,c4⟩:=hc
  have c1:=zB2 c1
  have c2:=Nat.eq_of_beq_eq_true c2
  have c3:=Nat.eq_of_beq_eq_true c3
  subst c2
  cases yc:zBX P t with
  | none=>rw [yc] at uv;cases uv
  | some el =>
  rw [yc] at uv kR
  simp only [Option.bind_some] at uv kR
  have ht:=zCw yc
  obtain ⟨i,z0,hi,_,kB,kW⟩:=zD0 uv
  have hrz:=zCt (w:=w) (Φ:=Φ) (A:=zCj) kW
  have w8:z0.cells.size=z:=by rw [hrz.2.1,c3]
  by_cases kA:n=0
  ·subst kA
   obtain ⟨_,_,⟨b,cap,wN,_⟩,_⟩:=hp
   exact light wN rfl (by simpa [zF9] using h2) ⟨el,ht⟩ ⟨b,cap,rfl⟩
  have uT:∀ k,zA1 w Φ zCj (List.replicate k q) (List.replicate k z0) []:=by
   intro k
   induction k with
   | zero=>exact ⟨rfl,rfl⟩
   | succ k ih=>exact ⟨z0,_,[],[],rfl,rfl,hrz.1,ih⟩
  have S1:=S.hold (g:=zAd+2) (by omega) hp
  obtain ⟨w1,e1,rv1,E1,L1,k1,S2,k3,_,k4⟩:=zKB (z:=z) (lo:=lo) (n:=n) (v:=a.eval x) c1 (List.replicate n q) (List.replicate n z0) 0 S1 zAh zAh (fun s hs hI=>by rw [zAf hI];exact hb s hs) (fun y hy=>by rw [List.eq_of_mem_replicate hy];exact ⟨c4,c3⟩) (by simp [hrz.2.2.1]) (uT n) (by simp) (by simpa using h2)
  have yH:Fr w0 U Φ0 nt hv (a.put none (.tuple #[])) w1 e':=by
   obtain ⟨Φ2,rv2,E2,L2,S3,qM⟩:=S2.clear
   simp only [PM.run,Option.some.injEq] at k1
   subst k1
   exact ⟨_,_,_,_,S3,qM⟩
  obtain ⟨_,hg,⟨b,cap,wN,yO,yX,yZ⟩,hn⟩:=hp
  refine ⟨w1,?_,yH⟩
  rcases k4 with ⟨vN,rfl⟩ | ⟨b',cap',row,yB,yY,yA,hZ,yJ,rfl⟩
  ·exact absurd (by simpa using vN) kA
  ·obtain ⟨et,jb⟩:=yA
   have yR:=run_storeCells_at (P:=P) b'.block b'.off et (flat (List.replicate n z0)) 0 row w jb (by simpa using hZ) yJ
   simp only [Nat.add_zero] at yR
   have yE:b'=⟨b'.block,b'.off,none⟩:=by cases b';simp_all
   rw [← yE,zGa] at yR
   rw [yB]
   obtain ⟨m,rfl⟩:∃ m,n=m+1:=⟨n-1,by omega⟩
   simp [Builtin.clear_,run_underlying ht,kB,yR,zBf,zGa]
 ·rename_i h3 h4
  obtain ⟨el,yc⟩:∃ el,zBX P t=some el:=by
   cases yc:zBX P t with
   | none=>rw [yc] at h3;cases h3
   | some el=>exact ⟨el,rfl⟩
  obtain ⟨_,⟨_,b,c,yB,_⟩ | ⟨b,n',c,us,sz,yB,_⟩⟩:=hp
  ·exact light yB rfl h1 ⟨el,zCw yc⟩ ⟨b,c,rfl⟩
  ·exact light yB rfl h1 ⟨el,zCw yc⟩ ⟨some b,n',rfl⟩
 ·rename_i h3 h4
  obtain ⟨el,yc⟩:∃ el,zBX P t=some el:=by
   cases yc:zBX P t with
   | none=>rw [yc] at h3;cases h3
   | some el=>exact ⟨el,rfl⟩
  exact light hp.1 rfl h1 ⟨el,zCw yc⟩ ⟨none,0,rfl⟩
 ·cases h1
end
end Go.Eng
namespace Go.Eng
open Go
section
variable {P:Program} {w0 w:World} {U Φ0 Φ:Nat→Prop} {nt:Nat} {hv:Hid} {a:Act} {e e':Env} {rv:Nat→Value} {E:Nat→PV} {L:Nat→List Nat} {o:zAL} {A:Al}
theorem zOt {empty:Bool} {n:Nat} {ok:TypeId→PV→Bool} {p:PV} {xs:Array Value} (hp:Rep w Φ A p (.agg xs) [])
    (hd:∀ t p x,ok t p=true→Rep w Φ A p x []→(Instr.checkKey empty n t x).run P w = .ok () w) :
    ∀ (fs:List Field),zRk ok (shT P) p fs=true→((forIn fs () fun f _=>do
      if f.name ≠ "_" then
        Instr.checkKey empty n f.type (← part f.type xs f.offset)
        pure (.yield ())
      else pure (.yield ()):Sem Unit)).run P w = .ok () w
  | [],_=>by simp
  | f :: fs,h=>by
    simp only [zRk,Bool.and_eq_true] at h
    have ih:=zOt hp hd fs h.2
    simp only [List.forIn_cons,Sem.run_bind]
    by_cases hn : f.name = "_"
    · simp only [hn,ne_eq,not_true_eq_false,if_false,Sem.run_pure,Result.andThen_ok]
      exact ih
    · have h1:=h.1
      rw [if_neg hn] at h1
      rw [if_pos hn]
      cases hs:shT P f.type with
      | none=>rw [hs] at h1;cases h1
      | some sh =>
        rw [hs] at h1;simp only at h1
        cases yV:sub p f.offset sh with
        | none=>rw [yV] at h1;cases h1
        | some q =>
          rw [yV] at h1;simp only at h1
          obtain ⟨u,h3,h4⟩:=zFI hs hp yV
          simp only [Sem.run_bind,h3,Result.andThen_ok,hd _ _ _ h1 h4,Sem.run_pure]
          exact ih
theorem zNL {empty:Bool} {n:Nat} {ok:PV→Bool} {el:TypeId} {sh:Option Nat} {i:TypeInfo} (hs:shT P el=some sh) (hi:P.info? el=some i) {p:PV} {xs:Array Value} (hp:Rep w Φ A p (.agg xs) [])
  (hd:∀ p x,ok p=true→Rep w Φ A p x []→(Instr.checkKey empty n el x).run P w = .ok () w) :
  ∀ (m k:Nat),zSE ok sh i.size p k m=true→((forIn (List.range' k m 1) () fun j _=>do
   Instr.checkKey empty n el (← part el xs (j*(← sizeOf el)))
   pure (.yield ()):Sem Unit)).run P w = .ok () w
 | 0,k,_=>by simp
 | m + 1,k,h=>by
  simp only [zSE,Bool.and_eq_true] at h
  have ih:=zNL (empty:=empty) hs hi hp hd m (k+1) h.2
  have h1:=h.1
  simp only [List.range'_succ,List.forIn_cons,Sem.run_bind]
  cases yV:sub p (k*i.size) sh with
  | none=>rw [yV] at h1;cases h1
  | some q =>
   rw [yV] at h1;simp only at h1
   obtain ⟨u,h3,h4⟩:=zFI hs hp yV
   simp only [zAX hi,Result.andThen_ok,h3,hd _ _ h1 h4,Sem.run_pure]
   exact ih
theorem zK5 {empty:Bool}:∀ (n d:Nat) (t:TypeId) (p:PV) (x:Value),n≤d→zPh P n t p=true→Rep w Φ A p x []→(Instr.checkKey empty d t x).run P w = .ok () w
 | 0,d,t,p,x,_,h,_=>by cases h
 | n+1,0,t,p,x,hd,h,_=>by omega
 | n + 1,d+1,t,p,x,hd,h,hp=>by
  have yI:n≤d:=by omega
  simp only [zPh] at h
  split at h
  ·rename_i ht
   rw [hp.1];simp [Instr.checkKey,run_underlying ht]
  ·rename_i ht
   rw [hp.1];simp [Instr.checkKey,run_underlying ht]
  ·rename_i fs xs ht
   obtain ⟨vs,rfl,jI⟩:=hp
   have:=zOt (empty:=empty) (n:=d) (p := .agg xs) ⟨vs,rfl,jI⟩ (fun t p x h1 h2=>zK5 n d t p x yI h1 h2) fs.toList h
   simp only [Instr.checkKey,Sem.run_bind,run_underlying ht,Result.andThen_ok]
   simp only [ne_eq,ite_not] at this ⊢
   simp at this ⊢
   rw [this];rfl
  ·rename_i len el xs ht
   split at h
   ·rename_i sz sh yC ja
    obtain ⟨vs,rfl,jI⟩:=hp
    obtain ⟨i,hi,_⟩:=zEZ (w:=w) ja
    have qf:i.size=sz:=by simp only [szT,hi,Option.map_some,Option.some.injEq] at yC;exact yC
    subst qf
    have:=zNL (empty:=empty) (n:=d) (p := .agg xs) ja hi ⟨vs,rfl,jI⟩ (fun p x h1 h2=>zK5 n d el p x yI h1 h2) len 0 h
    simp only [Instr.checkKey,Sem.run_bind,run_underlying ht,Result.andThen_ok,Std.Legacy.Range.forIn_eq_forIn_range',Std.Legacy.Range.size,Nat.sub_zero,Nat.add_sub_cancel,Nat.div_one]
    simp at this ⊢
    rw [this];rfl
   ·cases h
  ·cases h
theorem zJW {kt:TypeId} {d:TypeDesc} {kv:Value} (hd:P.underlying kt=some d):∀ {ms:List MapEntry} {i:Nat},(∀ x y,Instr.sameNow d x y=none)→Instr.findNow d kv ms i=none∨ms=[]
 | [],_,_ => .inr rfl
 | m::ms,i,h => .inl (by simp only [Instr.findNow,h])
theorem zDV {kt:TypeId} {key:PV} {kv:Value} (hk:Rep w Φ A key kv []):∀ (es:List (PV×PV)) (ms:List MapEntry) (i:Nat) (r:Option Nat),zEq P kt key es i=some r→zD8 w Φ es ms i →
  (Instr.findAsking kt kv ms i).run P w = .ok (r.bind fun j=>(ms[j-i]?).map fun m=>(j,m.val)) w∧∀ j,r=some j→i≤j∧j-i<ms.length∧∃ k v m,es[j-i]? = some (k,v)∧ms[j-i]? = some m∧zGh key.cells k.cells=some true∧Rep w Φ zCj k m.key []∧Rep w Φ zCj v m.val []∧m.born=j
 | [],ms,i,r,h,hm=>by
  simp only [zEq,Option.some.injEq] at h;subst h
  simp only [zD8] at hm;subst hm
  exact ⟨rfl,fun j hj=>by cases hj⟩
 | (k, p)::es,ms,i,r,h,hm=>by
  obtain ⟨m,ms',rfl,hb,h1,h2,h3⟩:=hm
  have jT:Rep w Φ A k m.key []:=h1.mono zDf.refl (fun _ _ _ h=>h.elim) (by simp)
  simp only [zEq] at h
  split at h
  ·rename_i he
   split at h
   ·rename_i hc
    simp only [Option.some.injEq] at h;subst h
    have:=zJH 20 kt key k true kv m.key Op.maxDepth (by decide) he hk jT
    refine ⟨?_,fun j hj=>?_⟩
    ·simp [Instr.findAsking,Op.equal,this]
    ·cases hj
     exact ⟨Nat.le_refl _,by simp,k,p,m,by simp,by simp,hc,h1,h2,hb⟩
   ·cases h
  ·rename_i he
   have:=zJH 20 kt key k false kv m.key Op.maxDepth (by decide) he hk jT
   obtain ⟨g1,g2⟩:=zDV hk es ms' (i+1) r h h3
   refine ⟨?_,fun j hj=>?_⟩
   ·simp only [Instr.findAsking,Op.equal,Sem.run_bind,this,Result.andThen_ok,Bool.false_eq_true,if_false,g1]
    cases r with
    | none=>rfl
    | some j =>
     obtain ⟨k1,k2,_⟩:=g2 j rfl
     simp only [Option.bind_some]
     rw [show j-i=(j-(i+1))+1 by omega];simp
   ·obtain ⟨k1,k2,k',v',m',k3,k4,k5⟩:=g2 j hj
    have v6:j-i=(j-(i+1))+1:=by omega
    refine ⟨by omega,by rw [v6];simp;omega,k',v',m',by rw [v6];simpa using k3,by rw [v6];simpa using k4,k5⟩
  ·cases h
theorem zJg {kt:TypeId} {k:IntKind} {n:Int} {key:PV} {kv:Value} (hd:∃ k0,P.underlying kt=some (.int k0)) (wc:kv = .int k n) (y9:key = .int k n):∀ (es:List (PV×PV)) (ms:List MapEntry) (i:Nat) (r:Option Nat),zEq P kt key es i=some r→zD8 w Φ es ms i →
  ∀ k0,Instr.findNow (.int k0) kv ms i=some (r.bind fun j=>(ms[j-i]?).map fun m=>(j,m.val))
 | [],ms,i,r,h,hm,_=>by
  simp only [zEq,Option.some.injEq] at h;subst h
  simp only [zD8] at hm;subst hm;rfl
 | (q, p)::es,ms,i,r,h,hm,k0=>by
  obtain ⟨k1,hd⟩:=hd
  obtain ⟨m,ms',rfl,hb,h1,h2,h3⟩:=hm
  simp only [zEq] at h
  have hq:∀ b,eqT P 20 kt key q=some b→∃ n',q = .int k n'∧b=(n==n'):=by
   intro b he
   rw [y9] at he
   simp only [eqT,hd] at he
   cases q<;>simp only at he<;>try (cases he;done)
   split at he
   ·rename_i qN;subst qN;cases he;exact ⟨_,rfl,rfl⟩
   ·cases he
  split at h
  ·rename_i he
   obtain ⟨n',rfl,hn⟩:=hq _ he
   split at h
   ·simp only [Option.some.injEq] at h;subst h
    simp only [Instr.findNow,h1.1,wc,Instr.sameNow,if_true,← hn]
    simp
   ·cases h
  ·rename_i he
   obtain ⟨n',rfl,hn⟩:=hq _ he
   have g1:=zJg ⟨k1,hd⟩ wc y9 es ms' (i+1) r h h3 k0
   simp only [Instr.findNow,h1.1,wc,Instr.sameNow,if_true,← hn]
   rw [wc] at g1
   rw [g1]
   cases r with
   | none=>rfl
   | some j =>
    obtain ⟨k1,_⟩:=(zDV (P:=P) (A:=zCj) (key:=key) (kv := .int k n) (by rw [y9];exact ⟨rfl,rfl⟩) es ms' (i+1) (some j) h h3).2 j rfl
    simp only [Option.bind_some]
    rw [show j-i=(j-(i+1))+1 by omega];simp
  ·cases h
theorem zHI {kt:TypeId} {n:Bool} {key:PV} {kv:Value} (hd:P.underlying kt=some .bool) (wc:kv = .bool n) (y9:key = .bool n):∀ (es:List (PV×PV)) (ms:List MapEntry) (i:Nat) (r:Option Nat),zEq P kt key es i=some r→zD8 w Φ es ms i →
  Instr.findNow .bool kv ms i=some (r.bind fun j=>(ms[j-i]?).map fun m=>(j,m.val))
 | [],ms,i,r,h,hm=>by
  simp only [zEq,Option.some.injEq] at h;subst h
  simp only [zD8] at hm;subst hm;rfl
 | (q, p)::es,ms,i,r,h,hm=>by
  obtain ⟨m,ms',rfl,hb,h1,h2,h3⟩:=hm
  simp only [zEq] at h
  have hq:∀ b,eqT P 20 kt key q=some b→∃ n',q = .bool n'∧b=(n==n'):=by
   intro b he
   rw [y9] at he
   simp only [eqT,hd] at he
   cases q<;>simp only at he<;>try (cases he;done)
   cases he;exact ⟨_,rfl,rfl⟩
  split at h
  ·rename_i he
   obtain ⟨n',rfl,hn⟩:=hq _ he
   split at h
   ·simp only [Option.some.injEq] at h;subst h
    simp only [Instr.findNow,h1.1,wc,Instr.sameNow,← hn]
    simp
   ·cases h
  ·rename_i he
   obtain ⟨n',rfl,hn⟩:=hq _ he
   have g1:=zHI hd wc y9 es ms' (i+1) r h h3
   simp only [Instr.findNow,h1.1,wc,Instr.sameNow,← hn]
   rw [wc] at g1
   rw [g1]
   cases r with
   | none=>rfl
   | some j =>
    obtain ⟨k1,_⟩:=(zDV (P:=P) (A:=zCj) (key:=key) (kv := .bool n) (by rw [y9];exact ⟨rfl,rfl⟩) es ms' (i+1) (some j) h h3).2 j rfl
    simp only [Option.bind_some]
    rw [show j-i=(j-(i+1))+1 by omega];simp
  ·cases h
theorem zKk {kt:TypeId} {key:PV} {kv:Value} (ht:zPh P 20 kt key=true) (hk:Rep w Φ A key kv []) {es:List (PV×PV)} {ms:List MapEntry} {r:Option Nat} (h:zEq P kt key es 0=some r) (hm:zD8 w Φ es ms 0) :
  (Instr.findKey kt kv ms).run P w = .ok (r.bind fun j=>(ms[j]?).map fun m=>(j,m.val)) w:=by
 have h1:=(zDV hk es ms 0 r h hm).1
 simp only [Nat.sub_zero] at h1
 simp only [zPh] at ht
 split at ht
 ·rename_i k0 k n hd
  have h2:=zJg (key := .int k n) ⟨_,hd⟩ hk.1 rfl es ms 0 r h hm k0
  simp only [Nat.sub_zero] at h2
  simp only [Instr.findKey,Sem.run_bind,run_underlying hd,Result.andThen_ok,h2,Sem.run_pure]
 ·rename_i b hd
  have h2:=zHI (key := .bool b) hd hk.1 rfl es ms 0 r h hm
  simp only [Nat.sub_zero] at h2
  simp only [Instr.findKey,Sem.run_bind,run_underlying hd,Result.andThen_ok,h2,Sem.run_pure]
 ·rename_i fs xs hd
  simp only [Instr.findKey,Sem.run_bind,run_underlying hd,Result.andThen_ok]
  rcases zJW (kv:=kv) hd (ms:=ms) (i:=0) (fun x y=>by simp [Instr.sameNow]) with h2 | rfl
  ·rw [h2];exact h1
  ·simp only [Instr.findNow,Sem.run_pure];rw [← h1];rfl
 ·rename_i len el xs hd
  simp only [Instr.findKey,Sem.run_bind,run_underlying hd,Result.andThen_ok]
  rcases zJW (kv:=kv) hd (ms:=ms) (i:=0) (fun x y=>by simp [Instr.sameNow]) with h2 | rfl
  ·rw [h2];exact h1
  ·simp only [Instr.findNow,Sem.run_pure];rw [← h1];rfl
 ·cases ht
theorem zL1 {p:PV} {v:Value} {M:List Nat} (hp:p.lone0=true) (h:Rep w Φ A p v M):M=[]∧Rep w Φ zCj p v []:=by
 cases p<;>first | (cases hp;done) | skip
 case int=>exact ⟨h.2,h.1,rfl⟩
 case bool=>exact ⟨h.2,h.1,rfl⟩
 case nilp=>exact ⟨h.2,h.1,rfl⟩
 case nilf=>exact ⟨h.2,h.1,rfl⟩
 case nilm=>exact ⟨h.2,h.1,rfl⟩
 case nn=>exact ⟨h.1,rfl,h.2⟩
 case nils=>exact ⟨h.2,h.1,rfl⟩
 case sl=>exact ⟨h.1,rfl,h.2⟩
 case map=>exact ⟨h.1,rfl,h.2⟩
theorem zJ5:∀ {ps:List PV} {vs:List Value} {M:List Nat},ps.all PV.lone0=true→zA1 w Φ A ps vs M→M=[]∧zA1 w Φ zCj ps vs []
 | [],vs,M,_,h=>⟨h.2,h.1,rfl⟩
 | p::ps,vs,M,hp,h=>by
  simp only [List.all_cons,Bool.and_eq_true] at hp
  obtain ⟨v,vs',L1,L2,rfl,rfl,h1,h2⟩:=h
  obtain ⟨rfl,h3⟩:=zL1 hp.1 h1
  obtain ⟨rfl,h4⟩:=zJ5 hp.2 h2
  exact ⟨rfl,v,vs',[],[],rfl,rfl,h3,h4⟩
theorem zKG {p:PV} {v:Value} {M:List Nat} (hp:p.lone=true) (h:Rep w Φ A p v M):M=[]∧Rep w Φ zCj p v []:=by
 cases p<;>first | exact zL1 hp h | skip
 obtain ⟨vs,rfl,h⟩:=h
 obtain ⟨rfl,h2⟩:=zJ5 hp h
 exact ⟨rfl,vs,rfl,h2⟩
theorem zJ7 (S:St w0 U Φ0 nt hv a w e Φ rv E L) (hb:zBy E) {d:Option Nat} (hd:∀ x,d=some x→x<nt) {p:PV} {v:Value} {b:Bool} (hp:Rep w Φ zCj p v []) (ue:p.lone=true) (h:(zEE d (.tup [p,.bool b])).run o e=some e') :
  Fr w0 U Φ0 nt hv (a.put d (.tuple #[v,.bool b])) w e':=by
 have kN:=S.small
 cases d with
 | none =>
  simp only [zEE] at h
  exact zAG S hb hd h ⟨#[v,.bool b],rfl,v,[.bool b],[],[],rfl,rfl,hp.mono zDf.refl (fun _ _ _ h=>h.elim) (by simp),.bool b,[],[],[],rfl,rfl,⟨rfl,rfl⟩,rfl,rfl⟩
 | some d =>
  have uu:=hd d rfl
  simp only [zEE] at h
  obtain ⟨ui,h⟩:=zAU h
  simp only [PM.run] at h
  simp only [Bool.and_eq_true] at ui
  obtain ⟨L1,S1⟩:=S.empty uu
  have S2:=S1.hold (g:=zAd) (Nat.le_refl _) (hp.mono (A':=zA6 w rv (upd E d .bad)) zDf.refl (fun _ _ _ h=>h.elim) (by simp))
  have S3:=S2.hold (g:=zAd+1) (by omega) (p := .bool b) (v := .bool b) ⟨rfl,rfl⟩
  refine zGy uu (vs:=#[v,.bool b]) [p,.bool b] 0 S3 (fun ps hp=>?_) (by simp) (by simp) (fun j q hq=>?_) (fun g hg hI=>?_) (fun x hx=>?_) (fun j hj=>by omega) h
  ·rw [zAf (by simp only [zAd];omega),zAf (by simp only [zAd];omega),zAh] at hp;cases hp
  ·match j,hq with
   | 0,hq =>
    simp at hq;subst hq
    rw [show zAd+0+0=zAd from rfl]
    refine ⟨by rw [zAf (by omega),zAh],?_⟩
    rw [zAf (by omega),zAh];rfl
   | 1,hq =>
    simp at hq;subst hq
    rw [show zAd+0+1=zAd+1 from rfl]
    refine ⟨by rw [zAh],?_⟩
    rw [zAh];rfl
  ·have h0:=hI 0 (by simp)
   have h1:=hI 1 (by simp)
   rw [zAf (by omega),zAf (by omega)]
   by_cases hgd:g=d
   ·subst hgd;rw [zAh]
   ·rw [zAf hgd];exact hb g hg
  ·simpa using List.all_eq_true.1 ui.2 x hx
theorem zKW (S:St w0 U Φ0 nt hv a w e Φ rv E L) (hb:zBy E) {d:Option Nat} (hd:∀ x,d=some x→x<nt) {t kt el:TypeId} {z key:PV} {kv zv:Value} {ok:Bool} {es:List (PV×PV)} {ms:Array MapEntry} {mv:Value} (ht:P.underlying t=some (.map kt el)) (wg:zPh P 20 kt key=true) (hk:Rep w Φ (zA6 w rv E) key kv [])
  (hz:(zeroValue el).run P w = .ok zv w) (ga:Rep w Φ zCj z zv []) (hzp:z.lone=true) (hm:zD8 w Φ es ms.toList 0) (hmv:mv = .map none∧ms=#[]∨∃ b n,mv = .map (some b)∧w.heap[b]? = some (.map ms n))
  (h:(zJx P d kt z key ok es).run o e=some e'):∃ v,(Instr.lookup t mv kv ok).run P w = .ok v w∧Fr w0 U Φ0 nt hv (a.put d v) w e':=by
 simp only [zJx] at h
 cases hf:zEq P kt key es 0 with
 | none=>rw [hf] at h;cases h
 | some r =>
  rw [hf] at h
  have y9:=zKk wg hk hf hm
  have qO:=zK5 (empty:=ms.isEmpty) 20 10000 kt key kv (by decide) wg hk
  have hX:∀ v ok',(match (r.bind fun j=>(ms.toList[j]?).map fun m=>(j,m.val)) with
    | some (_,v)=>(v,true)
    | none=>(zv,false))=(v,ok')→(Instr.lookup t mv kv ok).run P w = .ok (if ok then .tuple #[v,.bool ok'] else v) w:=by
   intro v ok' he
   revert he y9
   generalize (r.bind fun j=>(ms.toList[j]?).map fun m=>(j,m.val))=q
   intro y9 he
   rcases hmv with ⟨rfl,rfl⟩ | ⟨b,n,rfl,yE⟩
   ·cases q with
    | none=>cases he;simp only [Instr.lookup,Sem.run_bind,run_underlying ht,Result.andThen_ok,Sem.run_pure,qO,y9,hz]
    | some x=>cases he;simp only [Instr.lookup,Sem.run_bind,run_underlying ht,Result.andThen_ok,Sem.run_pure,qO,y9]
   ·cases q with
    | none=>cases he;simp only [Instr.lookup,Sem.run_bind,run_underlying ht,Result.andThen_ok,Sem.run_pure,MapKept.run_getObj_map yE,qO,y9,hz]
    | some x=>cases he;simp only [Instr.lookup,Sem.run_bind,run_underlying ht,Result.andThen_ok,Sem.run_pure,MapKept.run_getObj_map yE,qO,y9]
  cases r with
  | none =>
   have:=hX zv false rfl
   refine ⟨_,this,?_⟩
   simp only at h
   cases ok with
   | true=>exact zJ7 S hb hd ga hzp (by simpa using h)
   | false =>
    simp only [Bool.false_eq_true,if_false] at h ⊢
    have h':(put d z).run o e=some e':=by
     revert h;cases d<;>simp only [zEE]<;>cases z<;>first | exact fun h=>h | (cases hzp;done)
    exact zAG S hb hd h' (ga.mono zDf.refl (fun _ _ _ h=>h.elim) (by simp))
  | some i =>
   obtain ⟨_,_,k,v,m,h3,h4,_,_,h5,_⟩:=(zDV hk es ms.toList 0 (some i) hf hm).2 i rfl
   simp only [Nat.sub_zero] at h3 h4
   have:=hX m.val true (by simp only [Option.bind_some,h4,Option.map_some])
   refine ⟨_,this,?_⟩
   simp only [h3] at h
   obtain ⟨hvp,h⟩:=zAU h
   cases ok with
   | true=>exact zJ7 S hb hd h5 hvp (by simpa using h)
   | false =>
    simp only [Bool.false_eq_true,if_false] at h ⊢
    have h':(put d v).run o e=some e':=by
     revert h;cases d<;>simp only [zEE]<;>cases v<;>first | exact fun h=>h | (cases hvp;done)
    exact zAG S hb hd h' (h5.mono zDf.refl (fun _ _ _ h=>h.elim) (by simp))
theorem zPo (S:St w0 U Φ0 nt hv a w e Φ rv E L) {r:Nat} {pre:zAT} {mv:Value} (hm:Rep w Φ (zA6 w rv E) (.bmap r pre) mv []) {es:List (PV×PV)} (hq:zAz (e.get r).unlock pre=some (.omap es)) :
  r<zAd∧∃ b ms,mv = .map (some b)∧w.heap[b]? = some (.map ms es.length)∧zD8 w Φ es ms.toList 0:=by
 obtain ⟨_,hr,_,hn⟩:=hm
 rw [← S.env r hr] at hq
 obtain ⟨nv,La,Li,Lb,h1,_,h2,_⟩:=Rep.zip pre (zB4 (S.conf.rep r)) hq
 obtain ⟨b,ms,_,h3,h4,h5⟩:=h2
 have:=hn nv _ h1 es rfl
 exact ⟨hr,b,ms,this.trans h3,h4,h5⟩
theorem zQO (S:St w0 U Φ0 nt hv a w e Φ rv E L) (hb:zBy E) {d:Option Nat} (hd:∀ x,d=some x→x<nt) {t:TypeId} {m x:Operand} {ok:Bool} (hm:zAW nt m=true) (hx:zAW nt x=true) (h:(zIf P d t m x ok).run o e=some e') :
  ∃ v,(Instr.lookup t (a.eval m) (a.eval x) ok).run P w = .ok v w∧Fr w0 U Φ0 nt hv (a.put d v) w e':=by
 obtain ⟨p,h1,hp⟩:=zBD S hm h
 obtain ⟨key,h2,hk⟩:=zBD S hx h1
 split at h2
 ·rename_i kt el ht
  obtain ⟨wg,h3⟩:=zAU h2
  obtain ⟨z,hz,h4⟩:=zBI h3
  obtain ⟨kb,h5⟩:=zAU h4
  obtain ⟨i,zv,_,_,vh,kW⟩:=zD0 hz
  have ga:=(zCt (w:=w) (Φ:=Φ) (A:=zCj) kW).1
  cases p<;>simp only [zRv] at h5<;>try (cases h5;done)
  case nilm=>exact zKW S hb hd (ms:=#[]) (es:=[]) ht wg hk (vh w) ga kb (by simp [zD8]) (.inl ⟨hp.1,rfl⟩) h5
  case map es =>
   obtain ⟨_,b,ms,q1,_,q2,q3⟩:=hp
   exact zKW S hb hd ht wg hk (vh w) ga kb q3 (.inr ⟨b,_,q1,q2⟩) h5
  case bmap r pre =>
   obtain ⟨q,hq,h6⟩:=zBU h5
   cases q<;>simp only at h6<;>try (cases h6;done)
   rename_i es
   obtain ⟨_,b,ms,q1,q2,q3⟩:=zPo S hp hq
   exact zKW S hb hd ht wg hk (vh w) ga kb q3 (.inr ⟨b,_,q1,q2⟩) h6
 ·cases h2
theorem zGH:∀ {ps qs:List PV} {us vs:List Value} {A A':Al},ps.all PV.num=true→zGh ps qs=some true→zA1 w Φ A ps us []→zA1 w Φ A' qs vs []→us=vs∧∀ u∈us,∀ n,Instr.sameBits n u u=true
 | [],[],us,vs,A,A',_,_,h1,h2=>by rw [h1.1,h2.1];exact ⟨rfl,by simp⟩
 | [],_::_,us,vs,A,A',_,h,_,_=>by cases h
 | p::ps,[],us,vs,A,A',_,h,_,_=>by cases h
 | p :: ps,q::qs,us,vs,A,A',hp,h,h1,h2=>by
  simp only [List.all_cons,Bool.and_eq_true] at hp
  obtain ⟨u,us',L1,L2,rfl,hL,h3,h4⟩:=h1
  obtain ⟨v,vs',M1,M2,rfl,hM,h5,h6⟩:=h2
  obtain ⟨rfl,rfl⟩:=List.append_eq_nil_iff.1 hL.symm
  obtain ⟨rfl,rfl⟩:=List.append_eq_nil_iff.1 hM.symm
  simp only [zGh] at h
  cases vO:zVu p q with
  | none=>rw [vO] at h;cases h
  | some b1 =>
   rw [vO] at h
   cases y6:zGh ps qs with
   | none=>rw [y6] at h;cases h
   | some b2 =>
    rw [y6] at h
    simp only [Option.some.injEq,Bool.and_eq_true] at h
    obtain ⟨rfl,rfl⟩:=h
    obtain ⟨ih1,ih2⟩:=zGH hp.2 y6 h4 h6
    have huv:u=v∧∀ n,Instr.sameBits n u u=true:=by
     cases p<;>first | (cases hp.1;done) | skip
     case int k n =>
      cases q<;>simp only [zVu] at vO<;>try (cases vO;done)
      split at vO
      ·rename_i hk;subst hk
       simp only [Option.some.injEq,beq_iff_eq] at vO;subst vO
       refine ⟨h3.1.trans h5.1.symm,fun n=>?_⟩
       rw [h3.1];cases n<;>simp [Instr.sameBits]
      ·cases vO
     case bool b =>
      cases q<;>simp only [zVu] at vO<;>try (cases vO;done)
      simp only [Option.some.injEq,beq_iff_eq] at vO;subst vO
      refine ⟨h3.1.trans h5.1.symm,fun n=>?_⟩
      rw [h3.1];cases n<;>simp [Instr.sameBits]
    refine ⟨by rw [huv.1,ih1],fun x hx n=>?_⟩
    rcases List.mem_cons.1 hx with rfl | hx
    ·exact huv.2 n
    ·exact ih2 x hx n
theorem zRo {p q:PV} {x y:Value} {A A':Al} (hp:p.flat=true) (h:zGh p.cells q.cells=some true) (h1:Rep w Φ A p x []) (h2:Rep w Φ A' q y []) (ha:q.isAgg=p.isAgg):x=y∧Instr.sameBits 10000 x x=true:=by
 cases p<;>first | (cases hp;done) | skip
 case agg cs =>
  cases q<;>first | (cases ha;done) | skip
  rename_i ds
  obtain ⟨us,rfl,h3⟩:=h1
  obtain ⟨vs,rfl,h4⟩:=h2
  obtain ⟨k1,k2⟩:=zGH (A:=A) (A':=A') hp h h3 h4
  refine ⟨by rw [Array.toList_inj.1 k1],?_⟩
  simp only [Instr.sameBits,BEq.rfl,Bool.true_and,List.all_eq_true]
  intro z hz
  obtain ⟨j,hj⟩:=List.getElem?_of_mem hz
  obtain ⟨g1,g2⟩:=List.getElem?_zip_eq_some.1 hj
  rw [g1] at g2
  simp only [Option.some.injEq] at g2
  rw [← g2]
  exact k2 _ (List.mem_of_getElem? g1) _
 case int k n =>
  cases q<;>first | (cases ha;done) | skip
  all_goals
   obtain ⟨k1,k2⟩:=zGH (A:=A) (A':=A') (ps:=[.int k n]) rfl h ⟨_,[],[],[],rfl,rfl,h1,rfl,rfl⟩ ⟨_,[],[],[],rfl,rfl,h2,rfl,rfl⟩
   exact ⟨by simpa using k1,k2 _ (by simp) _⟩
 case bool b =>
  cases q<;>first | (cases ha;done) | skip
  all_goals
   obtain ⟨k1,k2⟩:=zGH (A:=A) (A':=A') (ps:=[.bool b]) rfl h ⟨_,[],[],[],rfl,rfl,h1,rfl,rfl⟩ ⟨_,[],[],[],rfl,rfl,h2,rfl,rfl⟩
   exact ⟨by simpa using k1,k2 _ (by simp) _⟩
theorem zTy {n:Nat} {t:TypeId} {p q:PV} {b:Bool} (h:eqT P n t p q=some b):q.isAgg=p.isAgg:=by
 cases n with
 | zero=>cases h
 | succ n =>
  simp only [eqT] at h
  split at h<;>first | rfl | (cases h;done)
theorem zLg {kt:TypeId} {key:PV}:∀ {es:List (PV×PV)} {i j:Nat},zEq P kt key es i=some (some j)→i≤j∧∃ k v,es[j-i]? = some (k,v)∧k.isAgg=key.isAgg
 | [],i,j,h=>by cases h
 | (k, v)::es,i,j,h=>by
  simp only [zEq] at h
  split at h
  ·rename_i he
   split at h
   ·simp only [Option.some.injEq] at h;subst h
    exact ⟨Nat.le_refl _,k,v,by simp,zTy he⟩
   ·cases h
  ·obtain ⟨h1,k',v',h2,h3⟩:=zLg h
   exact ⟨by omega,k',v',by rw [show j-i=(j-(i+1))+1 by omega];simpa using h2,h3⟩
  ·cases h
theorem zLo (S:St w0 U Φ0 nt hv a w e Φ rv E L) {r b:Nat} {pre:zAT} {mv:Value} {es es':List (PV×PV)} {ms ms':Array MapEntry} {root:PV} (hm:Rep w Φ (zA6 w rv E) (.bmap r pre) mv []) (hq:zAz (e.get r).unlock pre=some (.omap es)) (hmv:mv = .map (some b))
  (uH:w.heap[b]? = some (.map ms es.length)) (yF:(e.get r).isLock=false) (j4:zAr (fun _=>some (.omap es')) (e.get r) pre=some root) (hR:∀ w':World,(∀ c,Φ c→w'.heap[c]? = w.heap[c]?)→zD8 w' Φ es' ms'.toList 0) :
  Fr w0 U Φ0 nt hv a {w with heap:=w.heap.setIfInBounds b (.map ms' es'.length)} (e.set r root):=by
 obtain ⟨_,hr,_,hn⟩:=hm
 rw [← S.env r hr] at hq yF j4
 have yt:(E r).unlock=E r:=by cases hE:E r<;>first | rfl | (rw [hE] at yF;cases yF)
 rw [yt] at hq
 obtain ⟨kr,kt⟩:=zBL (q' := .omap es') rfl rfl j4
 obtain ⟨nv,Li,uV,hH,qh,u9,v3⟩:=S.conf.mod hr (f:=fun x=>x) (fun _ => .inl rfl) (pre:=pre) (q := .omap es) (by rw [zBg];exact yt) (by rw [zBg];exact hq)
 rw [zBg] at uV
 obtain ⟨b',ents,rfl,rfl,hh',_⟩:=hH
 have hbb:b'=b:=by
  have:=hn _ _ (by rw [yt];exact uV) es rfl
  rw [hmv] at this;cases this;rfl
 subst hbb
 have jC:b'∈L r:=u9 b' (by simp)
 have hnΦ:¬ Φ b':=(S.conf.own r b' jC).2.1
 obtain ⟨s1,s2⟩:=MapKept.heap_set (o' := .map ms' es'.length) uH
 have hG:∀ s,decide (zAd≤s)=true↔zAd≤s:=fun s=>decide_eq_true_iff
 obtain ⟨L',vT,hc⟩:=v3 (fun s=>decide (zAd≤s)) {w with heap:=w.heap.setIfInBounds b' (.map ms' es'.length)} (.omap es') root [b'] (fun s hs=>(hG s).1 hs) (fun _=>rfl) (by rw [zBg];exact j4) kr
  (fun A hA=>⟨b',ms',rfl,rfl,s1,hR _ fun c hc=>s2 c fun h=>hnΦ (h▸hc)⟩) (by simp) (fun c hc => .inl hc) (by simp)
  (fun c hc hci _=>s2 c (by simpa using hci)) (fun rest nv2 np2 hf hh=>by
   cases rest with
   | nil =>
    simp only [zAR,Option.some.injEq,Prod.mk.injEq] at hf
    obtain ⟨rfl,rfl⟩:=hf
    exact .inr ⟨_,rfl,trivial⟩
   | cons ic rest=>obtain ⟨i,c⟩:=ic;rw [zA4] at hf;cases hf) ⟨rfl,rfl,rfl⟩
 have hdec:∀ s,s<zAd→decide (zAd≤s)=false:=fun s hs=>decide_eq_false (by omega)
 refine ⟨_,_,_,_,S.turn (e':=e.set r root) hc (fun s hs=>?_) (fun s hs=>rfl) (fun d ps hd hp=>?_),fun g hg=>?_⟩
 ·rw [Env.get_set]
  by_cases yW:s=r
  ·subst yW;rw [if_pos rfl,if_pos rfl]
  ·rw [if_neg yW,if_neg yW,hdec s hs];simp only [Bool.false_eq_true,if_false,zBg];exact S.env s hs
 ·by_cases jt:d=r
  ·subst jt;rw [if_pos rfl] at hp;rw [hp] at kt;cases kt
  ·rw [if_neg jt,hdec d (by simp only [zAd];omega)] at hp
   simp only [Bool.false_eq_true,if_false,zBg] at hp
   exact ⟨ps,hp,rfl⟩
 ·rw [if_neg (by omega),(hG g).2 hg];rfl
theorem zD8.modify' {w':World} (hΦ:∀ c,Φ c→w'.heap[c]? = w.heap[c]?) {key v:PV} {kv vv:Value} (hk:Rep w Φ zCj key kv []) (hv:Rep w Φ zCj v vv []):∀ (es:List (PV×PV)) (ms:List MapEntry) (i j:Nat),zD8 w Φ es ms i→zD8 w' Φ (es.modify j fun _=>(key,v)) (ms.modify j fun m=>{m with key:=kv,val:=vv}) i
 | [],ms,i,j,h=>by simp only [zD8] at h;subst h;cases j<;>simp [zD8]
 | (k,p)::es,ms,i,0,h=>by
  obtain ⟨m,ms',rfl,hb,h1,h2,h3⟩:=h
  simp only [List.modify_zero_cons]
  exact ⟨_,_,rfl,hb,hk.mono (fun c hc=>⟨hc,hΦ c hc⟩) (fun _ _ _ h=>h) (by simp),hv.mono (fun c hc=>⟨hc,hΦ c hc⟩) (fun _ _ _ h=>h) (by simp),zD8.same (fun c hc=>⟨hc,hΦ c hc⟩) _ _ _ h3⟩
 | (k,p)::es,ms,i,j+1,h=>by
  obtain ⟨m,ms',rfl,hb,h1,h2,h3⟩:=h
  simp only [List.modify_succ_cons]
  exact ⟨_,_,rfl,hb,h1.mono (fun c hc=>⟨hc,hΦ c hc⟩) (fun _ _ _ h=>h) (by simp),h2.mono (fun c hc=>⟨hc,hΦ c hc⟩) (fun _ _ _ h=>h) (by simp),zD8.modify' hΦ hk hv es ms' (i+1) j h3⟩
theorem zD8.push' {w':World} (hΦ:∀ c,Φ c→w'.heap[c]? = w.heap[c]?) {key v:PV} {kv vv:Value} (hk:Rep w Φ zCj key kv []) (hv:Rep w Φ zCj v vv []):∀ (es:List (PV×PV)) (ms:List MapEntry) (i:Nat),zD8 w Φ es ms i→zD8 w' Φ (es++[(key,v)]) (ms++[{key:=kv,val:=vv,born:=i+es.length}]) i
 | [],ms,i,h=>by
  simp only [zD8] at h;subst h
  exact ⟨_,_,rfl,rfl,hk.mono (fun c hc=>⟨hc,hΦ c hc⟩) (fun _ _ _ h=>h) (by simp),hv.mono (fun c hc=>⟨hc,hΦ c hc⟩) (fun _ _ _ h=>h) (by simp),by simp [zD8]⟩
 | (k,p)::es,ms,i,h=>by
  obtain ⟨m,ms',rfl,hb,h1,h2,h3⟩:=h
  have ih:=zD8.push' hΦ hk hv es ms' (i+1) h3
  rw [show i+1+es.length=i+(es.length+1) by omega] at ih
  exact ⟨m,_,rfl,hb,h1.mono (fun c hc=>⟨hc,hΦ c hc⟩) (fun _ _ _ h=>h) (by simp),h2.mono (fun c hc=>⟨hc,hΦ c hc⟩) (fun _ _ _ h=>h) (by simp),ih⟩
theorem zLN {p:PV} (h:p.flat=true):p.lone=true:=by
 cases p<;>first | (cases h;done) | rfl | skip
 rename_i cs
 simp only [PV.flat,PV.lone,List.all_eq_true] at h ⊢
 intro q hq
 have:=h q hq
 cases q<;>first | (cases this;done) | rfl
theorem zQ5 (S:St w0 U Φ0 nt hv a w e Φ rv E L) {t kt el:TypeId} {key v m:PV} {mv kv vv:Value} (ht:P.underlying t=some (.map kt el)) (wg:zPh P 20 kt key=true) (hkf:key.flat=true) (hEv:E zAd=v) (hEm:E (zAd+1)=m) (hEk:E (zAd+2)=key) (j6:rv zAd=vv) (hrm:rv (zAd+1)=mv) (hrk:rv (zAd+2)=kv)
  (h:(zL4 P kt key v m).run o e=some e'):∃ w',(Instr.mapUpdate t mv kv vv).run P w = .ok () w'∧Fr w0 U Φ0 nt hv a w' e':=by
 have h0:=S.conf.rep zAd
 have h1:=S.conf.rep (zAd+1)
 have h2:=S.conf.rep (zAd+2)
 rw [hEv,j6] at h0
 rw [hEm,hrm] at h1
 rw [hEk,hrk] at h2
 cases m<;>simp only [zL4] at h<;>try (cases h;done)
 rename_i r pre
 obtain ⟨uw,h⟩:=zAU h
 obtain ⟨_,wB⟩:=zKG uw h0
 obtain ⟨jL,wG⟩:=zKG (zLN hkf) h2
 rw [jL] at h2
 have hL1:L (zAd+1)=[]:=h1.1
 rw [hL1] at h1
 obtain ⟨q,hq,h⟩:=zBU h
 cases q<;>simp only at h<;>try (cases h;done)
 rename_i es
 obtain ⟨_,b,ms,rfl,uH,hM⟩:=zPo S h1 hq
 cases hf:zEq P kt key es 0 with
 | none=>rw [hf] at h;cases h
 | some x =>
  rw [hf] at h
  have y9:=zKk wg h2 hf hM
  have qO:=zK5 (empty:=false) 20 10000 kt key kv (by decide) wg h2
  cases x with
  | none =>
   obtain ⟨root,yF,j4,h⟩:=zCl h
   simp only [PM.run,Option.some.injEq] at h;subst h
   have:=zLo S (ms':=ms.push {key:=kv,val:=vv,born:=es.length}) h1 hq rfl uH yF j4 (fun w' hw=>by
    have:=zD8.push' hw wG wB es ms.toList 0 hM
    simpa using this)
   refine ⟨_,?_,this⟩
   simp only [Option.bind_none] at y9
   simp [Instr.mapUpdate,run_underlying ht,MapKept.run_getObj_map uH,qO,y9,MapKept.run_setObj_map _ uH]
  | some i =>
   obtain ⟨root,yF,j4,h⟩:=zCl h
   simp only [PM.run,Option.some.injEq] at h;subst h
   obtain ⟨_,hi,k,v',m,h3,h4,h5,h6,h7,h8⟩:=(zDV h2 es ms.toList 0 (some i) hf hM).2 i rfl
   simp only [Nat.sub_zero] at h3 h4 hi
   obtain ⟨_,k',v'',h9,h10⟩:=zLg hf
   simp only [Nat.sub_zero] at h9
   rw [h3] at h9;cases h9
   obtain ⟨qN,vi⟩:=zRo hkf h5 h2 h6 h10
   have:=zLo S (ms':=ms.modify i fun m=>{m with key:=kv,val:=vv}) h1 hq rfl uH yF j4 (fun w' hw=>by
    have:=zD8.modify' hw wG wB es ms.toList 0 i hM
    simpa using this)
   refine ⟨_,?_,this⟩
   have qY:ms[i]? = some m:=by rw [← Array.getElem?_toList];exact h4
   simp only [Option.bind_some,h4,Option.map_some] at y9
   rw [qN] at vi qO y9 ⊢
   simp [Instr.mapUpdate,run_underlying ht,MapKept.run_getObj_map uH,qO,y9,qY,Instr.keyThatStays,vi,MapKept.run_setObj_map _ uH]
theorem zJB (S:St w0 U Φ0 nt hv a w e Φ rv E L) (hb:zBy E) {t:TypeId} {m x y:Operand} (hm:zAW nt m=true) (hx:zAW nt x=true) (hy:zAW nt y=true) (h:(zEP P t m x y).run o e=some e') :
  ∃ w',(Instr.mapUpdate t (a.eval m) (a.eval x) (a.eval y)).run P w = .ok () w'∧Fr w0 U Φ0 nt hv a w' e':=by
 obtain ⟨p,h1,hp⟩:=zBD S hm h
 obtain ⟨key,h2,hk⟩:=zBD S hx h1
 split at h2
 ·rename_i kt el ht
  obtain ⟨hc,h3⟩:=zAU h2
  simp only [Bool.and_eq_true] at hc
  have uh:=(zKG (zLN hc.2) hk).2
  have S1:=S.hold (g:=zAd+1) (by omega) hp
  have S2:=S1.hold (g:=zAd+2) (by omega) (uh.mono (A':=zA6 w (upd rv (zAd+1) (a.eval m)) (upd E (zAd+1) p)) zDf.refl (fun _ _ _ h=>h.elim) (by simp))
  obtain ⟨e1,rv1,E1,L1,h4,S3,h5,h6⟩:=zHB S2 hy (g:=zAd) (Nat.le_refl _) h3
  obtain ⟨e2,rv2,E2,h7,W⟩:=zP0 S3 (g:=zAd) (Nat.le_refl _) h4
  obtain ⟨Φ2,L2,S4⟩:=W.st
  obtain ⟨Φ3,L3,S5⟩:=S4.iced (g:=zAd) (Nat.le_refl _)
  obtain ⟨a1,a2,_⟩:=h6 (zAd+1) (by omega) (by omega)
  obtain ⟨b1,b2,_⟩:=h6 (zAd+2) (by omega) (by omega)
  obtain ⟨c1,c2⟩:=W.rest (zAd+1) (by omega) (by omega)
  obtain ⟨d1,d2⟩:=W.rest (zAd+2) (by omega) (by omega)
  refine zQ5 S5 (vv:=a.eval y) (mv:=a.eval m) (kv:=a.eval x) ht hc.1 hc.2 zAh ?_ ?_ ?_ ?_ ?_ h7
  ·rw [zAf (by omega),c1,a1,zAf (by omega),zAh]
  ·rw [zAf (by omega),d1,b1,zAh]
  ·rw [W.val,h5]
  ·rw [c2,a2,zAf (by omega),zAh]
  ·rw [d2,b2,zAh]
 ·cases h2
end
end Go.Eng
namespace Go.Eng
open Go
section
variable {w:World} {Φ:Nat→Prop} {rv:Nat→Value} {E:Nat→PV}
mutual
theorem zG0:∀ (p:PV) (v:Value) (L:List Nat),Rep w Φ (zA6 w rv E) p v L→∀ x∈p.ways,x.1<zAd
 | .agg cs,v,L,h,x,hx=>by obtain ⟨vs,_,h⟩:=h;exact zFj cs _ L h x hx
 | .tup cs,v,L,h,x,hx=>by obtain ⟨vs,_,h⟩:=h;exact zFj cs _ L h x hx
 | .ref q,v,L,h,x,hx=>by obtain ⟨_,a,c,u,_,_,_,_,_,_,h7⟩:=h;exact zG0 q u [] h7 x hx
 | .box q,v,L,h,x,hx=>by obtain ⟨a,c,u,L',_,_,_,_,_,_,h7⟩:=h;exact zG0 q u L' h7 x hx
 | .lock q,v,L,h,x,hx=>zG0 q v L h x hx
 | .func g a b,v,L,h,x,hx=>by
  obtain ⟨_,fs,cs,_,h2,h3⟩:=h
  simp only [PV.ways,List.mem_append] at hx
  rcases hx with hx | hx
  ·exact zFj a _ [] h2 x hx
  ·exact zFj b _ [] h3 x hx
 | .addr ..,v,L,h,x,hx=>by simp only [PV.ways,List.mem_singleton] at hx;subst hx;exact h.2.1
 | .bor ..,v,L,h,x,hx=>by simp only [PV.ways,List.mem_singleton] at hx;subst hx;exact h.2.1
 | .bsl ..,v,L,h,x,hx=>by simp only [PV.ways,List.mem_singleton] at hx;subst hx;exact h.2.1
 | .bmap ..,v,L,h,x,hx=>by simp only [PV.ways,List.mem_singleton] at hx;subst hx;exact h.2.1
 | .yld _,v,L,h,x,hx=>by cases hx
 | .log ..,v,L,h,x,hx=>h.2.elim
 | .bad,_,_,_,x,hx=>by cases hx
 | .und,_,_,_,x,hx=>by cases hx
 | .int ..,_,_,_,x,hx=>by cases hx
 | .bool _,_,_,_,x,hx=>by cases hx
 | .nilp,_,_,_,x,hx=>by cases hx
 | .nilf,_,_,_,x,hx=>by cases hx
 | .nilm,_,_,_,x,hx=>by cases hx
 | .nn,_,_,_,x,hx=>by cases hx
 | .nils _,_,_,_,x,hx=>by cases hx
 | .sl _,_,_,_,x,hx=>by cases hx
 | .own ..,_,_,_,x,hx=>by cases hx
 | .map _,_,_,_,x,hx=>by cases hx
 | .omap _,_,_,_,x,hx=>by cases hx
theorem zFj:∀ (ps:List PV) (vs:List Value) (L:List Nat),zA1 w Φ (zA6 w rv E) ps vs L→∀ x∈zBB ps,x.1<zAd
 | [],_,_,_,x,hx=>by cases hx
 | p::ps,vs,L,h,x,hx=>by
  obtain ⟨v,vs',L1,L2,_,_,h1,h2⟩:=h
  simp only [zBB,List.mem_append] at hx
  rcases hx with hx | hx
  ·exact zG0 p v L1 h1 x hx
  ·exact zFj ps vs' L2 h2 x hx
end
theorem zUA {w:World} {rv rv':Nat→Value} {E E':Nat→PV} (h:∀ s,s<zAd→E' s=E s∧rv' s=rv s) {a:PV} {v:Value} (ha:zA6 w rv E a v):zA6 w rv' E' a v:=by
 obtain ⟨h1,h2⟩:=h _ (zCP ha)
 exact ha.mono fun nv np hn hh=>⟨np,by rw [h1,h2] at hn;exact hn,zCd.refl hh⟩
end
section
variable {P:Program} {w0 w:World} {U Φ0 Φ:Nat→Prop} {nt:Nat} {hv:Hid} {a:Act} {e e':Env} {rv:Nat→Value} {E:Nat→PV} {L:Nat→List Nat} {o:zAL}
theorem zLa:∀ (ps:List PV) (vs:List Value) (i:Nat) {rv:Nat→Value} {E:Nat→PV} {L:Nat→List Nat},St w0 U Φ0 nt hv a w e Φ rv E L→zA1 w Φ (zA6 w rv E) ps vs [] →
  ∃ rv1 E1 L1,St w0 U Φ0 nt hv a w e Φ rv1 E1 L1∧(∀ s,s<zAd→E1 s=E s∧rv1 s=rv s)∧(∀ (j:Nat) (p:PV) (v:Value),ps[j]? = some p→vs[j]? = some v→E1 (zAd+i+j)=p∧rv1 (zAd+i+j)=v∧L1 (zAd+i+j)=[]) ∧
   ∀ s,zAd≤s→(s<zAd+i∨zAd+i+ps.length≤s)→E1 s=E s∧rv1 s=rv s∧L1 s=L s
 | [],vs,i,rv,E,L,S,h=>⟨rv,E,L,S,fun _ _=>⟨rfl,rfl⟩,by simp,fun _ _ _=>⟨rfl,rfl,rfl⟩⟩
 | p :: ps,vs,i,rv,E,L,S,h=>by
  obtain ⟨v,vs',L1,L2,rfl,hL,h1,h2⟩:=h
  obtain ⟨rfl,rfl⟩:L1=[]∧L2=[]:=by simpa using hL.symm
  have S1:=S.hold (g:=zAd+i) (by omega) h1
  have yk:∀ s,s<zAd→upd E (zAd+i) p s=E s∧upd rv (zAd+i) v s=rv s:=fun s hs=>⟨zAf (by omega),zAf (by omega)⟩
  obtain ⟨rv1,E1,L1,S2,h3,h4,h5⟩:=zLa ps vs' (i+1) S1 (h2.mono zDf.refl (fun _ _ _ ha=>zUA yk ha) (fun _ _=>rfl))
  refine ⟨rv1,E1,L1,S2,fun s hs=>⟨(h3 s hs).1.trans (yk s hs).1,(h3 s hs).2.trans (yk s hs).2⟩,fun j q u hq hu=>?_,fun s hs jj=>?_⟩
  ·cases j with
   | zero =>
    simp at hq hu;subst hq;subst hu
    obtain ⟨k1,k2,k3⟩:=h5 (zAd+i) (by omega) (.inl (by omega))
    simp only [Nat.add_zero]
    rw [k1,k2,k3,zAh,zAh,zAh];exact ⟨rfl,rfl,rfl⟩
   | succ j =>
    have:=h4 j q u (by simpa using hq) (by simpa using hu)
    rwa [show zAd+i+(j+1)=zAd+(i+1)+j by omega]
  ·obtain ⟨k1,k2,k3⟩:=h5 s hs (by simp at jj;omega)
   have hI:s≠zAd+i:=by simp at jj;omega
   rw [k1,k2,k3,zAf hI,zAf hI,zAf hI];exact ⟨rfl,rfl,rfl⟩
structure Handed (rv1:Nat→Value) (E1:Nat→PV) (L1:Nat→List Nat) (i:Nat) (bs:List (Bool×PV)):Prop where
 at_:∀ (j:Nat) (b:Bool×PV),bs[j]? = some b→E1 (zAd+i+j)=b.2∧(b.1=true→b.2.ways=[])∧(b.1=false→L1 (zAd+i+j)=[])
theorem zGi:∀ (ps:List PV) (ms:List Nat) (i:Nat) {k:List (Bool×PV)→PM} {e:Env} {Φ:Nat→Prop} {rv:Nat→Value} {E:Nat→PV} {L:Nat→List Nat},St w0 U Φ0 nt hv a w e Φ rv E L →
  (∀ (j:Nat) (p:PV),ps[j]? = some p→E (zAd+i+j)=p∧L (zAd+i+j)=[])→(zDO ms ps k).run o e=some e' →
  ∃ e1 rv1 E1 L1 bs,(k bs).run o e1=some e'∧St w0 U Φ0 nt hv a w e1 Φ rv1 E1 L1∧bs.length=ps.length∧Handed rv1 E1 L1 i bs∧(∀ s,rv1 s=rv s)∧(∀ s,zAd≤s→(s<zAd+i∨zAd+i+ps.length≤s)→E1 s=E s∧L1 s=L s)
 | [],ms,i,k,e,Φ,rv,E,L,S,hp,h=>⟨e,rv,E,L,[],by simpa [zDO] using h,S,rfl,⟨by simp⟩,fun _=>rfl,fun _ _ _=>⟨rfl,rfl⟩⟩
 | p :: ps,ms,i,k,e,Φ,rv,E,L,S,hp,h=>by
  obtain ⟨hE,hL⟩:=hp 0 p rfl
  simp only [Nat.add_zero] at hE hL
  have plain:(zDO ms.tail ps fun as=>k ((false,p)::as)).run o e=some e'→∃ e1 rv1 E1 L1 bs,(k bs).run o e1=some e'∧St w0 U Φ0 nt hv a w e1 Φ rv1 E1 L1∧bs.length=(p::ps).length∧Handed rv1 E1 L1 i bs∧(∀ s,rv1 s=rv s) ∧
    (∀ s,zAd≤s→(s<zAd+i∨zAd+i+(p::ps).length≤s)→E1 s=E s∧L1 s=L s):=by
   intro h
   obtain ⟨e1,rv1,E1,L1,bs,h1,S1,h2,h3,h4,h5⟩:=zGi ps ms.tail (i+1) S (fun j q hq=>by
    rw [show zAd+(i+1)+j=zAd+i+(j+1) by omega];exact hp (j+1) q (by simpa using hq)) h
   refine ⟨e1,rv1,E1,L1,(false,p)::bs,h1,S1,by simp [h2],⟨fun j b hb=>?_⟩,h4,fun s hs jj=>h5 s hs (by simp at jj;omega)⟩
   cases j with
   | zero =>
    simp at hb;subst hb
    obtain ⟨k1,k2⟩:=h5 (zAd+i) (by omega) (.inl (by omega))
    simp only [Nat.add_zero]
    exact ⟨k1.trans hE,by simp,fun _=>k2.trans hL⟩
   | succ j =>
    have:=h3.at_ j b (by simpa using hb)
    rwa [show zAd+(i+1)+j=zAd+i+(j+1) by omega] at this
  simp only [zDO] at h
  split at h
  ·rename_i r pre z n _
   obtain ⟨q,hq,h1⟩:=zBU h
   split at h1
   ·rename_i sz xs
    obtain ⟨yI,h2⟩:=zAU h1
    have yI:=Nat.le_of_ble_eq_true yI
    obtain ⟨root,hl,hm,h3⟩:=zCl h2
    have hH:=S.conf.rep (zAd+i)
    rw [hE] at hH
    obtain ⟨_,hr,_,hn⟩:=hH
    have yF:=zBE hl
    rw [yF,← S.env r hr] at hq
    rw [← S.env r hr] at yF hm
    obtain ⟨kk1,kk2⟩:=zBL (q' := .bad) rfl rfl hm
    obtain ⟨nv,Li,g1,g2,g3,g4,g5⟩:=S.taken (g:=zAd+i) (by omega) hr yF hq rfl hm kk1 kk2
    have j8:zBW (rv (zAd+i)) nv sz 0 n:=by
     obtain ⟨s2,xs2,q1,q2,q3⟩:=hn nv _ (by rw [yF];exact g1) rfl
     cases q1;subst q2;exact q3
    obtain ⟨Lg,p1,p2,p3⟩:=zIn g2 (by omega) j8
    obtain ⟨L',S1,vT⟩:=g5 _ (rv (zAd+i)) Lg p1 (p3 g3) (fun b hb => .inl (p2 b hb))
    have j6:∀ s,upd rv (zAd+i) (rv (zAd+i)) s=rv s:=fun s=>by
     by_cases hs:s=zAd+i
     ·subst hs;rw [zAh]
     ·rw [zAf hs]
    have uq:∀ s,zAd≤s→s≠zAd+i→upd (upd E r root) (zAd+i) (PV.own sz ((xs.drop 0).take n)) s=E s∧L' s=L s:=fun s hs hI=>⟨by rw [zAf hI,zAf (by omega)],vT s hs hI⟩
    obtain ⟨e1,rv1,E1,L1,bs,h4,S2,h5,h6,h7,h8⟩:=zGi ps ms.tail (i+1) S1 (fun j q hq=>by
     obtain ⟨k1,k2⟩:=uq (zAd+(i+1)+j) (by omega) (by omega)
     rw [k1,k2,show zAd+(i+1)+j=zAd+i+(j+1) by omega];exact hp (j+1) q (by simpa using hq)) h3
    refine ⟨e1,rv1,E1,L1,_::bs,h4,S2,by simp [h5],⟨fun j b hb=>?_⟩,fun s=>(h7 s).trans (j6 s),fun s hs jj=>?_⟩
    ·cases j with
     | zero =>
      simp only [List.getElem?_cons_zero,Option.some.injEq] at hb;subst hb
      obtain ⟨k1,k2⟩:=h8 (zAd+i) (by omega) (.inl (by omega))
      simp only [Nat.add_zero]
      exact ⟨by rw [k1,zAh],fun _=>rfl,fun h=>by cases h⟩
     | succ j =>
      have:=h6.at_ j b (by simpa using hb)
      rwa [show zAd+(i+1)+j=zAd+i+(j+1) by omega] at this
    ·obtain ⟨k1,k2⟩:=h8 s hs (by simp at jj;omega)
     obtain ⟨k3,k4⟩:=uq s hs (by simp at jj;omega)
     exact ⟨k1.trans k3,k2.trans k4⟩
   ·cases h1
  ·exact plain h
theorem zHP (S:St w0 U Φ0 nt hv a w e Φ rv E L):∀ (bs:List (Bool×PV)) (ms:List Nat) (i:Nat) {k:List Arg→PM},Handed rv E L i bs→(zCm ms bs k).run o e=some e' →
  ∃ as,(k as).run o e=some e'∧as.length=bs.length∧∀ (j:Nat) (x:Arg),as[j]? = some x→zM9 w Φ rv E (i+j) x
 | [],ms,i,k,hb,h=>⟨[],by simpa [zCm] using h,rfl,by simp⟩
 | (m, p)::bs,ms,i,k,hb,h=>by
  obtain ⟨h1,h2,h3⟩:=hb.at_ 0 (m,p) rfl
  simp only [Nat.add_zero] at h1 h2 h3
  have kj:Handed rv E L (i+1) bs:=⟨fun j b hj=>by
   rw [show zAd+(i+1)+j=zAd+i+(j+1) by omega];exact hb.at_ (j+1) b (by simpa using hj)⟩
  have fin:∀ x,zM9 w Φ rv E i x→(zCm ms.tail bs fun as=>k (x::as)).run o e=some e'→∃ as,(k as).run o e=some e'∧as.length=((m,p)::bs).length∧∀ (j:Nat) (x:Arg),as[j]? = some x→zM9 w Φ rv E (i+j) x:=by
   intro x hx h
   obtain ⟨as,g1,g2,g3⟩:=zHP S bs ms.tail (i+1) kj h
   refine ⟨x::as,g1,by simp [g2],fun j y hy=>?_⟩
   cases j with
   | zero=>simp at hy;subst hy;exact hx
   | succ j=>rw [show i+(j+1)=i+1+j by omega];exact g3 j y (by simpa using hy)
  cases m with
  | true=>exact fin _ ⟨by simp,.inr (.inl ⟨rfl,h1.symm,by rw [h1];exact h2 rfl⟩)⟩ h
  | false =>
   simp only [zCm] at h
   revert h
   cases Nat.beq (ms.headD 0) 1 with
   | true=>exact fun h=>fin _ ⟨by simp,.inl ⟨rfl,h1.symm⟩⟩ h
   | false =>
    intro h
    simp only [cond_false] at h
    have hH:=S.conf.rep (zAd+i)
    rw [h1,h3 rfl] at hH
    obtain ⟨q,l,g1,g2,g3⟩:=zN7 S hH h
    exact fin _ ⟨g2,.inr (.inr ⟨rfl,fun Φ1 k1 k2=>g3 Φ1 k1 k2 (by simp)⟩)⟩ g1
theorem zJL:∀ (bs:List (Bool×PV)) (ms:List Nat) (i:Nat) {k:List Arg→PM} {e:Env} {Φ:Nat→Prop} {E:Nat→PV} {L:Nat→List Nat},St w0 U Φ0 nt hv a w e Φ rv E L→Handed rv E L i bs→(zDX ms bs k).run o e=some e' →
  ∃ as e1 Φ1 E1 L1,(k as).run o e1=some e'∧St w0 U Φ0 nt hv a w e1 Φ1 rv E1 L1∧as.length=bs.length∧(∀ (j:Nat) (x:Arg),as[j]? = some x→zM9 w Φ1 rv E1 (i+j) x)∧∀ s,zAd≤s→s<zAd+i→E1 s=E s
 | [],ms,i,k,e,Φ,E,L,S,hb,h=>⟨[],e,Φ,E,L,by simpa [zDX] using h,S,rfl,by simp,fun _ _ _=>rfl⟩
 | (m, p)::bs,ms,i,k,e,Φ,E,L,S,hb,h=>by
  obtain ⟨h1,h2,h3⟩:=hb.at_ 0 (m,p) rfl
  simp only [Nat.add_zero] at h1 h2 h3
  have kj:Handed rv E L (i+1) bs:=⟨fun j b hj=>by
   rw [show zAd+(i+1)+j=zAd+i+(j+1) by omega];exact hb.at_ (j+1) b (by simpa using hj)⟩
  have fin:∀ {e:Env} {Φ:Nat→Prop} {E2:Nat→PV} {L2:Nat→List Nat} (x:Arg),St w0 U Φ0 nt hv a w e Φ rv E2 L2→Handed rv E2 L2 (i+1) bs→(∀ s,zAd≤s→s<zAd+i→E2 s=E s)→(∀ (Φ1:Nat→Prop) (E1:Nat→PV),E1 (zAd+i)=E2 (zAd+i)→zM9 w Φ1 rv E1 i x) →
    (zDX ms.tail bs fun as=>k (x::as)).run o e=some e'→∃ as e1 Φ1 E1 L1,(k as).run o e1=some e'∧St w0 U Φ0 nt hv a w e1 Φ1 rv E1 L1∧as.length=((m,p)::bs).length∧(∀ (j:Nat) (x:Arg),as[j]? = some x→zM9 w Φ1 rv E1 (i+j) x)∧∀ s,zAd≤s→s<zAd+i→E1 s=E s:=by
   intro e Φ E2 L2 x S hh hE hx h
   obtain ⟨as,e1,Φ1,E1,L1,g1,S1,g2,g3,g4⟩:=zJL bs ms.tail (i+1) S hh h
   refine ⟨x::as,e1,Φ1,E1,L1,g1,S1,by simp [g2],fun j y hy=>?_,fun s hs yK=>(g4 s hs (by omega)).trans (hE s hs yK)⟩
   cases j with
   | zero=>simp at hy;subst hy;exact hx Φ1 E1 (g4 _ (by omega) (by omega))
   | succ j=>rw [show i+(j+1)=i+1+j by omega];exact g3 j y (by simpa using hy)
  cases m with
  | true=>exact fin _ S kj (fun _ _ _=>rfl) (fun Φ1 E1 he=>⟨by simp,.inr (.inl ⟨rfl,by rw [he,h1],by rw [he,h1];exact h2 rfl⟩)⟩) h
  | false =>
   simp only [zDX] at h
   revert h
   cases Nat.beq (ms.headD 0) 1 with
   | true=>exact fun h=>fin _ S kj (fun _ _ _=>rfl) (fun Φ1 E1 he=>⟨by simp,.inl ⟨rfl,by rw [he,h1]⟩⟩) h
   | false =>
    intro h
    simp only [cond_false] at h
    rw [← h1] at h
    obtain ⟨e1,Φ1,E1,L1,g1,S1,g2,g3,g4,g5,_,_⟩:=zIU (g:=zAd+i) (by omega) (Nat.le_refl _) zDG S h
    have hw:(E1 (zAd+i)).ways=[]:=by
     have yk:=zG0 _ _ _ (S1.conf.rep (zAd+i))
     cases hw:(E1 (zAd+i)).ways with
     | nil=>rfl
     | cons x xs =>
      have k1:=yk x (by rw [hw];simp)
      have k2:=g5 x (by rw [hw];simp)
      omega
    refine fin _ S1 ⟨fun j b hj=>?_⟩ (fun s hs yK=>g3 s hs (by omega)) (fun Φ1 E1' he=>⟨by simp,.inr (.inl ⟨rfl,he.symm,by rw [he];exact hw⟩)⟩) g1
    rw [g3 _ (by omega) (by omega),g4 _ (by omega)]
    exact kj.at_ j b hj
variable {H:zBk}
theorem zSz (yx:zF3 P o) (S:St w0 U Φ0 nt hv a w e Φ rv E L) {d:Option Nat} (hd:∀ x,d=some x→x<nt) {f:FuncId} {ps:List PV} {vs:Array Value} (hr:zA1 w Φ (zA6 w rv E) ps vs.toList [])
  (h:(zMU H d f ps).run o e=some e'):zCL P f∧Calls P f vs w fun en w''=>∃ u,en = .returned u∧Fr w0 U Φ0 nt hv (a.put d u) w'' e':=by
 have hO:=hr.length
 obtain ⟨rv1,E1,L1,S1,_,h2,_⟩:=zLa ps vs.toList 0 S hr
 have hpv:∀ (j:Nat) (p:PV),ps[j]? = some p→∃ v,vs.toList[j]? = some v:=fun j p hj=>by
  have:j<ps.length:=(List.getElem?_eq_some_iff.1 hj).1
  exact ⟨_,List.getElem?_eq_getElem (by omega)⟩
 simp only [zMU] at h
 obtain ⟨e2,rv2,E2,L2,bs,h3,S2,h4,h5,h6,_⟩:=zGi ps (H f).mode 0 S1 (fun j p hj=>by
  obtain ⟨v,yB⟩:=hpv j p hj
  have:=h2 j p v hj yB
  exact ⟨this.1,this.2.2⟩) h
 have yg:∀ i,i<bs.length→vs[i]? = some (rv2 (zAd+i)):=by
  intro i hi
  obtain ⟨p,hp⟩:∃ p,ps[i]? = some p:=⟨_,List.getElem?_eq_getElem (by omega)⟩
  obtain ⟨v,yB⟩:=hpv i p hp
  have:=h2 i p v hp yB
  simp only [Nat.add_zero] at this
  rw [h6,this.2.1]
  simpa using yB
 have hvsz:vs.size=bs.length:=by rw [h4,← hO];simp
 obtain ⟨as,g1,g2,g3⟩:=zHP S2 bs (H f).mode 0 h5 h3
 rcases zOm yx S2 hd (vs:=vs) (by rw [hvsz,g2]) (fun i hi=>yg i (by omega)) (fun i x hx=>by simpa using g3 i x hx) g1 with h7 | h7
 ·obtain ⟨as',e3,Φ3,E3,L3,k1,S3,k2,k3,_⟩:=zJL bs (H f).mode 0 S2 h5 h7
  rcases zOm yx S3 hd (vs:=vs) (by rw [hvsz,k2]) (fun i hi=>yg i (by omega)) (fun i x hx=>by simpa using k3 i x hx) k1 with h8 | h8
  ·cases h8
  ·exact h8
 ·exact h7
end
end Go.Eng
namespace Go.Eng
open Go
def zSQ (P:Program) (o:Oper) (a:Act) (w:World) (K:Act→World→Prop):Prop :=
 match (execOp a.eval o).run P w with
 | .ok (.value v) w'=>K (a.put o.dst v) w'
 | .ok .skip w'=>K (a.put o.dst undef) w'
 | .ok (.enter f args) w'=>Calls P f args w' fun en w''=>∃ u,en = .returned u∧K (a.put o.dst u) w''
 | _=>False
def zPK:Op→Bool
 | .defer _=>true
 | _=>false
theorem zTs {P:Program} {o:Oper} {a:Act} {w:World} {K:Act→World→Prop} {n:Nat} {ro:Option Nat} {Q:Exit→Act→World→Prop} (hd:zPK o.op=false) (h:zSQ P o a w K):o.wpIn {Fence.wide with round:=ro} n P a w K Q:=by
 refine ⟨fun _ _=>trivial,?_⟩
 rw [Oper.semAt_eq ro a.eval o (fun c hc=>by rw [hc] at hd;cases hd)]
 simp only [zSQ] at h
 split at h
 ·rename_i v w' hr;rw [hr];exact h
 ·rename_i w' hr;rw [hr];exact h
 ·rename_i f args w' hr
  rw [hr]
  refine ⟨fun h=>(by cases h),?_⟩
  have h1:CallsIn Fence.wide (n-1) P f args w' _:=callsIn_wide.2 h
  refine CallsIn.mono (F:={Fence.wide with round:=ro}) ?_ (R:=fun en w''=>∃ u,en = .returned u∧K (a.put o.dst u) w'') (fun en w'' um=>?_)
  ·exact h1
  ·obtain ⟨u,rfl,hk⟩:=um;exact hk
 ·exact h.elim
def zP2 (P:Program) (nt:Nat):Oper→Bool:=fun o =>
 (match o.dst with | some d=>Nat.blt d nt | none=>true) &&
 match o.op with
 | .move x | .assign x | .nilCheck x | .unOp _ _ x | .box _ x | .load _ x | .fieldAddr _ x _ | .field _ x _=>zAW nt x
 | .pick c a b=>zAW nt c&&zAW nt a&&zAW nt b
 | .alloc _=>true
 | .build _ ps | .buildSlice _ _ ps=>ps.toList.all fun x=>zAW nt x.2
 | .store _ a x=>o.dst.isNone&&zAW nt a&&zAW nt x
 | .binOp _ _ x y _=>zAW nt x&&zAW nt y
 | .convert s _ x=>(P.underlying s).isSome&&zAW nt x
 | .makeFunc _ fs cs=>fs.toList.all (zAW nt)&&cs.toList.all (zAW nt)
 | .makeMap _ _=>true
 | .makeSlice _ l c=>zAW nt l&&zAW nt c
 | .slice _ x lo hi mx=>zAW nt x&&(match lo with | some y=>zAW nt y | none=>true)&&(match hi with | some y=>zAW nt y | none=>true)&&(match mx with | some y=>zAW nt y | none=>true)
 | .indexAddr _ x i | .index _ x i=>zAW nt x&&zAW nt i
 | .lookup _ m x _=>zAW nt m&&zAW nt x
 | .mapUpdate _ m x y=>o.dst.isNone&&zAW nt m&&zAW nt x&&zAW nt y
 | .panic _ | .makeInterface .. => true
 | .extract (.tmp s) _=>Nat.blt s nt
 | .call c=>c.args.toList.all (zAW nt)&&(match c.callee with
  | .builtin b=>match b with
   | .append | .copy=>Nat.beq c.argTypes.size 2
   | .len | .max | .min=>true
   | .clear=>Nat.blt 0 c.argTypes.size
   | _=>false
  | .value f=>zAW nt f
  | _=>false)
 | _=>false
def zEB (P : Program) : Prop := ∀ (f : FuncId) (fn : Func), P.funcs[f]? = some fn → (fn.name == "runtime.NumGoroutine") = false
section
variable {P:Program} {H:zBk} {w0 w:World} {U Φ0 Φ:Nat→Prop} {nt:Nat} {hv:Hid} {a:Act} {e e':Env} {rv:Nat→Value} {E:Nat→PV} {L:Nat→List Nat} {orc:zAL}
theorem zAO {o:Oper} {K:Act→World→Prop} {v:Value} {w':World} (h:(execOp a.eval o).run P w = .ok (.value v) w') (hk:K (a.put o.dst v) w'):zSQ P o a w K:=by
 simp only [zSQ,h];exact hk
theorem zUG (yx:zF3 P orc) (hnm:zEB P) (S:St w0 U Φ0 nt hv a w e Φ rv E L) (hb:zBy E) {o:Oper} (yD:zP2 P nt o=true) {fz tk nl:Bool} (h:(opM P H fz tk nl o).run orc e=some e') :
    zSQ P o a w fun a' w'=>Fr w0 U Φ0 nt hv a' w' e':=by
  obtain ⟨dst,op,type,pos,after,guard⟩:=o
  simp only [zP2,Bool.and_eq_true] at yD
  obtain ⟨hd0,yD⟩:=yD
  have hd:∀ x,dst=some x→x<nt:=by
    intro x hx;subst hx;exact zB2 hd0
  have all:∀ {xs:List Operand},xs.all (zAW nt)=true→∀ x∈xs,zAW nt x=true:=fun h=>List.all_eq_true.1 h
  cases op<;>simp only [opM] at h<;>try (cases h;done)
  case move x=>exact zAO (by simp [execOp]) (zTN S hb hd yD h)
  case assign x=>exact zAO (by simp [execOp]) (zQe S hb hd yD h)
  case pick c x y =>
    simp only [Bool.and_eq_true] at yD
    obtain ⟨t,h1,h2⟩:=zTT S hb hd yD.1.1 yD.1.2 yD.2 h
    exact zAO (by simp [execOp,asBool,h1]) h2
  case alloc t =>
    obtain ⟨v,w',h1,h2⟩:=zSx S hb hd h
    exact zAO (by simp [execOp,h1]) h2
  case box t x =>
    obtain ⟨v,w',h1,h2⟩:=zUw S hb hd yD h
    exact zAO (by simp [execOp,h1]) h2
  case build t ps =>
    obtain ⟨v,h1,h2⟩:=zSF S hb hd (List.all_eq_true.1 yD) h
    exact zAO (by simp only [execOp,Sem.run_bind,h1,Result.andThen_ok,Sem.run_pure]) h2
  case buildSlice t n ps =>
    obtain ⟨v,w',h1,h2⟩:=zKx S hb hd (List.all_eq_true.1 yD) h
    exact zAO (by simp only [execOp,Sem.run_bind,h1,Result.andThen_ok,Sem.run_pure]) h2
  case load t x =>
    obtain ⟨v,h1,h2⟩:=zQu S hb hd yD h
    exact zAO (by simp [execOp,h1]) h2
  case store t x y =>
    simp only [Bool.and_eq_true,Option.isNone_iff_eq_none] at yD
    obtain ⟨⟨rfl,hx⟩,hy⟩:=yD
    obtain ⟨w',h1,h2⟩:=zRy S hb hx hy h
    simp only [zSQ,execOp,Sem.run_bind,h1,Result.andThen_ok,Sem.run_pure,Act.put]
    exact h2
  case nilCheck x =>
    obtain ⟨h1,h2⟩:=zUW S hb hd yD h
    refine zAO (v:=a.eval x) (w':=w) ?_ h2
    simp only [execOp]
    revert h1
    generalize a.eval x=v
    intro h1
    split<;>first | (exact h1.elim) | rfl
  case binOp op t x y ty =>
    simp only [Bool.and_eq_true] at yD
    obtain ⟨v,h1,h2⟩:=zUV S hb hd yD.1 yD.2 h
    exact zAO (by simp only [execOp,Sem.run_bind] at h1 ⊢;simp only [h1];rfl) h2
  case unOp op t x =>
    obtain ⟨v,h1,h2⟩:=zVL (P:=P) S hb hd yD h
    exact zAO (by simp [execOp,h1]) h2
  case convert s t x =>
    simp only [Bool.and_eq_true] at yD
    obtain ⟨v,h1,h2⟩:=zTZ S hb hd yD.1 yD.2 h
    exact zAO (by simp [execOp,h1]) h2
  case makeFunc f fs cs =>
    simp only [Bool.and_eq_true] at yD
    cases f<;>try (cases h;done)
    exact zAO (by simp [execOp,Instr.makeFunc]) (zTw S hb hd (all yD.1) (all yD.2) h)
  case makeMap t r =>
    cases r with
    | some r=>cases h
    | none =>
      obtain ⟨v,w',h1,h2⟩:=zOS (P:=P) (t:=t) S hb hd h
      exact zAO (by simp [execOp,h1]) h2
  case makeSlice t l c =>
    simp only [Bool.and_eq_true] at yD
    obtain ⟨v,w',h1,h2⟩:=zLZ S hb hd yD.1 yD.2 h
    exact zAO (by simp [execOp,h1]) h2
  case slice t x lo hi mx =>
    simp only [Bool.and_eq_true] at yD
    obtain ⟨v,h1,h2⟩:=zRL S hb hd yD.1.1.1 (fun y hy=>by subst hy;exact yD.1.1.2) (fun y hy=>by subst hy;exact yD.1.2) (fun y hy=>by subst hy;exact yD.2) h
    exact zAO (by simp [execOp,h1]) h2
  case fieldAddr t x i =>
    obtain ⟨v,h1,h2⟩:=zLW S hb hd yD h
    exact zAO (by simp [execOp,h1]) h2
  case field t x i =>
    obtain ⟨v,h1,h2⟩:=zRp S hb hd yD h
    exact zAO (by simp [execOp,h1]) h2
  case indexAddr t x i =>
    simp only [Bool.and_eq_true] at yD
    obtain ⟨v,h1,h2⟩:=zL2 S hb hd yD.1 yD.2 h
    exact zAO (by simp [execOp,h1]) h2
  case index t x i =>
    simp only [Bool.and_eq_true] at yD
    obtain ⟨v,h1,h2⟩:=zRK S hb hd yD.1 yD.2 h
    exact zAO (by simp [execOp,h1]) h2
  case lookup t m x ok =>
    simp only [Bool.and_eq_true] at yD
    obtain ⟨v,h1,h2⟩:=zQO S hb hd yD.1 yD.2 h
    exact zAO (by simp [execOp,h1]) h2
  case mapUpdate t m x y =>
    simp only [Bool.and_eq_true,Option.isNone_iff_eq_none] at yD
    obtain ⟨⟨⟨rfl,hm⟩,hx⟩,hy⟩:=yD
    obtain ⟨w',h1,h2⟩:=zJB S hb hm hx hy h
    simp only [zSQ,execOp,Sem.run_bind,h1,Result.andThen_ok,Sem.run_pure,Act.put]
    exact h2
  case extract x i =>
    cases x<;>try (cases h;done)
    obtain ⟨v,h1,h2⟩:=zOx (P:=P) S hb hd (zB2 yD) h
    exact zAO (by simp [execOp,h1]) h2
  case call c =>
    simp only [Bool.and_eq_true] at yD
    obtain ⟨yG,yn⟩:=yD
    obtain ⟨callee,args,argTypes⟩:=c
    replace yG:∀ x∈args.toList,zAW nt x=true:=List.all_eq_true.1 yG
    simp only [zJJ] at h
    cases callee with
    | invoke r m=>cases h
    | value f =>
      simp only at h yn yG
      obtain ⟨g,h1,hg⟩:=zBD S yn h
      cases g<;>simp only [zR4] at h1<;>try (cases h1;done)
      case func g fs cs =>
        obtain ⟨ps,h2,y6⟩:=zHt S yG h1
        obtain ⟨_,us,vs,hgv,wC,yg⟩:=hg
        have hr:zA1 w Φ (zA6 w rv E) (fs++ps++cs) (us++args.map a.eval++vs).toList []:=by
          have:=(wC.append y6).append yg
          simpa using this
        obtain ⟨⟨fn,jx,yP⟩,kH⟩:=zSz yx S hd hr h2
        have hX:(execOp a.eval ⟨dst,.call ⟨.value f,args,argTypes⟩,type,pos,after,guard⟩).run P w = .ok (.enter g (us++args.map a.eval++vs)) w:=by
          have hn:=hnm g fn jx
          have wD:¬ fn.body=none:=by intro hb;rw [hb] at yP;cases yP
          have v5 : ¬ fn.name = "runtime.NumGoroutine" := by simpa using hn
          simp [execOp,Go.resolve,hgv,Deferred.ofValue,invoke,callFunc,jx,wD,v5]
        simp only [zSQ,hX]
        exact kH
    | builtin b =>
      simp only at h yn yG
      have hX:∀ v w',(builtin b argTypes type (args.map fun | .const _=>true | _=>false) (args.map a.eval)).run P w = .ok (.value v) w'→(execOp a.eval ⟨dst,.call ⟨.builtin b,args,argTypes⟩,type,pos,after,guard⟩).run P w = .ok (.value v) w':=by
        intro v w' hr
        simp only [execOp,Go.resolve,Sem.run_bind,Sem.run_pure,Result.andThen_ok,invoke]
        exact hr
      cases b<;>simp only at yn<;>try (cases yn;done)
      case len =>
        obtain ⟨v,h1,h2⟩:=zU5 (ty:=type) S hb hd yG h
        exact zAO (hX v w (by simp [builtin,h1])) h2
      case max =>
        obtain ⟨v,h1,h2⟩:=zVf (ty:=type) S hb hd yG h
        exact zAO (hX v w (by simp [builtin,h1])) h2
      case min =>
        obtain ⟨v,h1,h2⟩:=zUz (ty:=type) S hb hd yG h
        exact zAO (hX v w (by simp [builtin,h1])) h2
      case append =>
        have yC:=Nat.eq_of_beq_eq_true yn
        obtain ⟨t,t2,rfl⟩:∃ t t2,argTypes=#[t,t2]:=by
          match argTypes,yC with
          | ⟨[t,t2]⟩,_=>exact ⟨t,t2,rfl⟩
        have hax:∃ x y,args=#[x,y]:=by
          obtain ⟨l⟩:=args
          simp only [zBw] at h
          match l,h with
          | [x,y],_=>exact ⟨x,y,rfl⟩
          | [],h=>cases h
          | [_],h=>cases h
          | _::_::_::_,h=>cases h
        obtain ⟨x,y,rfl⟩:=hax
        obtain ⟨v,w',h1,h2⟩:=zPW (ty:=type) S hb hd (yG x (by simp)) (yG y (by simp)) h
        exact zAO (hX v w' (by simp only [builtin,Sem.run_bind,List.map_toArray,List.map_cons,List.map_nil,h1,Result.andThen_ok,Sem.run_pure])) h2
      case clear =>
        obtain ⟨t,ts,rfl⟩:∃ t ts,argTypes=(t::ts).toArray:=by
          match argTypes,yn with
          | ⟨t::ts⟩,_=>exact ⟨t,ts,rfl⟩
        obtain ⟨x,rfl⟩:∃ x,args=#[x]:=by
          obtain ⟨l⟩:=args
          match l,h with
          | [x],_=>exact ⟨x,rfl⟩
          | [],h=>simp only [zBw] at h;cases h
          | _::_::_,h=>simp only [zBw] at h;cases h
        obtain ⟨w',h1,h2⟩:=zR5 (ty:=type) S hb hd (yG x (by simp)) h
        exact zAO (hX _ w' (by simp only [builtin,Sem.run_bind,List.map_toArray,List.map_cons,List.map_nil,h1,Result.andThen_ok,Sem.run_pure])) h2
      case copy =>
        have yC:=Nat.eq_of_beq_eq_true yn
        obtain ⟨t,t2,rfl⟩:∃ t t2,argTypes=#[t,t2]:=by
          match argTypes,yC with
          | ⟨[t,t2]⟩,_=>exact ⟨t,t2,rfl⟩
        have hax:∃ x y,args=#[x,y]:=by
          obtain ⟨l⟩:=args
          simp only [zBw] at h
          match l,h with
          | [x,y],_=>exact ⟨x,y,rfl⟩
          | [],h=>cases h
          | [_],h=>cases h
          | _::_::_::_,h=>cases h
        obtain ⟨x,y,rfl⟩:=hax
        obtain ⟨v,w',h1,h2⟩:=zT5 (ty:=type) S hb hd (yG x (by simp)) (yG y (by simp)) h
        exact zAO (hX v w' (by simp only [builtin,Sem.run_bind,List.map_toArray,List.map_cons,List.map_nil,h1,Result.andThen_ok,Sem.run_pure])) h2
  all_goals first | (cases yD;done) | skip
end
end Go.Eng
namespace Go.Eng
open Go
def FF (ro:Option Nat):Fence:={Fence.wide with round:=ro}
def zM8 (P:Program) (nt:Nat) (ops:Array Oper):Bool:=ops.toList.all (zP2 P nt)
def zCT:Code→Bool
 | .seq a b=>zCT a&&zCT b
 | .cond _ a b=>zCT a&&zCT b
 | .block _ b=>zCT b
 | .loop b=>zCT b
 | .scope b=>zCT b
 | .rangeFunc .. => false
 | _=>true
def zCz (P:Program) (nt:Nat):Code→Bool
 | .skip=>true
 | .region _ ops _=>zM8 P nt ops
 | .seq a b=>zCz P nt a&&zCz P nt b
 | .cond c a b=>zAW nt c&&zCz P nt a&&zCz P nt b
 | .block _ b=>zCz P nt b
 | .loop b=>zCz P nt b
 | .exit _=>true
 | .ret=>true
 | .label _=>true
 | .scope b=>zCz P nt b
 | .rangeFunc f ps a b=>zAW nt f&&ps.toList.all (fun t=>Nat.blt t nt)&&zCz P nt a&&zCz P nt b&&zCT a&&zCT b
 | _=>false
def X.exit:X→Exit
 | .norm => .normal
 | .ex id => .exit id
 | .ret => .ret
section
variable {P:Program} {H:zBk} {w0 w:World} {U Φ0 Φ:Nat→Prop} {nt:Nat} {hv:Hid} {a:Act} {e e':Env} {rv:Nat→Value} {E:Nat→PV} {L:Nat→List Nat} {orc:zAL} {ro:Option Nat} {n:Nat} {Q:Exit→Act→World→Prop}
theorem zL6 {o:Oper} (h:zP2 P nt o=true):zPK o.op=false:=by
 obtain ⟨dst,op,type,pos,after,guard⟩:=o
 simp only [zP2,Bool.and_eq_true] at h
 cases op<;>first | rfl | (cases h.2;done)
theorem zIj {o:Oper} (h:zP2 P nt o=true):∀ x,o.dst=some x→x<nt:=by
 intro x hx
 simp only [zP2,Bool.and_eq_true] at h
 rw [hx] at h
 exact zB2 h.1
theorem zDx {ops:Array Oper} {i:Nat} {F:Fence} {K K':Act→World→Prop} (h:wpOpIn F n P ops Q i K a w) (hk:∀ a w,K a w→K' a w):wpOpIn F n P ops Q i K' a w:=wpOpIn_mono hk h
theorem zKp (yx:zF3 P orc) (hnm:zEB P) {ops:Array Oper} (yp:zM8 P nt ops=true) (hf:Fr w0 U Φ0 nt hv a w e) {i:Nat} {o:Oper} (hi:ops[i]? = some o) {fz tk nl:Bool} (h:(zFf P H ops fz tk nl o).run orc e=some e') :
  wpOpIn (FF ro) n P ops Q i (fun a' w'=>Fr w0 U Φ0 nt hv a' w' e') a w:=by
 obtain ⟨Φ,rv,E,L,S,hb⟩:=hf
 have yS:∀ (j:Nat) (x:Oper),ops[j]? = some x→zP2 P nt x=true:=fun j x hx=>List.all_eq_true.1 yp x (by
  rw [← Array.getElem?_toList] at hx;exact List.mem_of_getElem? hx)
 have yD:=yS i o hi
 have uM:=zIj yD
 simp only [wpOpIn,hi]
 simp only [zFf] at h
 have done:Region.wanted o (yielded ops a.tmps)=true→(opM P H fz tk nl o).run orc e=some e' →
   (if Region.wanted o (yielded ops a.tmps) then o.wpIn (FF ro) n P a w (fun a' w'=>Fr w0 U Φ0 nt hv a' w' e') Q else (∀ f,o.about P w a.eval=some f→(FF ro).fn f)∧(fun a' w'=>Fr w0 U Φ0 nt hv a' w' e') (a.put o.dst undef) w):=by
  intro hw h
  rw [if_pos hw]
  exact zTs (zL6 yD) (zUG yx hnm S hb yD h)
 have skip:Region.wanted o (yielded ops a.tmps)=false→(put o.dst .und).run orc e=some e' →
   (if Region.wanted o (yielded ops a.tmps) then o.wpIn (FF ro) n P a w (fun a' w'=>Fr w0 U Φ0 nt hv a' w' e') Q else (∀ f,o.about P w a.eval=some f→(FF ro).fn f)∧(fun a' w'=>Fr w0 U Φ0 nt hv a' w' e') (a.put o.dst undef) w):=by
  intro hw h
  rw [hw]
  exact ⟨fun _ _=>trivial,zAG S hb uM h (p := .und) ⟨rfl,rfl⟩⟩
 cases hg:o.guard with
 | none =>
  rw [hg] at h
  exact done (by simp [Region.wanted,hg]) h
 | some x =>
  obtain ⟨j,want⟩:=x
  rw [hg] at h
  simp only at h
  cases hj:(ops[j]?).bind (·.dst) with
  | none=>rw [hj] at h;cases h
  | some t =>
   rw [hj] at h
   simp only [PM.run] at h
   have ku:t<nt:=by
    cases qx:ops[j]? with
    | none=>rw [qx] at hj;cases hj
    | some oj=>rw [qx] at hj;exact zIj (yS j oj qx) t hj
   have yb:t<zAd:=Nat.lt_of_lt_of_le ku (Nat.le_trans S.small (by decide))
   have hH:=S.conf.rep t
   rw [S.env t yb] at hH
   have htm:a.tmps[t]? = some (rv t):=by
    have h1:=S.tmps t ku
    have h2:t<a.tmps.size:=by rw [S.size];exact ku
    rw [Array.getElem?_eq_getElem h2]
    simp only [Array.getD,h2,dite_true] at h1
    rw [← h1];rfl
   have jv:yielded ops a.tmps j=match rv t with | .bool b=>some b | _=>none:=by
    simp only [yielded,hj,Option.bind_some,htm]
    cases rv t<;>rfl
   revert h
   cases hp:e.get t<;>intro h<;>try (cases h;done)
   case bool b =>
    simp only at h
    have yB:rv t = .bool b:=by rw [hp] at hH;exact hH.1
    rw [yB] at jv
    simp only at jv
    split at h
    ·rename_i qy
     subst qy
     exact done (by simp [Region.wanted,hg,jv]) h
    ·rename_i qy
     exact skip (by simp [Region.wanted,hg,jv,qy]) h
   case und =>
    have yB:rv t=undef:=by rw [hp] at hH;exact hH.1
    rw [yB] at jv
    exact skip (by simp only [Region.wanted,hg,jv];rfl) h
theorem Fr.drop (hf:Fr w0 U Φ0 nt hv a w e) (l:List Nat):Fr w0 U Φ0 nt hv a w (e.drop l):=by
 obtain ⟨Φ,rv,E,L,S,hb⟩:=hf
 have hc:=S.conf.drop (fun s=>decide (s<zAd)&&zMq l s)
 refine ⟨Φ,rv,_,_,S.turn hc (fun s hs=>?_) (fun _ _=>rfl) (fun d ps hd hp=>?_),fun g hg=>?_⟩
 ·rw [Env.get_drop,S.env s hs];simp [hs]
 ·by_cases h:(decide (d<zAd)&&zMq l d)=true
  ·simp only [h,if_true] at hp;cases hp
  ·simp only [h] at hp;exact ⟨ps,hp,rfl⟩
 ·have:¬ g<zAd:=by omega
  simp [this,hb g hg]
end
end Go.Eng
namespace Go.Eng
open Go
theorem zDK {r:Nat} {pre:zAT} {p:PV} (h:∀ x∈p.ways,zAQ r pre x.1 x.2=false):p.mapW (lose r pre)=p:=by
 refine zDw p (fun a ha hw hn=>?_) (fun _ _=>rfl)
 have hx:∀ x,a.ways=[x]→zAQ r pre x.1 x.2=false:=fun x hx=>h x (hw x (by rw [hx];simp))
 cases a<;>first | (cases ha;done) | (exact absurd rfl (hn _ _)) | skip
 case addr r' q i c sh=>have:=hx _ rfl;simp only [zAQ] at this;simp only [lose,this];rfl
 case bor r' q z lo n=>have:=hx _ rfl;simp only [zAQ] at this;simp only [lose,this];rfl
 case bsl r' q i c sz ag n=>have:=hx _ rfl;simp only [zAQ] at this;simp only [lose,this];rfl
 case bmap r' q=>have:=hx _ rfl;simp only [zAQ] at this;simp only [lose,this];rfl
theorem zCx {r:Nat} {keep:List zAT} {p:PV} (h:∀ x∈p.ways,(Nat.beq x.1 r && !x.2.isEmpty)=false):p.mapW (zBK r keep)=p:=by
 refine zDw p (fun a ha hw hn=>?_) (fun _ _=>rfl)
 have hx:∀ x,a.ways=[x]→(Nat.beq x.1 r && !x.2.isEmpty)=false:=fun x hx=>h x (hw x (by rw [hx];simp))
 have key:∀ r' (q:zAT),(Nat.beq r' r && !q.isEmpty)=false→(Nat.beq r' r && !(q.isEmpty||keep.any q.isPrefixOf))=false:=by
  intro r' q h
  cases hb:Nat.beq r' r with
  | false=>rfl
  | true=>rw [hb] at h;simp only [Bool.true_and,Bool.not_eq_false'] at h ⊢;rw [h];rfl
 cases a<;>first | (cases ha;done) | (exact absurd rfl (hn _ _)) | skip
 case addr r' q i c sh=>simp only [zBK,key _ _ (hx _ rfl)];rfl
 case bor r' q z lo n=>simp only [zBK,key _ _ (hx _ rfl)];rfl
 case bsl r' q i c sz ag n=>simp only [zBK,key _ _ (hx _ rfl)];rfl
 case bmap r' q=>simp only [zBK,key _ _ (hx _ rfl)];rfl
theorem zFs {r:Nat} {pre:zAT} {q0 p:PV} (h:∀ x∈p.ways,zAQ r pre x.1 x.2=false):p.mapW (inl r pre q0)=p:=by
 refine zDw p (fun a ha hw hn=>?_) (fun _ _=>rfl)
 have hx:∀ x,a.ways=[x]→zAQ r pre x.1 x.2=false:=fun x hx=>h x (hw x (by rw [hx];simp))
 cases a<;>first | (cases ha;done) | (exact absurd rfl (hn _ _)) | rfl | skip
 case addr r' q i c sh=>have:=hx _ rfl;simp only [inl,this];rfl
 case bor r' q z lo n=>have:=hx _ rfl;simp only [inl,this];rfl
 case bsl r' q i c sz ag n=>have:=hx _ rfl;simp only [inl,this];rfl
 case bmap r' q=>have:=hx _ rfl;simp only [inl,this];rfl
theorem zHy {x q q':PV} {c:Nat} (hq:x.cells[c]? = some q) (hg:q'.isAgg=q.isAgg∨q'.isAgg=false):(zAK x c [q']).cells=x.cells.set c q':=by
 rcases hg with hg | hg
 ·exact zMi hq hg
 ·cases hx:x.isAgg with
  | true =>
   cases x<;>simp [PV.isAgg] at hx
   rename_i cs
   have hc:c<cs.length:=(List.getElem?_eq_some_iff.1 hq).1
   show cs.take c++[q']++cs.drop (c+1)=cs.set c q'
   rw [List.set_eq_take_append_cons_drop,if_pos hc];simp
  | false =>
   have jU:x.cells=[x]:=by cases x<;>first | rfl | simp [PV.isAgg] at hx
   rw [jU] at hq ⊢
   have hc:c=0:=by have:=(List.getElem?_eq_some_iff.1 hq).1;simp at this;exact this
   subst hc
   have he:zAK x 0 [q']=q':=by cases x<;>first | rfl | simp [PV.isAgg] at hx
   rw [he]
   cases q'<;>first | rfl | simp [PV.isAgg] at hg
theorem zGC {p q q' p':PV} {i c:Nat} (hc:Eng.child p i c=some q) (hp:zBV p i c q'=some p') :
  ∃ xs x,zA0 p=some xs∧xs[i]? = some x∧x.cells[c]? = some q∧zA0 p'=some (xs.set i (zAK x c [q']))∧((∃ sz,p = .own sz xs∧p' = .own sz (xs.set i (zAK x c [q'])))∨(∃ y,p = .box y∧i=0∧x=y∧p' = .box (zAK y c [q']))∨∃ cs,p = .agg cs∧i=0∧x = .agg cs∧p' = .agg (cs.take c++[q']++cs.drop (c+1))):=by
 simp only [Eng.child] at hc
 simp only [zBV] at hp
 cases hh:zA0 p with
 | none=>rw [hh] at hc;cases hc
 | some xs =>
  rw [hh] at hc hp;simp only [Option.bind_some] at hc hp
  cases hx:xs[i]? with
  | none=>rw [hx] at hc;cases hc
  | some x =>
   rw [hx] at hc hp;simp only [Option.bind_some] at hc hp
   have hi:i<xs.length:=(List.getElem?_eq_some_iff.1 hx).1
   refine ⟨xs,x,rfl,hx,hc,?_⟩
   cases p<;>simp only [zA0] at hh<;>try cases hh
   ·rename_i cs
    have jl:i=0:=by simpa using hi
    subst jl
    simp only [List.getElem?_cons_zero,Option.some.injEq] at hx;subst hx
    simp only [zAK,List.set_cons_zero,zAJ,Option.some.injEq] at hp ⊢
    subst hp;refine ⟨?_,.inr (.inr ⟨cs,?_⟩)⟩<;>first | (simp [zA0];done) | rfl | exact ⟨rfl,rfl⟩ | exact ⟨rfl,rfl,rfl,rfl⟩
   ·rename_i sz
    simp only [zAJ,Option.some.injEq] at hp
    subst hp;refine ⟨?_,.inl ⟨sz,?_⟩⟩<;>first | (simp [zA0];done) | rfl | exact ⟨rfl,rfl⟩ | exact ⟨rfl,rfl,rfl,rfl⟩
   ·rename_i q0
    have jl:i=0:=by simpa using hi
    subst jl
    simp only [List.getElem?_cons_zero,Option.some.injEq] at hx;subst hx
    simp only [List.set_cons_zero,zAJ,Option.some.injEq] at hp ⊢
    subst hp;refine ⟨?_,.inr (.inl ⟨q0,?_⟩)⟩<;>first | (simp [zA0];done) | rfl | exact ⟨rfl,rfl⟩ | exact ⟨rfl,rfl,rfl,rfl⟩
theorem zOW {p q q' p':PV} {i c:Nat} (hc:Eng.child p i c=some q) (hg:q'.isAgg=q.isAgg∨q'.isAgg=false) (hp:zBV p i c q'=some p') :
  Eng.child p' i c=some q'∧∀ i2 c2,(i2,c2)≠(i,c)→Eng.child p' i2 c2=Eng.child p i2 c2:=by
 obtain ⟨xs,x,hh,hx,hcx,qZ,_⟩:=zGC hc hp
 have yU:=zHy hcx hg
 have hi:i<xs.length:=(List.getElem?_eq_some_iff.1 hx).1
 have yL:c<x.cells.length:=(List.getElem?_eq_some_iff.1 hcx).1
 refine ⟨?_,fun i2 c2 hI=>?_⟩
 ·simp only [Eng.child,qZ,Option.bind_some,List.getElem?_set_self hi,yU,List.getElem?_set_self yL]
 ·simp only [Eng.child,qZ,hh,Option.bind_some]
  by_cases kJ:i2=i
  ·subst kJ
   rw [List.getElem?_set_self hi,hx];simp only [Option.bind_some,yU]
   rw [List.getElem?_set_ne (by intro e;exact hI (by rw [e]))]
  ·rw [List.getElem?_set_ne (by omega)]
theorem zMs (r:Nat) (pre:zAT) (a:PV):zGq r pre (.box a) = .addr r pre 0 0 (if a.isAgg then some a.cells.length else none):=by
 cases a<;>rfl
theorem zEn {p q:PV} (h:zCe p q=true) (r:Nat) (pre:zAT):zGq r pre p=zGq r pre q:=by
 cases p<;>cases q<;>simp only [zCe] at h<;>try (cases h;done)
 ·simp only [Bool.and_eq_true] at h
  have h1:=Nat.eq_of_beq_eq_true h.1
  have h2:=Nat.eq_of_beq_eq_true h.2
  subst h1
  simp only [zGq,h2]
 ·rename_i a b
  simp only [Bool.and_eq_true,beq_iff_eq] at h
  have h2:=Nat.eq_of_beq_eq_true h.2
  have h3:=h.1
  rw [zMs,zMs,h3,h2]
 ·rfl
theorem zRx {v:PV} (hv:v.isAgg=false):∀ (P:zAT) (x q':PV),P≠[]→zAr (fun _=>some v) x P=some q'→x.isAgg=false→zCe x q'=true
 | [],_,_,hn,_,_=>absurd rfl hn
 | (i, c) :: P,x,q',_,h,hx=>by
  rw [zBq] at h
  cases hc:Eng.child x i c with
  | none=>rw [hc] at h;cases h
  | some y =>
   rw [hc] at h;simp only [Option.bind_some] at h
   cases hm:zAr (fun _=>some v) y P with
   | none=>rw [hm] at h;cases h
   | some y' =>
    rw [hm] at h;simp only [Option.bind_some] at h
    obtain ⟨xs,z,_,hz,jy,_,⟨sz,rfl,rfl⟩ | ⟨w,rfl,rfl,rfl,rfl⟩ | ⟨cs,rfl,_⟩⟩:=zGC hc h
    ·simp [zCe]
    ·have uZ:y'.isAgg=y.isAgg∨y'.isAgg=false:=by
      cases P with
      | nil=>simp only [zAr,Option.some.injEq] at hm;subst hm;exact .inr hv
      | cons a P =>
       rw [zBq] at hm
       cases yy:Eng.child y a.1 a.2 with
       | none=>rw [yy] at hm;cases hm
       | some y2 =>
        rw [yy] at hm;simp only [Option.bind_some] at hm
        cases vQ:zAr (fun _=>some v) y2 P with
        | none=>rw [vQ] at hm;cases hm
        | some y3=>rw [vQ] at hm;simp only [Option.bind_some] at hm;exact .inl (zDN hm)
     have yU:=zHy jy uZ
     simp only [zCe,yU,List.length_set,Nat.beq_refl,Bool.and_true,beq_iff_eq]
     cases kR:z.isAgg with
     | true=>cases z<;>first | (cases kR;done) | rfl
     | false =>
      have jU:z.cells=[z]:=by cases z<;>first | rfl | simp [PV.isAgg] at kR
      rw [jU] at jy
      have v0:c=0:=by have:=(List.getElem?_eq_some_iff.1 jy).1;simp at this;exact this
      subst v0
      simp at jy;subst jy
      have he:zAK z 0 [y']=y':=by cases z<;>first | rfl | simp [PV.isAgg] at kR
      rw [he]
      rcases uZ with h | h
      ·rw [h,kR]
      ·rw [h]
    ·cases hx
theorem zDZ {r i:Nat} {pre:zAT}:∀ (l1 l2:List PV) (k:Nat),(∀ (j:Nat) (nm:zAT),(l1[j]?).map (zGq r nm)=(l2[j]?).map (zGq r nm))→zBP r pre i k l1=zBP r pre i k l2
 | [],[],_,_=>rfl
 | [],y::ys,_,h=>by have:=h 0 [];simp at this
 | x::xs,[],_,h=>by have:=h 0 [];simp at this
 | x::xs,y::ys,k,h=>by
  have h0:=h 0 (pre++[(i,k)])
  simp only [List.getElem?_cons_zero,Option.map_some,Option.some.injEq] at h0
  simp only [zBP,h0]
  rw [zDZ xs ys (k+1) fun j nm=>by have:=h (j+1) nm;simpa using this]
theorem zPy {s:Nat} {p q:PV} (h:zCe p q=true):view s p=view s q:=by
 have:=zEn h s []
 cases p<;>cases q<;>simp only [zCe] at h<;>first | (cases h;done) | exact this
theorem zTP {v:PV} (hv:v.isAgg=false):∀ (P:zAT) (x x':PV),zAr (fun _=>some v) x P=some x'→x'.isAgg=x.isAgg∨x'.isAgg=false
 | [],x,x',h=>by simp only [zAr,Option.some.injEq] at h;subst h;exact .inr hv
 | (i,c)::P,x,x',h=>by
  rw [zBq] at h
  cases yy:Eng.child x i c with
  | none=>rw [yy] at h;cases h
  | some y2 =>
   rw [yy] at h;simp only [Option.bind_some] at h
   cases vQ:zAr (fun _=>some v) y2 P with
   | none=>rw [vQ] at h;cases h
   | some y3=>rw [vQ] at h;simp only [Option.bind_some] at h;exact .inl (zDN h)
theorem zGW {s:Nat} {F:PV→Option PV} {P:zAT} {p q:PV} (h:zAr F p P=some q) (hk:zAp p q P=true):view s p=view s q:=by
 by_cases ha:(∃ cs,p = .agg cs)∧(∃ ds,q = .agg ds)∧P≠[]
 ·obtain ⟨⟨cs,rfl⟩,⟨ds,rfl⟩,hP⟩:=ha
  match P,hP with
  | (i, c)::rest,_ =>
   rw [zBq] at h
   cases hc:Eng.child (.agg cs) i c with
   | none=>rw [hc] at h;cases h
   | some x =>
    rw [hc] at h;simp only [Option.bind_some] at h
    cases hm:zAr F x rest with
    | none=>rw [hm] at h;cases h
    | some x' =>
     rw [hm] at h;simp only [Option.bind_some] at h
     obtain ⟨xs,z,hh,hz,jy,qZ,⟨sz,h1,_⟩ | ⟨w,h1,_⟩ | ⟨cs',h1,rfl,rfl,h2⟩⟩:=zGC hc h
     ·cases h1
     ·cases h1
     ·cases h1
      have jy:cs[c]? = some x:=jy
      have yL:c<cs.length:=(List.getElem?_eq_some_iff.1 jy).1
      have yU:cs.take c++[x']++cs.drop (c+1)=cs.set c x':=by rw [List.set_eq_take_append_cons_drop,if_pos yL];simp
      simp only [PV.agg.injEq] at h2
      rw [yU] at h2;subst h2
      simp only [zAp,jy,List.getElem?_set_self yL] at hk
      show PV.agg _=PV.agg _
      congr 1
      refine zDZ _ _ _ fun j nm=>?_
      by_cases hj:c=j
      ·subst hj
       rw [List.getElem?_set_self yL,jy];simp only [Option.map_some];rw [zEn hk]
      ·rw [List.getElem?_set_ne hj]
 ·have:zAp p q P=zCe p q:=by
   cases p<;>cases q<;>first | rfl | skip
   cases P with
   | nil=>rfl
   | cons a P=>exact absurd ⟨⟨_,rfl⟩,⟨_,rfl⟩,by simp⟩ ha
  rw [this] at hk
  exact zPy hk
def zPC (r:Nat) (nm:zAT) (p:PV) (Q:zAT) (i c n:Nat):Option (Bool×List PV) :=
 match zAz p Q with
 | some q=>match zBa q with
  | some xs=>match xs[i]? with
   | some x=>bif Nat.ble (c+n) x.cells.length then some (x.isAgg,zBP r nm i c ((x.cells.drop c).take n)) else none
   | none=>none
  | none=>none
 | none=>none
theorem zHM {v:PV} (hv:v.isAgg=false) {r:Nat} {nm:zAT} {i c n:Nat}:∀ (P Q:zAT) (p p':PV),zAr (fun _=>some v) p P=some p' →
  ((P.isPrefixOf Q=false∧∀ x,zAz p P=some x→zCe x v=true)∨(P≠[]∧P.dropLast.isPrefixOf Q=false))→zPC r nm p' Q i c n=zPC r nm p Q i c n
 | [],Q,p,p',h,hc=>by
  rcases hc with hc | hc
  ·simp at hc
  ·exact absurd rfl hc.1
 | (i0, c0) :: P,Q,p,p',h,qP=>by
  rw [zBq] at h
  cases hc:Eng.child p i0 c0 with
  | none=>rw [hc] at h;cases h
  | some x =>
   rw [hc] at h;simp only [Option.bind_some] at h
   cases hm:zAr (fun _=>some v) x P with
   | none=>rw [hm] at h;cases h
   | some x' =>
    rw [hm] at h;simp only [Option.bind_some] at h
    have hg:=zTP hv P x x' hm
    obtain ⟨ya,uq⟩:=zOW hc hg h
    cases Q with
    | cons y Q =>
     obtain ⟨j,d⟩:=y
     simp only [zPC,zB5]
     by_cases hjd:(j,d)=(i0,c0)
     ·cases hjd
      rw [ya,hc];simp only [Option.bind_some]
      refine zHM hv P Q x x' hm ?_
      rcases qP with ⟨h1,h2⟩ | ⟨_,h2⟩
      ·refine .inl ⟨by simpa using h1,fun y hy=>h2 y (by rw [zB5,hc];exact hy)⟩
      ·cases P with
       | nil=>simp at h2
       | cons a P=>exact .inr ⟨by simp,by simpa using h2⟩
     ·rw [uq j d hjd]
    | nil =>
     have hview:∀ nm,zGq r nm x'=zGq r nm x:=by
      intro nm
      have yr:zCe x x'=true→zGq r nm x'=zGq r nm x:=fun h=>(zEn h r nm).symm
      cases P with
      | nil =>
       simp only [zAr,Option.some.injEq] at hm;subst hm
       rcases qP with ⟨_,h2⟩ | ⟨_,h2⟩
       ·exact yr (h2 x (by rw [zB5,hc];rfl))
       ·simp at h2
      | cons a P =>
       cases hx:x.isAgg with
       | false=>exact yr (zRx hv _ x x' (by simp) hm hx)
       | true =>
        have kx:x'.isAgg=true:=by
         rw [zBq] at hm
         cases yy:Eng.child x a.1 a.2 with
         | none=>rw [yy] at hm;cases hm
         | some y2 =>
          rw [yy] at hm;simp only [Option.bind_some] at hm
          cases vQ:zAr (fun _=>some v) y2 P with
          | none=>rw [vQ] at hm;cases hm
          | some y3=>rw [vQ] at hm;simp only [Option.bind_some] at hm;rw [zDN hm,hx]
        cases x<;>first | (cases hx;done) | skip
        cases x'<;>first | (cases kx;done) | rfl
     obtain ⟨xs,z,hh,hz,jy,qZ,hform⟩:=zGC hc h
     have yU:=zHy jy hg
     have yL:c0<z.cells.length:=(List.getElem?_eq_some_iff.1 jy).1
     have kW:(zAK z c0 [x']).isAgg=z.isAgg:=by
      cases kR:z.isAgg with
      | true=>cases z<;>first | (cases kR;done) | rfl
      | false =>
       have jU:z.cells=[z]:=by cases z<;>first | rfl | simp [PV.isAgg] at kR
       rw [jU] at jy
       have v0:c0=0:=by have:=(List.getElem?_eq_some_iff.1 jy).1;simp at this;exact this
       subst v0
       simp at jy;subst jy
       have he:zAK z 0 [x']=x':=by cases z<;>first | rfl | simp [PV.isAgg] at kR
       rw [he]
       rcases hg with h | h
       ·rw [h,kR]
       ·exact h
     have hvc:zBP r nm i c (((zAK z c0 [x']).cells.drop c).take n)=zBP r nm i c ((z.cells.drop c).take n):=by
      rw [yU]
      refine zDZ _ _ _ fun j nm=>?_
      simp only [List.getElem?_take,List.getElem?_drop]
      split
      ·by_cases hj:c0=c+j
       ·subst hj
        rw [List.getElem?_set_self yL,jy];simp only [Option.map_some,hview]
       ·rw [List.getElem?_set_ne hj]
      ·rfl
     have elem:(match (xs.set i0 (zAK z c0 [x']))[i]? with | some x=>bif Nat.ble (c+n) x.cells.length then some (x.isAgg,zBP r nm i c ((x.cells.drop c).take n)) else none | none=>none) =
       (match xs[i]? with | some x=>bif Nat.ble (c+n) x.cells.length then some (x.isAgg,zBP r nm i c ((x.cells.drop c).take n)) else none | none=>none):=by
      have hi:i0<xs.length:=(List.getElem?_eq_some_iff.1 hz).1
      by_cases kJ:i0=i
      ·subst kJ
       rw [List.getElem?_set_self hi,hz];simp only
       rw [hvc,kW,yU,List.length_set]
      ·rw [List.getElem?_set_ne kJ]
     simp only [zPC,zAz]
     rcases hform with ⟨sz,rfl,rfl⟩ | ⟨w,rfl,rfl,rfl,rfl⟩ | ⟨cs,rfl,rfl,rfl,rfl⟩
     ·simp only [zBa];exact elem
     ·simp only [zA0,Option.some.injEq] at hh;subst hh
      simp only [zBa];simpa using elem
     ·simp only [zBa]
abbrev zCG:=Nat→PV
def PM.does (o:zAL):PM→zCG→Tok→zCG→Prop
 | .ok,g,t,g'=>t={}∧g'=g
 | .fail,_,_,_=>False
 | .view s k,g,t,g'=>∃ t',t=Tok.join {look:=[s]} t'∧(k (Eng.view s (g s))).does o g t' g'
 | .get s k,g,t,g'=>(g s).isLock=false∧∃ t',t=Tok.join {rd:=[s]} t'∧(k (g s)).does o g t' g'
 | .set s p k,g,t,g'=>∃ t',t=Tok.join (zE5 s (g s) p) t'∧k.does o (upd g s p) t' g'
 | .cells r pre i c n k,g,t,g'=>∃ a qs t',zAj r (g r) pre i c n=some (a,qs)∧t=Tok.join {cel:=[(r,pre)]} t'∧(k a qs).does o g t' g'
 | .deep r pre k,g,t,g'=>∃ q t',zAz (g r).unlock pre=some q∧t=Tok.join {rd:=[r]} t'∧(k q).does o g t' g'
 | .wcells r pre i c qs k,g,t,g'=>∃ root t',zA5 (g r) pre i c qs=some root∧t=Tok.join (zBe r [] (zAp (g r) root pre) (g r) root) t'∧k.does o (upd g r root) t' g'
 | .wnode r pre q k,g,t,g'=>(g r).isLock=false∧∃ root t',zAr (fun _=>some q) (g r) pre=some root ∧
   t=Tok.join (zBe r pre.dropLast (zAp (g r) root pre&&(pre.isEmpty || !q.isAgg)) (g r) root) t'∧k.does o (upd g r root) t' g'
 | .kill r pre k,g,t,g'=>∃ D t',(∀ s,s∉D→∀ x∈(g s).ways,zAQ r pre x.1 x.2=false)∧t=Tok.join (zAN D g (fun s=>(g s).mapW (lose r pre)) [r] []) t'∧k.does o (fun s=>(g s).mapW (lose r pre)) t' g'
 | .frz r pre k,g,t,g'=>(g r).isLock=false∧∃ D t' q root,(∀ s,s∉D→∀ x∈(g s).ways,zAQ r pre x.1 x.2=false)∧r∈D∧zAz (g r) pre=some q∧zAr (fun _=>some (zAZ q)) (g r) pre=some root ∧
   t=Tok.join (zAN D g (fun s=>(upd g r root s).mapW (inl r pre q)) [r] []) t'∧k.does o (fun s=>(upd g r root s).mapW (inl r pre q)) t' g'
 | .killEx r keep k,g,t,g'=>∃ D t',(∀ s,s∉D→∀ x∈(g s).ways,(Nat.beq x.1 r && !x.2.isEmpty)=false)∧t=Tok.join (zAN D g (fun s=>(g s).mapW (zBK r keep)) [] [r]) t'∧k.does o (fun s=>(g s).mapW (zBK r keep)) t' g'
 | .forget _ _,_,t,_=>t.all=true
 | .call f args hid k,g,t,g'=>∃ v hid',o f args hid=some (v,hid')∧(k v hid').does o g t g'
theorem zUe {a b:List Nat} {x:Nat} (ha:x∈a) (hb:x∈b):zQQ a b=true:=List.any_eq_true.2 ⟨x,ha,List.any_eq_true.2 ⟨x,hb,Nat.beq_refl x⟩⟩
theorem zDR {a b:List Nat} (h:zQQ a b=false) {x:Nat} (ha:x∈a):x∉b:=fun hb=>by rw [zUe ha hb] at h;cases h
structure Off (a b:Tok):Prop where
 all:a.all=false
 look:∀ s∈a.wr,s∉b.look
 rd:∀ s∈a.wr,s∉b.rd
 cel:∀ s∈a.wr,∀ c∈b.cel,c.1≠s
 wr:∀ s∈a.wr,s∉b.wr
 inn:∀ s∈a.wr,∀ c∈b.inn,c.1≠s
 ird:∀ w∈a.inn,w.1∉b.rd
 iinn:∀ w∈a.inn,∀ c∈b.inn,c.1≠w.1
 icel:∀ w∈a.inn,∀ c∈b.cel,c.1=w.1→w.2.isPrefixOf c.2=false
 ways:∀ s∈a.kills,∀ x∈b.ways,x.1≠s
 waysIn:∀ s∈a.killsIn,∀ x∈b.ways,x.1=s→x.2.isEmpty=true
theorem zD5 {l:List (Nat×zAT)} {x:Nat×zAT} (h:x∈l):x.1∈zLx l:=List.mem_map.2 ⟨x,h,rfl⟩
theorem zJV {a b:Tok} (h:zNt a b=false):Off a b:=by
 simp only [zNt,Bool.or_eq_false_iff] at h
 obtain ⟨⟨⟨⟨⟨⟨⟨⟨⟨⟨h1,h2⟩,h3⟩,h4⟩,h5⟩,h6⟩,h7⟩,h8⟩,h9⟩,h10⟩,h11⟩:=h
 refine ⟨h1,fun s hs=>zDR h2 hs,fun s hs=>zDR h3 hs,fun s hs c hc e=>?_,fun s hs=>zDR h5 hs,fun s hs c hc e=>?_,fun w hw=>zDR h7 (zD5 hw),fun w hw c hc e=>?_,fun w hw c hc e=>?_,fun s hs x hx e=>?_,fun s hs x hx e=>?_⟩
 ·subst e;exact zDR h4 hs (zD5 hc)
 ·subst e;exact zDR h6 hs (zD5 hc)
 ·exact zDR h8 (zD5 hw) (by rw [← e];exact zD5 hc)
 ·have:=List.any_eq_false.1 h9 w hw
  have:=(List.any_eq_false (p:=fun c:Nat×zAT=>Nat.beq w.1 c.1&&w.2.isPrefixOf c.2)).1 (by simpa using this) c hc
  simp only [e,Nat.beq_refl,Bool.true_and,Bool.not_eq_true] at this
  exact this
 ·subst e;exact zDR h10 hs (zD5 hx)
 ·cases he:x.2.isEmpty with
  | true=>rfl
  | false=>exact absurd (by rw [← e];exact zD5 (List.mem_filter.2 ⟨hx,by rw [he];rfl⟩)) (zDR h11 hs)
theorem Off.left {a a' b:Tok} (h:Off (Tok.join a a') b):Off a b:=by
 have ha:=h.all
 simp only [Tok.join,Bool.or_eq_false_iff] at ha
 exact ⟨ha.1,fun s hs=>h.look s (List.mem_append_left _ hs),fun s hs=>h.rd s (List.mem_append_left _ hs),fun s hs=>h.cel s (List.mem_append_left _ hs),fun s hs=>h.wr s (List.mem_append_left _ hs),fun s hs=>h.inn s (List.mem_append_left _ hs),
  fun s hs=>h.ird s (List.mem_append_left _ hs),fun s hs=>h.iinn s (List.mem_append_left _ hs),fun s hs=>h.icel s (List.mem_append_left _ hs),fun s hs=>h.ways s (List.mem_append_left _ hs),fun s hs=>h.waysIn s (List.mem_append_left _ hs)⟩
theorem Off.left' {a a' b:Tok} (h:Off (Tok.join a a') b):Off a' b:=by
 have ha:=h.all
 simp only [Tok.join,Bool.or_eq_false_iff] at ha
 exact ⟨ha.2,fun s hs=>h.look s (List.mem_append_right _ hs),fun s hs=>h.rd s (List.mem_append_right _ hs),fun s hs=>h.cel s (List.mem_append_right _ hs),fun s hs=>h.wr s (List.mem_append_right _ hs),fun s hs=>h.inn s (List.mem_append_right _ hs),
  fun s hs=>h.ird s (List.mem_append_right _ hs),fun s hs=>h.iinn s (List.mem_append_right _ hs),fun s hs=>h.icel s (List.mem_append_right _ hs),fun s hs=>h.ways s (List.mem_append_right _ hs),fun s hs=>h.waysIn s (List.mem_append_right _ hs)⟩
theorem Off.right {a b b':Tok} (h:Off a (Tok.join b b')):Off a b :=
 ⟨h.all,fun s hs hm=>h.look s hs (List.mem_append_left _ hm),fun s hs hm=>h.rd s hs (List.mem_append_left _ hm),fun s hs c hm=>h.cel s hs c (List.mem_append_left _ hm),fun s hs hm=>h.wr s hs (List.mem_append_left _ hm),fun s hs c hm=>h.inn s hs c (List.mem_append_left _ hm),
  fun s hs hm=>h.ird s hs (List.mem_append_left _ hm),fun s hs c hm=>h.iinn s hs c (List.mem_append_left _ hm),fun s hs c hm=>h.icel s hs c (List.mem_append_left _ hm),fun s hs x hm=>h.ways s hs x (List.mem_append_left _ hm),fun s hs x hm=>h.waysIn s hs x (List.mem_append_left _ hm)⟩
theorem Off.right' {a b b':Tok} (h:Off a (Tok.join b b')):Off a b' :=
 ⟨h.all,fun s hs hm=>h.look s hs (List.mem_append_right _ hm),fun s hs hm=>h.rd s hs (List.mem_append_right _ hm),fun s hs c hm=>h.cel s hs c (List.mem_append_right _ hm),fun s hs hm=>h.wr s hs (List.mem_append_right _ hm),fun s hs c hm=>h.inn s hs c (List.mem_append_right _ hm),
  fun s hs hm=>h.ird s hs (List.mem_append_right _ hm),fun s hs c hm=>h.iinn s hs c (List.mem_append_right _ hm),fun s hs c hm=>h.icel s hs c (List.mem_append_right _ hm),fun s hs x hm=>h.ways s hs x (List.mem_append_right _ hm),fun s hs x hm=>h.waysIn s hs x (List.mem_append_right _ hm)⟩
section
variable {o:zAL} {g g' g1 g2:zCG} {t:Tok} {s r:Nat}
theorem zDu:∀ {q:PM} {g g':zCG} {t:Tok},q.does o g t g'→t.all=false→s∉t.wr→(∀ c∈t.inn,c.1≠s)→g' s=g s:=by
 intro q
 induction q with
 | ok=>intro g g' t h _ _ _;rw [h.2]
 | fail=>intro g g' t h;cases h
 | view s0 k ih=>intro g g' t ⟨t',e,h⟩ ha hw hi;subst e;exact ih _ h ha hw hi
 | get s0 k ih=>intro g g' t ⟨_,t',e,h⟩ ha hw hi;subst e;exact ih _ h ha hw hi
 | set s0 p k ih =>
  intro g g' t ⟨t',e,h⟩ ha hw hi
  subst e
  simp only [Tok.join,zE5,List.mem_append,not_or,List.mem_singleton,Bool.false_or,List.nil_append] at ha hw hi
  rw [ih h ha hw.2 hi,zAf hw.1]
 | cells r0 pre i c n k ih=>intro g g' t ⟨a,qs,t',_,e,h⟩ ha hw hi;subst e;exact ih _ _ h ha hw hi
 | deep r0 pre k ih=>intro g g' t ⟨q,t',_,e,h⟩ ha hw hi;subst e;exact ih _ h ha hw hi
 | wcells r0 pre i c qs k ih =>
  intro g g' t ⟨root,t',_,e,h⟩ ha hw hi
  subst e
  have hI:s≠r0:=by
   rintro rfl
   cases hk:zAp (g s) root pre with
   | true=>exact hi (s,[]) (by simp [Tok.join,zBe,hk]) rfl
   | false=>exact hw (by simp [Tok.join,zBe,hk])
  rw [ih h (by simpa [Tok.join,zBe] using ha) (fun hm=>hw (List.mem_append_right _ hm)) (fun c hm=>hi c (List.mem_append_right _ hm)),zAf hI]
 | wnode r0 pre q k ih =>
  intro g g' t ⟨_,root,t',_,e,h⟩ ha hw hi
  subst e
  have hI:s≠r0:=by
   rintro rfl
   cases hk:(zAp (g s) root pre&&(pre.isEmpty || !q.isAgg)) with
   | true=>exact hi (s,pre.dropLast) (by simp only [Tok.join,zBe,hk];simp) rfl
   | false=>exact hw (by simp only [Tok.join,zBe,hk];simp)
  rw [ih h (by simpa [Tok.join,zBe] using ha) (fun hm=>hw (List.mem_append_right _ hm)) (fun c hm=>hi c (List.mem_append_right _ hm)),zAf hI]
 | kill r0 pre k ih =>
  intro g g' t ⟨D,t',hD,e,h⟩ ha hw hi
  subst e
  simp only [Tok.join,zAN,List.mem_append,not_or,Bool.false_or,List.nil_append] at ha hw hi
  rw [ih h ha hw.2 hi,zDK (hD s hw.1)]
 | frz r0 pre k ih =>
  intro g g' t ⟨_,D,t',q,root,hD,hr,_,_,e,h⟩ ha hw hi
  subst e
  simp only [Tok.join,zAN,List.mem_append,not_or,Bool.false_or,List.nil_append] at ha hw hi
  rw [ih h ha hw.2 hi,zAf (by rintro rfl;exact hw.1 hr),zFs (hD s hw.1)]
 | killEx r0 pre k ih =>
  intro g g' t ⟨D,t',hD,e,h⟩ ha hw hi
  subst e
  simp only [Tok.join,zAN,List.mem_append,not_or,Bool.false_or,List.nil_append] at ha hw hi
  rw [ih h ha hw.2 hi,zCx (hD s hw.1)]
 | forget r0 k ih=>intro g g' t h ha;rw [show t.all=true from h] at ha;cases ha
 | call f args hid k ih=>intro g g' t ⟨v,hid',_,h⟩ ha hw hi;exact ih _ _ h ha hw hi
theorem zPl:∀ {q:PM} {g g':zCG} {t:Tok},q.does o g t g'→t.all=false→s∉t.wr→view s (g' s)=view s (g s):=by
 intro q
 induction q with
 | ok=>intro g g' t h _ _;rw [h.2]
 | fail=>intro g g' t h;cases h
 | view s0 k ih=>intro g g' t ⟨t',e,h⟩ ha hw;subst e;exact ih _ h ha hw
 | get s0 k ih=>intro g g' t ⟨_,t',e,h⟩ ha hw;subst e;exact ih _ h ha hw
 | set s0 p k ih =>
  intro g g' t ⟨t',e,h⟩ ha hw
  subst e
  simp only [Tok.join,zE5,List.mem_append,not_or,List.mem_singleton,Bool.false_or] at ha hw
  rw [ih h ha hw.2,zAf hw.1]
 | cells r0 pre i c n k ih=>intro g g' t ⟨a,qs,t',_,e,h⟩ ha hw;subst e;exact ih _ _ h ha hw
 | deep r0 pre k ih=>intro g g' t ⟨q,t',_,e,h⟩ ha hw;subst e;exact ih _ h ha hw
 | wcells r0 pre i c qs k ih =>
  intro g g' t ⟨root,t',hr,e,h⟩ ha hw
  subst e
  rw [ih h (by simpa [Tok.join,zBe] using ha) (fun hm=>hw (List.mem_append_right _ hm))]
  by_cases hI:s=r0
  ·subst hI
   rw [zAh]
   cases hk:zAp (g s) root pre with
   | false=>exact absurd (by simp [Tok.join,zBe,hk]) hw
   | true =>
    simp only [zA5] at hr
    revert hr
    cases (zDr (g s) pre && !(zBB qs).isEmpty) with
    | true=>intro hr;cases hr
    | false=>intro hr;exact (zGW hr hk).symm
  ·rw [zAf hI]
 | wnode r0 pre q k ih =>
  intro g g' t ⟨_,root,t',hr,e,h⟩ ha hw
  subst e
  rw [ih h (by simpa [Tok.join,zBe] using ha) (fun hm=>hw (List.mem_append_right _ hm))]
  by_cases hI:s=r0
  ·subst hI
   rw [zAh]
   cases hk:(zAp (g s) root pre&&(pre.isEmpty || !q.isAgg)) with
   | false=>exact absurd (by simp only [Tok.join,zBe,hk];simp) hw
   | true =>
    rw [Bool.and_eq_true] at hk
    exact (zGW hr hk.1).symm
  ·rw [zAf hI]
 | kill r0 pre k ih =>
  intro g g' t ⟨D,t',hD,e,h⟩ ha hw
  subst e
  simp only [Tok.join,zAN,List.mem_append,not_or,Bool.false_or] at ha hw
  rw [ih h ha hw.2,zDK (hD s hw.1)]
 | frz r0 pre k ih =>
  intro g g' t ⟨_,D,t',q,root,hD,hr,_,_,e,h⟩ ha hw
  subst e
  simp only [Tok.join,zAN,List.mem_append,not_or,Bool.false_or] at ha hw
  rw [ih h ha hw.2,zAf (by rintro rfl;exact hw.1 hr),zFs (hD s hw.1)]
 | killEx r0 pre k ih =>
  intro g g' t ⟨D,t',hD,e,h⟩ ha hw
  subst e
  simp only [Tok.join,zAN,List.mem_append,not_or,Bool.false_or] at ha hw
  rw [ih h ha hw.2,zCx (hD s hw.1)]
 | forget r0 k ih=>intro g g' t h ha;rw [show t.all=true from h] at ha;cases ha
 | call f args hid k ih=>intro g g' t ⟨v,hid',_,h⟩ ha hw;exact ih _ _ h ha hw
theorem zL7 {p:PV} (h:p.isLock=false):p.unlock=p:=by cases p<;>first | rfl | cases h
theorem zJe {r:Nat} {p:PV} {pre:zAT} {i c n:Nat}:zAj r p pre i c n=zPC r pre p.unlock pre i c n:=rfl
theorem zJy {F:PV→Option PV} {p q:PV} {x:Nat×zAT} {pre:zAT} {i c:Nat} (h:zAr F p ((i,c)::pre)=some q):q.isLock=false:=by
 rw [zBq] at h
 cases hc:Eng.child p i c with
 | none=>rw [hc] at h;cases h
 | some y =>
  rw [hc] at h;simp only [Option.bind_some] at h
  cases hm:zAr F y pre with
  | none=>rw [hm] at h;cases h
  | some y' =>
   rw [hm] at h;simp only [Option.bind_some] at h
   obtain ⟨xs,z,_,hz,jy,_,⟨sz,rfl,rfl⟩ | ⟨w,rfl,rfl,rfl,rfl⟩ | ⟨cs,rfl,_,_,rfl⟩⟩:=zGC hc h<;>rfl
theorem zJc {r:Nat} {q root p:PV} {pre Q:zAT} (hl:p.isLock=false) (hr:zAr (fun _=>some q) p pre=some root) (hk:(zAp p root pre&&(pre.isEmpty || !q.isAgg))=true) (hp:pre.dropLast.isPrefixOf Q=false) (i c n:Nat) :
  zAj r root Q i c n=zAj r p Q i c n:=by
 rw [zJe,zJe,zL7 hl]
 cases pre with
 | nil=>simp at hp
 | cons x pre =>
  have hq:q.isAgg=false:=by
   rw [Bool.and_eq_true] at hk
   have:=hk.2
   simpa using this
  rw [zL7 (zJy (x:=(0,[])) hr)]
  exact zHM hq _ _ _ _ hr (.inr ⟨by simp,hp⟩)
theorem zOJ {Q:zAT} {i c n:Nat}:∀ {q:PM} {g g':zCG} {t:Tok},q.does o g t g'→t.all=false→s∉t.wr→(∀ w∈t.inn,s=w.1→w.2.isPrefixOf Q=false)→zAj s (g' s) Q i c n=zAj s (g s) Q i c n:=by
 intro q
 induction q with
 | ok=>intro g g' t h _ _ _;rw [h.2]
 | fail=>intro g g' t h;cases h
 | view s0 k ih=>intro g g' t ⟨t',e,h⟩ ha hw hi;subst e;exact ih _ h ha hw hi
 | get s0 k ih=>intro g g' t ⟨_,t',e,h⟩ ha hw hi;subst e;exact ih _ h ha hw hi
 | set s0 p k ih =>
  intro g g' t ⟨t',e,h⟩ ha hw hi
  subst e
  simp only [Tok.join,zE5,List.mem_append,not_or,List.mem_singleton,Bool.false_or,List.nil_append] at ha hw hi
  rw [ih h ha hw.2 hi,zAf hw.1]
 | cells r0 pre i c n k ih=>intro g g' t ⟨a,qs,t',_,e,h⟩ ha hw hi;subst e;exact ih _ _ h ha hw hi
 | deep r0 pre k ih=>intro g g' t ⟨q,t',_,e,h⟩ ha hw hi;subst e;exact ih _ h ha hw hi
 | wcells r0 pre i c qs k ih =>
  intro g g' t ⟨root,t',_,e,h⟩ ha hw hi
  subst e
  have hI:s≠r0:=by
   rintro rfl
   cases hk:zAp (g s) root pre with
   | true=>have:=hi (s,[]) (by simp [Tok.join,zBe,hk]) rfl;simp at this
   | false=>exact hw (by simp [Tok.join,zBe,hk])
  rw [ih h (by simpa [Tok.join,zBe] using ha) (fun hm=>hw (List.mem_append_right _ hm)) (fun c hm=>hi c (List.mem_append_right _ hm)),zAf hI]
 | wnode r0 pre q k ih =>
  intro g g' t ⟨hl,root,t',hr,e,h⟩ ha hw hi
  subst e
  rw [ih h (by simpa [Tok.join,zBe] using ha) (fun hm=>hw (List.mem_append_right _ hm)) (fun c hm=>hi c (List.mem_append_right _ hm))]
  by_cases hI:s=r0
  ·subst hI
   rw [zAh]
   cases hk:(zAp (g s) root pre&&(pre.isEmpty || !q.isAgg)) with
   | true=>exact zJc hl hr hk (hi (s,pre.dropLast) (by simp only [Tok.join,zBe,hk];simp) rfl) _ _ _
   | false=>exact absurd (by simp only [Tok.join,zBe,hk];simp) hw
  ·rw [zAf hI]
 | kill r0 pre k ih =>
  intro g g' t ⟨D,t',hD,e,h⟩ ha hw hi
  subst e
  simp only [Tok.join,zAN,List.mem_append,not_or,Bool.false_or,List.nil_append] at ha hw hi
  rw [ih h ha hw.2 hi,zDK (hD s hw.1)]
 | frz r0 pre k ih =>
  intro g g' t ⟨_,D,t',q,root,hD,hr,_,_,e,h⟩ ha hw hi
  subst e
  simp only [Tok.join,zAN,List.mem_append,not_or,Bool.false_or,List.nil_append] at ha hw hi
  rw [ih h ha hw.2 hi,zAf (by rintro rfl;exact hw.1 hr),zFs (hD s hw.1)]
 | killEx r0 pre k ih =>
  intro g g' t ⟨D,t',hD,e,h⟩ ha hw hi
  subst e
  simp only [Tok.join,zAN,List.mem_append,not_or,Bool.false_or,List.nil_append] at ha hw hi
  rw [ih h ha hw.2 hi,zCx (hD s hw.1)]
 | forget r0 k ih=>intro g g' t h ha;rw [show t.all=true from h] at ha;cases ha
 | call f args hid k ih=>intro g g' t ⟨v,hid',_,h⟩ ha hw hi;exact ih _ _ h ha hw hi
theorem zIv {D:List Nat} {ok:Nat×zAT→Prop}:∀ {q:PM} {g g':zCG} {t:Tok},q.does o g t g'→t.all=false→(∀ x∈t.ways,ok x)→(∀ s,s∉D→∀ x∈(g s).ways,ok x)→∀ s,s∉D→∀ x∈(g' s).ways,ok x:=by
 have put:∀ {g:zCG} {s0:Nat} {p:PV},(∀ x∈p.ways,ok x)→(∀ s,s∉D→∀ x∈(g s).ways,ok x)→∀ s,s∉D→∀ x∈(upd g s0 p s).ways,ok x:=by
  intro g s0 p hp hg s hs x hx
  by_cases h:s=s0
  ·subst h;rw [zAh] at hx;exact hp x hx
  ·rw [zAf h] at hx;exact hg s hs x hx
 have turn:∀ {g g1:zCG} {D0:List Nat} {t:Tok} {ks ki:List Nat},(∀ x∈(Tok.join (zAN D0 g g1 ks ki) t).ways,ok x)→(∀ s,s∉D0→g1 s=g s)→(∀ s,s∉D→∀ x∈(g s).ways,ok x)→∀ s,s∉D→∀ x∈(g1 s).ways,ok x:=by
  intro g g1 D0 t ks ki hw h1 hg s hs x hx
  by_cases h:s∈D0
  ·exact hw x (List.mem_append_left _ (List.mem_flatMap.2 ⟨s,h,List.mem_append_right _ hx⟩))
  ·rw [h1 s h] at hx;exact hg s hs x hx
 intro q
 induction q with
 | ok=>intro g g' t h _ _ hg;rw [h.2];exact hg
 | fail=>intro g g' t h;cases h
 | view s0 k ih=>intro g g' t ⟨t',e,h⟩ ha hw hi;subst e;exact ih _ h ha hw hi
 | get s0 k ih=>intro g g' t ⟨_,t',e,h⟩ ha hw hi;subst e;exact ih _ h ha hw hi
 | set s0 p k ih =>
  intro g g' t ⟨t',e,h⟩ ha hw hi
  subst e
  exact ih h (by simpa [Tok.join,zE5] using ha) (fun x hx=>hw x (List.mem_append_right _ hx)) (put (fun x hx=>hw x (List.mem_append_left _ (List.mem_append_right _ hx))) hi)
 | cells r pre i c n k ih=>intro g g' t ⟨a,qs,t',_,e,h⟩ ha hw hi;subst e;exact ih _ _ h ha hw hi
 | deep r pre k ih=>intro g g' t ⟨q,t',_,e,h⟩ ha hw hi;subst e;exact ih _ h ha hw hi
 | wcells r pre i c qs k ih =>
  intro g g' t ⟨root,t',_,e,h⟩ ha hw hi
  subst e
  exact ih h (by simpa [Tok.join,zBe] using ha) (fun x hx=>hw x (List.mem_append_right _ hx)) (put (fun x hx=>hw x (List.mem_append_left _ (List.mem_append_right _ hx))) hi)
 | wnode r pre q k ih =>
  intro g g' t ⟨_,root,t',_,e,h⟩ ha hw hi
  subst e
  exact ih h (by simpa [Tok.join,zBe] using ha) (fun x hx=>hw x (List.mem_append_right _ hx)) (put (fun x hx=>hw x (List.mem_append_left _ (List.mem_append_right _ hx))) hi)
 | kill r pre k ih =>
  intro g g' t ⟨D0,t',hD,e,h⟩ ha hw hi
  subst e
  exact ih h (by simpa [Tok.join,zAN] using ha) (fun x hx=>hw x (List.mem_append_right _ hx)) (turn hw (fun s hs=>zDK (hD s hs)) hi)
 | frz r pre k ih =>
  intro g g' t ⟨_,D0,t',q,root,hD,hr,_,_,e,h⟩ ha hw hi
  subst e
  exact ih h (by simpa [Tok.join,zAN] using ha) (fun x hx=>hw x (List.mem_append_right _ hx)) (turn hw (fun s hs=>by rw [zAf (by rintro rfl;exact hs hr),zFs (hD s hs)]) hi)
 | killEx r pre k ih =>
  intro g g' t ⟨D0,t',hD,e,h⟩ ha hw hi
  subst e
  exact ih h (by simpa [Tok.join,zAN] using ha) (fun x hx=>hw x (List.mem_append_right _ hx)) (turn hw (fun s hs=>zCx (hD s hs)) hi)
 | forget r k ih=>intro g g' t h ha;rw [show t.all=true from h] at ha;cases ha
 | call f args hid k ih=>intro g g' t ⟨v,hid',_,h⟩ ha hw hi;exact ih _ _ h ha hw hi
theorem zMF {α:Type} {f:Nat→α} {s:Nat} {x y:α}:upd (upd f s x) s y=upd f s y:=by funext t;simp only [upd];split<;>rfl
theorem zKu {α:Type} {f:Nat→α} {s:Nat}:upd f s (f s)=f:=by
 funext u;simp only [upd];split
 ·rename_i e;rw [e]
 ·rfl
def mix (D:List Nat) (v g:zCG):zCG:=fun s=>if s∈D then v s else g s
theorem zBu {D:List Nat} {v g:zCG} {s:Nat} (h:s∈D):mix D v g s=v s:=if_pos h
theorem zAP {D:List Nat} {v g:zCG} {s:Nat} (h:s∉D):mix D v g s=g s:=if_neg h
theorem zJn {D:List Nat} {v g:zCG} {s:Nat} {p:PV} (h:s∉D):upd (mix D v g) s p=mix D v (upd g s p):=by
 funext u
 by_cases hu:u=s
 ·subst hu;rw [zAh,zAP h,zAh]
 ·rw [zAf hu]
  by_cases hd:u∈D
  ·rw [zBu hd,zBu hd]
  ·rw [zAP hd,zAP hd,zAf hu]
theorem zNa {g:zCG} {s:Nat} {p:PV}:upd g s p=mix [s] (fun _=>p) g:=by
 funext u;simp only [upd,mix,List.mem_singleton]
theorem zCv {D:List Nat} {g g' h h':zCG} {ks ki:List Nat} (h1:∀ s∈D,g s=h s) (h2:∀ s∈D,g' s=h' s):zAN D g g' ks ki=zAN D h h' ks ki:=by
 simp only [zAN]
 congr 1
 induction D with
 | nil=>rfl
 | cons d D ih =>
  simp only [List.flatMap_cons]
  rw [h1 d (by simp),h2 d (by simp),ih (fun s hs=>h1 s (by simp [hs])) (fun s hs=>h2 s (by simp [hs]))]
structure Unseen (D:List Nat) (v g:zCG) (t:Tok):Prop where
 rd:∀ s∈D,s∉t.rd
 wr:∀ s∈D,s∉t.wr
 inn:∀ s∈D,∀ c∈t.inn,c.1≠s
 look:∀ s∈D,s∈t.look→view s (v s)=view s (g s)
 cel:∀ s∈D,∀ c∈t.cel,c.1=s→∀ i c' n,zAj s (v s) c.2 i c' n=zAj s (g s) c.2 i c' n
 kills:∀ s∈D,∀ k∈t.kills,∀ x∈(g s).ways,x.1≠k
 killsIn:∀ s∈D,∀ k∈t.killsIn,∀ x∈(g s).ways,x.1=k→x.2.isEmpty=true
theorem Unseen.rest {D:List Nat} {v g g':zCG} {a t:Tok} (h:Unseen D v g (Tok.join a t)) (hg:∀ s∈D,g' s=g s):Unseen D v g' t :=
 ⟨fun s hs hm=>h.rd s hs (List.mem_append_right _ hm),fun s hs hm=>h.wr s hs (List.mem_append_right _ hm),fun s hs c hm=>h.inn s hs c (List.mem_append_right _ hm),fun s hs hm=>by rw [hg s hs];exact h.look s hs (List.mem_append_right _ hm),
  fun s hs c hm=>by rw [hg s hs];exact h.cel s hs c (List.mem_append_right _ hm),fun s hs k hm=>by rw [hg s hs];exact h.kills s hs k (List.mem_append_right _ hm),fun s hs k hm=>by rw [hg s hs];exact h.killsIn s hs k (List.mem_append_right _ hm)⟩
theorem zGE {r:Nat} {pre:zAT} {x:Nat×zAT} (h:x.1≠r):zAQ r pre x.1 x.2=false:=by
 simp only [zAQ]
 cases hb:Nat.beq x.1 r with
 | true=>exact absurd (Nat.eq_of_beq_eq_true hb) h
 | false=>rfl
theorem zSM {r:Nat} {x:Nat×zAT} (h:x.1=r→x.2.isEmpty=true):(Nat.beq x.1 r && !x.2.isEmpty)=false:=by
 cases hb:Nat.beq x.1 r with
 | true=>rw [h (Nat.eq_of_beq_eq_true hb)];rfl
 | false=>rfl
theorem zFY {D:List Nat} {v:zCG}:∀ {q:PM} {g g':zCG} {t:Tok},q.does o (mix D v g) t g'→t.all=false→Unseen D v g t→q.does o g t (mix D g g'):=by
 intro q
 induction q with
 | ok =>
  intro g g' t h _ _
  refine ⟨h.1,?_⟩
  rw [h.2];funext s
  by_cases hs:s∈D
  ·rw [zBu hs]
  ·rw [zAP hs,zAP hs]
 | fail=>intro g g' t h;cases h
 | view s0 k ih =>
  intro g g' t ⟨t',e,h⟩ ha hu
  subst e
  have hv:view s0 (mix D v g s0)=view s0 (g s0):=by
   by_cases hs:s0∈D
   ·rw [zBu hs];exact hu.look s0 hs (by simp [Tok.join])
   ·rw [zAP hs]
  rw [hv] at h
  exact ⟨t',rfl,ih _ h ha (hu.rest fun _ _=>rfl)⟩
 | get s0 k ih =>
  intro g g' t ⟨yF,t',e,h⟩ ha hu
  subst e
  have hs:s0∉D:=fun hs=>hu.rd s0 hs (by simp [Tok.join])
  rw [zAP hs] at h yF
  exact ⟨yF,t',rfl,ih _ h ha (hu.rest fun _ _=>rfl)⟩
 | set s0 p k ih =>
  intro g g' t ⟨t',e,h⟩ ha hu
  subst e
  have hs:s0∉D:=fun hs=>hu.wr s0 hs (by simp [Tok.join,zE5])
  rw [zAP hs] at hu ⊢
  rw [zJn hs] at h
  have hg:∀ s∈D,upd g s0 p s=g s:=fun s hd=>zAf (by rintro rfl;exact hs hd)
  have:=ih h (by simpa [Tok.join,zE5] using ha) (hu.rest hg)
  refine ⟨t',rfl,?_⟩
  have he:mix D (upd g s0 p) g'=mix D g g':=by
   funext s;by_cases hd:s∈D
   ·rw [zBu hd,zBu hd,hg s hd]
   ·rw [zAP hd,zAP hd]
  rw [← he];exact this
 | cells r0 pre i c n k ih =>
  intro g g' t ⟨a,qs,t',jz,e,h⟩ ha hu
  subst e
  have hv:zAj r0 (g r0) pre i c n=some (a,qs):=by
   by_cases hs:r0∈D
   ·rw [zBu hs] at jz;rw [← hu.cel r0 hs (r0,pre) (by simp [Tok.join]) rfl];exact jz
   ·rw [zAP hs] at jz;exact jz
  exact ⟨a,qs,t',hv,rfl,ih _ _ h ha (hu.rest fun _ _=>rfl)⟩
 | deep r0 pre k ih =>
  intro g g' t ⟨q,t',hn,e,h⟩ ha hu
  subst e
  have hs:r0∉D:=fun hs=>hu.rd r0 hs (by simp [Tok.join])
  rw [zAP hs] at hn
  exact ⟨q,t',hn,rfl,ih _ h ha (hu.rest fun _ _=>rfl)⟩
 | wcells r0 pre i c qs k ih =>
  intro g g' t ⟨root,t',hn,e,h⟩ ha hu
  subst e
  have hs:r0∉D:=by
   intro hs
   cases uN:zAp (mix D v g r0) root pre with
   | true=>exact hu.inn r0 hs (r0,[]) (by simp [Tok.join,zBe,uN]) rfl
   | false=>exact hu.wr r0 hs (by simp [Tok.join,zBe,uN])
  rw [zAP hs] at hn hu ha ⊢
  rw [zJn hs] at h
  have hg:∀ s∈D,upd g r0 root s=g s:=fun s hd=>zAf (by rintro rfl;exact hs hd)
  have:=ih h (by simpa [Tok.join,zBe] using ha) (hu.rest hg)
  refine ⟨root,t',hn,rfl,?_⟩
  have he:mix D (upd g r0 root) g'=mix D g g':=by
   funext s;by_cases hd:s∈D
   ·rw [zBu hd,zBu hd,hg s hd]
   ·rw [zAP hd,zAP hd]
  rw [← he];exact this
 | wnode r0 pre q k ih =>
  intro g g' t ⟨yF,root,t',hn,e,h⟩ ha hu
  subst e
  have hs:r0∉D:=by
   intro hs
   cases uN:(zAp (mix D v g r0) root pre&&(pre.isEmpty || !q.isAgg)) with
   | true=>exact hu.inn r0 hs (r0,pre.dropLast) (by simp only [Tok.join,zBe,uN];simp) rfl
   | false=>exact hu.wr r0 hs (by simp only [Tok.join,zBe,uN];simp)
  rw [zAP hs] at hn yF hu ha ⊢
  rw [zJn hs] at h
  have hg:∀ s∈D,upd g r0 root s=g s:=fun s hd=>zAf (by rintro rfl;exact hs hd)
  have:=ih h (by simpa [Tok.join,zBe] using ha) (hu.rest hg)
  refine ⟨yF,root,t',hn,rfl,?_⟩
  have he:mix D (upd g r0 root) g'=mix D g g':=by
   funext s;by_cases hd:s∈D
   ·rw [zBu hd,zBu hd,hg s hd]
   ·rw [zAP hd,zAP hd]
  rw [← he];exact this
 | kill r0 pre k ih =>
  intro g g' t ⟨D0,t',hD,e,h⟩ ha hu
  subst e
  have y8:∀ s∈D0,s∉D:=fun s h0 hd=>hu.wr s hd (by simp [Tok.join,zAN,h0])
  have hq:∀ s∈D,∀ x∈(g s).ways,zAQ r0 pre x.1 x.2=false:=fun s hd x hx=>zGE (hu.kills s hd r0 (by simp [Tok.join,zAN]) x hx)
  have hg:∀ s∈D,(fun s=>(g s).mapW (lose r0 pre)) s=g s:=fun s hd=>zDK (hq s hd)
  have hm:(fun s=>(mix D v g s).mapW (lose r0 pre))=mix D v (fun s=>(g s).mapW (lose r0 pre)):=by
   funext s;by_cases hd:s∈D
   ·have:=hD s (fun h0=>y8 s h0 hd)
    rw [zBu hd] at this
    rw [zBu hd,zBu hd,zDK this]
   ·rw [zAP hd,zAP hd]
  have ht:=zCv (D:=D0) (g:=mix D v g) (g':=fun s=>(mix D v g s).mapW (lose r0 pre)) (h:=g) (h':=fun s=>(g s).mapW (lose r0 pre)) (ks:=[r0]) (ki:=[]) (fun s h0=>zAP (y8 s h0)) (fun s h0=>by simp only [zAP (y8 s h0)])
  rw [hm] at h
  rw [ht] at hu ha ⊢
  have:=ih h (by simpa [Tok.join,zAN] using ha) (hu.rest hg)
  refine ⟨D0,t',fun s h0 x hx=>?_,rfl,?_⟩
  ·by_cases hd:s∈D
   ·exact hq s hd x hx
   ·exact hD s h0 x (by rw [zAP hd];exact hx)
  ·have he:mix D (fun s=>(g s).mapW (lose r0 pre)) g'=mix D g g':=by
    funext s;by_cases hd:s∈D
    ·rw [zBu hd,zBu hd];exact hg s hd
    ·rw [zAP hd,zAP hd]
   rw [← he];exact this
 | frz r0 pre k ih =>
  intro g g' t ⟨yF,D0,t',q,root,hD,hr,hn,hmn,e,h⟩ ha hu
  subst e
  have y8:∀ s∈D0,s∉D:=fun s h0 hd=>hu.wr s hd (by simp [Tok.join,zAN,h0])
  have vN:=y8 r0 hr
  have hq:∀ s∈D,∀ x∈(g s).ways,zAQ r0 pre x.1 x.2=false:=fun s hd x hx=>zGE (hu.kills s hd r0 (by simp [Tok.join,zAN]) x hx)
  have hg:∀ s∈D,(fun s=>(upd g r0 root s).mapW (inl r0 pre q)) s=g s:=fun s hd=>by
   simp only
   rw [zAf (by rintro rfl;exact vN hd),zFs (hq s hd)]
  have hm:(fun s=>(upd (mix D v g) r0 root s).mapW (inl r0 pre q))=mix D v (fun s=>(upd g r0 root s).mapW (inl r0 pre q)):=by
   rw [zJn vN]
   funext s;by_cases hd:s∈D
   ·have:=hD s (fun h0=>y8 s h0 hd)
    rw [zBu hd] at this
    rw [zBu hd,zBu hd,zFs this]
   ·rw [zAP hd,zAP hd]
  have ht:=zCv (D:=D0) (g:=mix D v g) (g':=fun s=>(upd (mix D v g) r0 root s).mapW (inl r0 pre q)) (h:=g) (h':=fun s=>(upd g r0 root s).mapW (inl r0 pre q)) (ks:=[r0]) (ki:=[]) (fun s h0=>zAP (y8 s h0)) (fun s h0=>by simp only [zJn vN,zAP (y8 s h0)])
  rw [hm] at h
  rw [ht] at hu ha ⊢
  rw [zAP vN] at yF hn hmn
  have:=ih h (by simpa [Tok.join,zAN] using ha) (hu.rest hg)
  refine ⟨yF,D0,t',q,root,fun s h0 x hx=>?_,hr,hn,hmn,rfl,?_⟩
  ·by_cases hd:s∈D
   ·exact hq s hd x hx
   ·exact hD s h0 x (by rw [zAP hd];exact hx)
  ·have he:mix D (fun s=>(upd g r0 root s).mapW (inl r0 pre q)) g'=mix D g g':=by
    funext s;by_cases hd:s∈D
    ·rw [zBu hd,zBu hd];exact hg s hd
    ·rw [zAP hd,zAP hd]
   rw [← he];exact this
 | killEx r0 pre k ih =>
  intro g g' t ⟨D0,t',hD,e,h⟩ ha hu
  subst e
  have y8:∀ s∈D0,s∉D:=fun s h0 hd=>hu.wr s hd (by simp [Tok.join,zAN,h0])
  have hq:∀ s∈D,∀ x∈(g s).ways,(Nat.beq x.1 r0 && !x.2.isEmpty)=false:=fun s hd x hx=>zSM (hu.killsIn s hd r0 (by simp [Tok.join,zAN]) x hx)
  have hg:∀ s∈D,(fun s=>(g s).mapW (zBK r0 pre)) s=g s:=fun s hd=>zCx (hq s hd)
  have hm:(fun s=>(mix D v g s).mapW (zBK r0 pre))=mix D v (fun s=>(g s).mapW (zBK r0 pre)):=by
   funext s;by_cases hd:s∈D
   ·have:=hD s (fun h0=>y8 s h0 hd)
    rw [zBu hd] at this
    rw [zBu hd,zBu hd,zCx this]
   ·rw [zAP hd,zAP hd]
  have ht:=zCv (D:=D0) (g:=mix D v g) (g':=fun s=>(mix D v g s).mapW (zBK r0 pre)) (h:=g) (h':=fun s=>(g s).mapW (zBK r0 pre)) (ks:=[]) (ki:=[r0]) (fun s h0=>zAP (y8 s h0)) (fun s h0=>by simp only [zAP (y8 s h0)])
  rw [hm] at h
  rw [ht] at hu ha ⊢
  have:=ih h (by simpa [Tok.join,zAN] using ha) (hu.rest hg)
  refine ⟨D0,t',fun s h0 x hx=>?_,rfl,?_⟩
  ·by_cases hd:s∈D
   ·exact hq s hd x hx
   ·exact hD s h0 x (by rw [zAP hd];exact hx)
  ·have he:mix D (fun s=>(g s).mapW (zBK r0 pre)) g'=mix D g g':=by
    funext s;by_cases hd:s∈D
    ·rw [zBu hd,zBu hd];exact hg s hd
    ·rw [zAP hd,zAP hd]
   rw [← he];exact this
 | forget r0 k ih=>intro g g' t h ha;rw [show t.all=true from h] at ha;cases ha
 | call f args hid k ih=>intro g g' t ⟨v',hid',ho,h⟩ ha hu;exact ⟨v',hid',ho,ih _ _ h ha hu⟩
theorem zED {D:List Nat} {v g:zCG} {p q:Tok} (h1:Off p q) (h2:Off q p) (hD:∀ s∈D,s∈p.wr) (hw:∀ s∈D,∀ x∈(g s).ways,x∈p.ways):Unseen D v g q :=
 ⟨fun s hs=>h1.rd s (hD s hs),fun s hs=>h1.wr s (hD s hs),fun s hs=>h1.inn s (hD s hs),fun s hs hl=>absurd hl (h1.look s (hD s hs)),fun s hs c hc e=>absurd e (h1.cel s (hD s hs) c hc),
  fun s hs k hk x hx=>h2.ways k hk x (hw s hs x hx),fun s hs k hk x hx=>h2.waysIn k hk x (hw s hs x hx)⟩
theorem zV1 {q:PM}:∀ {p:PM} {g g1 g2:zCG} {tp tq:Tok},p.does o g tp g1→q.does o g1 tq g2→Off tp tq→Off tq tp→∃ m,q.does o g tq m∧p.does o m tp g2:=by
 intro p
 induction p with
 | ok=>intro g g1 g2 tp tq h hq _ _;obtain ⟨rfl,rfl⟩:=h;exact ⟨g2,hq,rfl,rfl⟩
 | fail=>intro g g1 g2 tp tq h;cases h
 | view s k ih =>
  intro g g1 g2 tp tq ⟨t',e,h⟩ hq h1 h2
  subst e
  obtain ⟨m,hm,hk⟩:=ih _ h hq h1.left' h2.right'
  refine ⟨m,hm,t',rfl,?_⟩
  rw [zPl hm h2.all (fun hw=>h2.look s hw (by simp [Tok.join]))];exact hk
 | get s k ih =>
  intro g g1 g2 tp tq ⟨hl,t',e,h⟩ hq h1 h2
  subst e
  obtain ⟨m,hm,hk⟩:=ih _ h hq h1.left' h2.right'
  have:=zDu hm h2.all (fun hw=>h2.rd s hw (by simp [Tok.join])) (fun c hc e=>h2.ird c hc (by rw [e];simp [Tok.join]))
  exact ⟨m,hm,by rw [this];exact hl,t',rfl,by rw [this];exact hk⟩
 | set s v k ih =>
  intro g g1 g2 tp tq ⟨t',e,h⟩ hq h1 h2
  subst e
  obtain ⟨m,hm,hk⟩:=ih h hq h1.left' h2.right'
  have hw:s∈(Tok.join (zE5 s (g s) v) t').wr:=by simp [Tok.join,zE5]
  have qc:m s=v:=by rw [zDu hm h2.all (h1.wr s hw) (h1.inn s hw),zAh]
  have hu:Unseen [s] (fun _=>v) g tq:=zED h1 h2 (fun u hu=>by rw [List.mem_singleton.1 hu];exact hw) (fun u hu x hx=>by
   rw [List.mem_singleton.1 hu] at hx
   exact List.mem_append_left _ (List.mem_append_left _ hx))
  rw [zNa] at hm
  have hd:=zFY hm h2.all hu
  have he:mix [s] g m=upd m s (g s):=by funext u;simp only [upd,mix,List.mem_singleton];split<;>simp_all
  rw [he] at hd
  refine ⟨_,hd,t',by rw [zAh],?_⟩
  rw [zMF,← qc,zKu];exact hk
 | cells r pre i c n k ih =>
  intro g g1 g2 tp tq ⟨a,qs,t',jz,e,h⟩ hq h1 h2
  subst e
  obtain ⟨m,hm,hk⟩:=ih _ _ h hq h1.left' h2.right'
  refine ⟨m,hm,a,qs,t',?_,rfl,hk⟩
  rw [zOJ hm h2.all (fun hw=>h2.cel r hw (r,pre) (by simp [Tok.join]) rfl) (fun w hw e=>h2.icel w hw (r,pre) (by simp [Tok.join]) e)];exact jz
 | deep r pre k ih =>
  intro g g1 g2 tp tq ⟨q,t',hn,e,h⟩ hq h1 h2
  subst e
  obtain ⟨m,hm,hk⟩:=ih _ h hq h1.left' h2.right'
  have:=zDu hm h2.all (fun hw=>h2.rd r hw (by simp [Tok.join])) (fun c hc e=>h2.ird c hc (by rw [e];simp [Tok.join]))
  exact ⟨m,hm,q,t',by rw [this];exact hn,rfl,hk⟩
 | wcells r pre i c qs k ih =>
  intro g g1 g2 tp tq ⟨root,t',hn,e,h⟩ hq h1 h2
  subst e
  obtain ⟨m,hm,hk⟩:=ih h hq h1.left' h2.right'
  have yi:∀ x∈(g r).ways,x∈(Tok.join (zBe r [] (zAp (g r) root pre) (g r) root) t').ways:=fun x hx=>List.mem_append_left _ (List.mem_append_left _ hx)
  have fin:m r=root→Unseen [r] (fun _=>root) g tq→∃ m,q.does o g tq m∧(PM.wcells r pre i c qs k).does o m (Tok.join (zBe r [] (zAp (g r) root pre) (g r) root) t') g2:=by
   intro qc hu
   rw [zNa] at hm
   have hd:=zFY hm h2.all hu
   have he:mix [r] g m=upd m r (g r):=by funext u;simp only [upd,mix,List.mem_singleton];split<;>simp_all
   rw [he] at hd
   refine ⟨_,hd,root,t',by rw [zAh];exact hn,by rw [zAh],?_⟩
   rw [zMF,← qc,zKu];exact hk
  cases uN:zAp (g r) root pre with
  | true =>
   rw [uN] at h1 h2 fin yi
   have hin:(r,([]:zAT))∈(Tok.join (zBe r [] true (g r) root) t').inn:=by simp [Tok.join,zBe]
   have hw:r∉tq.wr:=fun hw=>h2.inn r hw _ hin rfl
   have hi:∀ c∈tq.inn,c.1≠r:=h1.iinn _ hin
   have hcel:∀ c∈tq.cel,c.1≠r:=fun c hc e=>by have:=h1.icel _ hin c hc e;simp at this
   refine fin (by rw [zDu hm h2.all hw hi,zAh]) ⟨fun s hs=>?_,fun s hs=>?_,fun s hs=>?_,fun s hs _=>?_,fun s hs c hc e=>?_,fun s hs k hk x hx=>?_,fun s hs k hk x hx=>?_⟩<;>rw [List.mem_singleton.1 hs] at *
   ·exact h1.ird _ hin
   ·exact hw
   ·exact hi
   ·simp only [zA5] at hn
    revert hn
    cases (zDr (g r) pre && !(zBB qs).isEmpty) with
    | true=>intro hr;cases hr
    | false=>intro hr;exact (zGW hr uN).symm
   ·exact absurd e (hcel c hc)
   ·exact h2.ways k hk x (yi x hx)
   ·exact h2.waysIn k hk x (yi x hx)
  | false =>
   rw [uN] at h1 h2 fin yi
   have hw:r∈(Tok.join (zBe r [] false (g r) root) t').wr:=by simp [Tok.join,zBe]
   exact fin (by rw [zDu hm h2.all (h1.wr r hw) (h1.inn r hw),zAh]) (zED h1 h2 (fun u hu=>by rw [List.mem_singleton.1 hu];exact hw) (fun u hu x hx=>by rw [List.mem_singleton.1 hu] at hx;exact yi x hx))
 | wnode r pre q0 k ih =>
  intro g g1 g2 tp tq ⟨yF,root,t',hn,e,h⟩ hq h1 h2
  subst e
  obtain ⟨m,hm,hk⟩:=ih h hq h1.left' h2.right'
  have yi:∀ x∈(g r).ways,x∈(Tok.join (zBe r pre.dropLast (zAp (g r) root pre&&(pre.isEmpty || !q0.isAgg)) (g r) root) t').ways:=fun x hx=>List.mem_append_left _ (List.mem_append_left _ hx)
  have fin:m r=root→Unseen [r] (fun _=>root) g tq→∃ m,q.does o g tq m∧(PM.wnode r pre q0 k).does o m (Tok.join (zBe r pre.dropLast (zAp (g r) root pre&&(pre.isEmpty || !q0.isAgg)) (g r) root) t') g2:=by
   intro qc hu
   rw [zNa] at hm
   have hd:=zFY hm h2.all hu
   have he:mix [r] g m=upd m r (g r):=by funext u;simp only [upd,mix,List.mem_singleton];split<;>simp_all
   rw [he] at hd
   refine ⟨_,hd,by rw [zAh];exact yF,root,t',by rw [zAh];exact hn,by rw [zAh],?_⟩
   rw [zMF,← qc,zKu];exact hk
  cases uN:(zAp (g r) root pre&&(pre.isEmpty || !q0.isAgg)) with
  | true =>
   rw [uN] at h1 h2 fin yi
   have hin:(r,pre.dropLast)∈(Tok.join (zBe r pre.dropLast true (g r) root) t').inn:=by simp [Tok.join,zBe]
   have hw:r∉tq.wr:=fun hw=>h2.inn r hw _ hin rfl
   have hi:∀ c∈tq.inn,c.1≠r:=h1.iinn _ hin
   refine fin (by rw [zDu hm h2.all hw hi,zAh]) ⟨fun s hs=>?_,fun s hs=>?_,fun s hs=>?_,fun s hs _=>?_,fun s hs c hc e i c' n=>?_,fun s hs k hk x hx=>?_,fun s hs k hk x hx=>?_⟩<;>rw [List.mem_singleton.1 hs] at *
   ·exact h1.ird _ hin
   ·exact hw
   ·exact hi
   ·rw [Bool.and_eq_true] at uN
    exact (zGW hn uN.1).symm
   ·exact zJc yF hn uN (h1.icel _ hin c hc e) i c' n
   ·exact h2.ways k hk x (yi x hx)
   ·exact h2.waysIn k hk x (yi x hx)
  | false =>
   rw [uN] at h1 h2 fin yi
   have hw:r∈(Tok.join (zBe r pre.dropLast false (g r) root) t').wr:=by simp [Tok.join,zBe]
   exact fin (by rw [zDu hm h2.all (h1.wr r hw) (h1.inn r hw),zAh]) (zED h1 h2 (fun u hu=>by rw [List.mem_singleton.1 hu];exact hw) (fun u hu x hx=>by rw [List.mem_singleton.1 hu] at hx;exact yi x hx))
 | kill r pre k ih =>
  intro g g1 g2 tp tq ⟨D,t',hD,e,h⟩ hq h1 h2
  subst e
  obtain ⟨m,hm,hk⟩:=ih h hq h1.left' h2.right'
  have hw:∀ s∈D,s∈(Tok.join (zAN D g (fun s=>(g s).mapW (lose r pre)) [r] []) t').wr:=fun s hs=>List.mem_append_left _ hs
  have hu:Unseen D (fun s=>(g s).mapW (lose r pre)) g tq:=zED h1 h2 hw (fun s hs x hx=>List.mem_append_left _ (List.mem_flatMap.2 ⟨s,hs,List.mem_append_left _ hx⟩))
  have kP:(fun s=>(g s).mapW (lose r pre))=mix D (fun s=>(g s).mapW (lose r pre)) g:=by
   funext s;by_cases hs:s∈D
   ·rw [zBu hs]
   ·rw [zAP hs,zDK (hD s hs)]
  have hmD:∀ s∈D,m s=(g s).mapW (lose r pre):=fun s hs=>zDu hm h2.all (h1.wr s (hw s hs)) (h1.inn s (hw s hs))
  have yw:=zIv (D:=D) (ok:=fun x=>zAQ r pre x.1 x.2=false) hm h2.all (fun x hx=>zGE (h1.ways r (by simp [Tok.join,zAN]) x hx)) (fun s hs x hx=>hD s hs x (by rw [zDK (hD s hs)] at hx;exact hx))
  rw [kP] at hm
  have hd:=zFY hm h2.all hu
  have y4:(fun s=>(mix D g m s).mapW (lose r pre))=m:=by
   funext s;by_cases hs:s∈D
   ·rw [zBu hs,hmD s hs]
   ·rw [zAP hs,zDK (yw s hs)]
  refine ⟨_,hd,D,t',fun s hs x hx=>yw s hs x (by rw [zAP hs] at hx;exact hx),?_,by rw [y4];exact hk⟩
  rw [zCv (g:=g) (h:=mix D g m) (h':=fun s=>(mix D g m s).mapW (lose r pre)) (fun s hs=>(zBu hs).symm) (fun s hs=>by simp only [zBu hs])]
 | frz r pre k ih =>
  intro g g1 g2 tp tq ⟨yF,D,t',q0,root,hD,hr,hn,hmn,e,h⟩ hq h1 h2
  subst e
  obtain ⟨m,hm,hk⟩:=ih h hq h1.left' h2.right'
  have hw:∀ s∈D,s∈(Tok.join (zAN D g (fun s=>(upd g r root s).mapW (inl r pre q0)) [r] []) t').wr:=fun s hs=>List.mem_append_left _ hs
  have hu:Unseen D (fun s=>(upd g r root s).mapW (inl r pre q0)) g tq:=zED h1 h2 hw (fun s hs x hx=>List.mem_append_left _ (List.mem_flatMap.2 ⟨s,hs,List.mem_append_left _ hx⟩))
  have y8:∀ s,s∉D→(upd g r root s).mapW (inl r pre q0)=g s:=fun s hs=>by rw [zAf (by rintro rfl;exact hs hr),zFs (hD s hs)]
  have kP:(fun s=>(upd g r root s).mapW (inl r pre q0))=mix D (fun s=>(upd g r root s).mapW (inl r pre q0)) g:=by
   funext s;by_cases hs:s∈D
   ·rw [zBu hs]
   ·rw [zAP hs,y8 s hs]
  have hmD:∀ s∈D,m s=(upd g r root s).mapW (inl r pre q0):=fun s hs=>zDu hm h2.all (h1.wr s (hw s hs)) (h1.inn s (hw s hs))
  have yw:=zIv (D:=D) (ok:=fun x=>zAQ r pre x.1 x.2=false) hm h2.all (fun x hx=>zGE (h1.ways r (by simp [Tok.join,zAN]) x hx)) (fun s hs x hx=>hD s hs x (by rw [y8 s hs] at hx;exact hx))
  rw [kP] at hm
  have hd:=zFY hm h2.all hu
  have y4:(fun s=>(upd (mix D g m) r root s).mapW (inl r pre q0))=m:=by
   funext s;by_cases hs:s∈D
   ·rw [hmD s hs]
    by_cases yW:s=r
    ·subst yW;rw [zAh,zAh]
    ·rw [zAf yW,zAf yW,zBu hs]
   ·rw [zAf (by rintro rfl;exact hs hr),zAP hs,zFs (yw s hs)]
  have hmr:mix D g m r=g r:=zBu hr
  refine ⟨_,hd,by rw [hmr];exact yF,D,t',q0,root,fun s hs x hx=>yw s hs x (by rw [zAP hs] at hx;exact hx),hr,by rw [hmr];exact hn,by rw [hmr];exact hmn,?_,by rw [y4];exact hk⟩
  rw [zCv (g:=g) (h:=mix D g m) (fun s hs=>(zBu hs).symm) (fun s hs=>by
   show (upd g r root s).mapW (inl r pre q0)=(upd (mix D g m) r root s).mapW (inl r pre q0)
   by_cases yW:s=r
   ·subst yW;rw [zAh,zAh]
   ·rw [zAf yW,zAf yW,zBu hs])]
 | killEx r pre k ih =>
  intro g g1 g2 tp tq ⟨D,t',hD,e,h⟩ hq h1 h2
  subst e
  obtain ⟨m,hm,hk⟩:=ih h hq h1.left' h2.right'
  have hw:∀ s∈D,s∈(Tok.join (zAN D g (fun s=>(g s).mapW (zBK r pre)) [] [r]) t').wr:=fun s hs=>List.mem_append_left _ hs
  have hu:Unseen D (fun s=>(g s).mapW (zBK r pre)) g tq:=zED h1 h2 hw (fun s hs x hx=>List.mem_append_left _ (List.mem_flatMap.2 ⟨s,hs,List.mem_append_left _ hx⟩))
  have kP:(fun s=>(g s).mapW (zBK r pre))=mix D (fun s=>(g s).mapW (zBK r pre)) g:=by
   funext s;by_cases hs:s∈D
   ·rw [zBu hs]
   ·rw [zAP hs,zCx (hD s hs)]
  have hmD:∀ s∈D,m s=(g s).mapW (zBK r pre):=fun s hs=>zDu hm h2.all (h1.wr s (hw s hs)) (h1.inn s (hw s hs))
  have yw:=zIv (D:=D) (ok:=fun x=>(Nat.beq x.1 r && !x.2.isEmpty)=false) hm h2.all (fun x hx=>zSM (h1.waysIn r (by simp [Tok.join,zAN]) x hx)) (fun s hs x hx=>hD s hs x (by rw [zCx (hD s hs)] at hx;exact hx))
  rw [kP] at hm
  have hd:=zFY hm h2.all hu
  have y4:(fun s=>(mix D g m s).mapW (zBK r pre))=m:=by
   funext s;by_cases hs:s∈D
   ·rw [zBu hs,hmD s hs]
   ·rw [zAP hs,zCx (yw s hs)]
  refine ⟨_,hd,D,t',fun s hs x hx=>yw s hs x (by rw [zAP hs] at hx;exact hx),?_,by rw [y4];exact hk⟩
  rw [zCv (g:=g) (h:=mix D g m) (h':=fun s=>(mix D g m s).mapW (zBK r pre)) (fun s hs=>(zBu hs).symm) (fun s hs=>by simp only [zBu hs])]
 | forget r k ih=>intro g g1 g2 tp tq h hq h1 h2;have:=h1.all;rw [show tp.all=true from h] at this;cases this
 | call f args hid k ih =>
  intro g g1 g2 tp tq ⟨v',hid',ho,h⟩ hq h1 h2
  obtain ⟨m,hm,hk⟩:=ih _ _ h hq h1 h2
  exact ⟨m,hm,v',hid',ho,hk⟩
theorem zBi (e:Env) (s:Nat) (p:PV):(e.set s p).get=upd e.get s p:=by
 funext t;rw [Env.get_set];rfl
theorem zFl {e:Env} {h:Nat×zAT→Bool}:∀ s,s∉zC4 e h→∀ x∈(e.get s).ways,h x=false:=by
 intro s hs x hx
 cases hh:h x with
 | false=>rfl
 | true =>
  exfalso
  refine hs ?_
  clear hs
  induction e with
  | nil=>cases hx
  | cons y e ih =>
   obtain ⟨k,v⟩:=y
   simp only [Env.get] at hx
   cases hb:Nat.beq k s with
   | true =>
    rw [hb] at hx
    have hk:=Nat.eq_of_beq_eq_true hb
    exact List.mem_map.2 ⟨(k,v),List.mem_filter.2 ⟨by simp,List.any_eq_true.2 ⟨x,hx,hh⟩⟩,hk⟩
   | false =>
    rw [hb] at hx
    obtain ⟨y,hy,w5⟩:=List.mem_map.1 (ih hx)
    obtain ⟨h1,h2⟩:=List.mem_filter.1 hy
    exact List.mem_map.2 ⟨y,List.mem_filter.2 ⟨by simp [h1],h2⟩,w5⟩
theorem zTd {e e':Env} {r:Nat} {pre:zAT} (h:e.frz r pre=some e') :
  (e.get r).isLock=false∧∃ q root,zAz (e.get r) pre=some q∧zAr (fun _=>some (zAZ q)) (e.get r) pre=some root∧e'.get=fun s=>(upd e.get r root s).mapW (inl r pre q):=by
 simp only [Env.frz] at h
 cases hl:(e.get r).isLock with
 | true=>rw [hl] at h;cases h
 | false =>
  rw [hl] at h;simp only [cond_false] at h
  cases hn:zAz (e.get r) pre with
  | none=>rw [hn] at h;cases h
  | some q =>
   rw [hn] at h;simp only at h
   cases hm:zAr (fun _=>some (zAZ q)) (e.get r) pre with
   | none=>rw [hm] at h;cases h
   | some root =>
    rw [hm] at h;simp only [Option.some.injEq] at h
    subst h
    refine ⟨rfl,q,root,rfl,hm,?_⟩
    funext s
    rw [Env.get_map (e.set r root) (g:=fun p=>p.mapW (inl r pre q)) rfl s,zBi]
theorem zHZ:∀ {p:PM} {e e':Env} {t:Tok},p.runT o e=some (e',t)→t.all=true∨p.does o e.get t e'.get:=by
 intro p
 induction p with
 | ok=>intro e e' t h;simp only [PM.runT,Option.some.injEq,Prod.mk.injEq] at h;obtain ⟨rfl,rfl⟩:=h;exact .inr ⟨rfl,rfl⟩
 | fail=>intro e e' t h;cases h
 | view s k ih =>
  intro e e' t h
  simp only [PM.runT,Option.map_eq_some_iff] at h
  obtain ⟨⟨e1,t1⟩,h,hx⟩:=h
  cases hx
  rcases ih _ h with ha | hd
  ·exact .inl (by simp [Tok.join,ha])
  ·exact .inr ⟨t1,rfl,hd⟩
 | get s k ih =>
  intro e e' t h
  simp only [PM.runT] at h
  split at h
  ·cases h
  ·rename_i qC
   simp only [Option.map_eq_some_iff] at h
   obtain ⟨⟨e1,t1⟩,h,hx⟩:=h
   cases hx
   rcases ih _ h with ha | hd
   ·exact .inl (by simp [Tok.join,ha])
   ·refine .inr ⟨?_,t1,rfl,hd⟩
    cases hl:e.get s<;>first | rfl | exact absurd hl (qC _)
 | set s v k ih =>
  intro e e' t h
  simp only [PM.runT,Option.map_eq_some_iff] at h
  obtain ⟨⟨e1,t1⟩,h,hx⟩:=h
  cases hx
  rcases ih h with ha | hd
  ·exact .inl (by simp [Tok.join,ha])
  ·exact .inr ⟨t1,rfl,by rw [zBi] at hd;exact hd⟩
 | cells r pre i c n k ih =>
  intro e e' t h
  simp only [PM.runT] at h
  split at h
  ·rename_i a qs jz
   simp only [Option.map_eq_some_iff] at h
   obtain ⟨⟨e1,t1⟩,h,hx⟩:=h
   cases hx
   rcases ih _ _ h with ha | hd
   ·exact .inl (by simp [Tok.join,ha])
   ·exact .inr ⟨a,qs,t1,jz,rfl,hd⟩
  ·cases h
 | deep r pre k ih =>
  intro e e' t h
  simp only [PM.runT] at h
  split at h
  ·rename_i q hn
   simp only [Option.map_eq_some_iff] at h
   obtain ⟨⟨e1,t1⟩,h,hx⟩:=h
   cases hx
   rcases ih _ h with ha | hd
   ·exact .inl (by simp [Tok.join,ha])
   ·exact .inr ⟨q,t1,hn,rfl,hd⟩
  ·cases h
 | wcells r pre i c qs k ih =>
  intro e e' t h
  simp only [PM.runT] at h
  split at h
  ·rename_i root hn
   simp only [Option.map_eq_some_iff] at h
   obtain ⟨⟨e1,t1⟩,h,hx⟩:=h
   cases hx
   rcases ih h with ha | hd
   ·exact .inl (by simp [Tok.join,ha])
   ·exact .inr ⟨root,t1,hn,rfl,by rw [zBi] at hd;exact hd⟩
  ·cases h
 | wnode r pre q k ih =>
  intro e e' t h
  simp only [PM.runT] at h
  cases hl:(e.get r).isLock with
  | true=>rw [hl] at h;cases h
  | false =>
   rw [hl] at h;simp only [cond_false] at h
   split at h
   ·rename_i root hn
    simp only [Option.map_eq_some_iff] at h
    obtain ⟨⟨e1,t1⟩,h,hx⟩:=h
    cases hx
    rcases ih h with ha | hd
    ·exact .inl (by simp [Tok.join,ha])
    ·exact .inr ⟨hl,root,t1,hn,rfl,by rw [zBi] at hd;exact hd⟩
   ·cases h
 | kill r pre k ih =>
  intro e e' t h
  simp only [PM.runT,Option.map_eq_some_iff] at h
  obtain ⟨⟨e1,t1⟩,h,hx⟩:=h
  cases hx
  rcases ih h with hb | hd
  ·exact .inl (by simp [Tok.join,zAN,hb])
  ·have hg:(e.kill r pre).get=fun s=>(e.get s).mapW (lose r pre):=by funext s;rw [Env.get_kill]
   rw [hg] at hd ⊢
   exact .inr ⟨_,t1,zFl,rfl,hd⟩
 | frz r pre k ih =>
  intro e e' t h
  simp only [PM.runT] at h
  split at h
  ·rename_i e2 h2
   simp only [Option.map_eq_some_iff] at h
   obtain ⟨⟨e1,t1⟩,h,hx⟩:=h
   cases hx
   rcases ih h with hb | hd
   ·exact .inl (by simp [Tok.join,zAN,hb])
   ·obtain ⟨hl,q,root,hn,hm,hg⟩:=zTd h2
    rw [hg] at hd ⊢
    exact .inr ⟨hl,_,t1,q,root,fun s hs=>zFl s (fun hm=>hs (List.mem_cons_of_mem _ hm)),by simp,hn,hm,rfl,hd⟩
  ·cases h
 | killEx r keep k ih =>
  intro e e' t h
  simp only [PM.runT,Option.map_eq_some_iff] at h
  obtain ⟨⟨e1,t1⟩,h,hx⟩:=h
  cases hx
  rcases ih h with hb | hd
  ·exact .inl (by simp [Tok.join,zAN,hb])
  ·have hg:(e.killEx r keep).get=fun s=>(e.get s).mapW (zBK r keep):=by funext s;rw [Env.get_killEx]
   rw [hg] at hd ⊢
   exact .inr ⟨_,t1,zFl,rfl,hd⟩
 | forget r k ih =>
  intro e e' t h
  simp only [PM.runT,Option.map_eq_some_iff] at h
  obtain ⟨⟨e1,t1⟩,h,hx⟩:=h
  cases hx
  exact .inl rfl
 | call f args hid k ih =>
  intro e e' t h
  simp only [PM.runT] at h
  split at h
  ·rename_i v hid' ho
   rcases ih _ _ h with ha | hd
   ·exact .inl ha
   ·exact .inr ⟨v,hid',ho,hd⟩
  ·cases h
theorem zM4:∀ {p:PM} {e:Env} {g':zCG} {t:Tok},p.does o e.get t g'→t.all=false→∃ e',p.run o e=some e'∧e'.get=g':=by
 intro p
 induction p with
 | ok=>intro e g' t h _;exact ⟨e,rfl,h.2.symm⟩
 | fail=>intro e g' t h;cases h
 | view s k ih =>
  intro e g' t ⟨t',he,h⟩ ha
  subst he;exact ih _ h ha
 | get s k ih =>
  intro e g' t ⟨hl,t',he,h⟩ ha
  subst he
  obtain ⟨e',h1,h2⟩:=ih _ h ha
  refine ⟨e',?_,h2⟩
  simp only [PM.run]
  split
  ·rename_i p hp;rw [hp] at hl;cases hl
  ·exact h1
 | set s v k ih =>
  intro e g' t ⟨t',he,h⟩ ha
  subst he
  exact ih (e:=e.set s v) (by rw [zBi];exact h) (by simpa [Tok.join,zE5] using ha)
 | cells r pre i c n k ih =>
  intro e g' t ⟨a,qs,t',jz,he,h⟩ ha
  subst he
  obtain ⟨e',h1,h2⟩:=ih _ _ h ha
  exact ⟨e',by simp only [PM.run,jz];exact h1,h2⟩
 | deep r pre k ih =>
  intro e g' t ⟨q,t',hn,he,h⟩ ha
  subst he
  obtain ⟨e',h1,h2⟩:=ih _ h ha
  exact ⟨e',by simp only [PM.run,hn];exact h1,h2⟩
 | wcells r pre i c qs k ih =>
  intro e g' t ⟨root,t',hn,he,h⟩ ha
  subst he
  obtain ⟨e',h1,h2⟩:=ih (e:=e.set r root) (by rw [zBi];exact h) (by simpa [Tok.join,zBe] using ha)
  exact ⟨e',by simp only [PM.run,hn];exact h1,h2⟩
 | wnode r pre q k ih =>
  intro e g' t ⟨hl,root,t',hn,he,h⟩ ha
  subst he
  obtain ⟨e',h1,h2⟩:=ih (e:=e.set r root) (by rw [zBi];exact h) (by simpa [Tok.join,zBe] using ha)
  exact ⟨e',by simp only [PM.run,hl,cond_false,hn];exact h1,h2⟩
 | kill r pre k ih =>
  intro e g' t ⟨D,t',hD,he,h⟩ ha
  subst he
  exact ih (e:=e.kill r pre) (t:=t') (by
   have:(e.kill r pre).get=fun s=>(e.get s).mapW (lose r pre):=by funext s;rw [Env.get_kill]
   rw [this];exact h) (by simpa [Tok.join,zAN] using ha)
 | frz r pre k ih =>
  intro e g' t ⟨hl,D,t',q,root,hD,hr,hn,hm,he,h⟩ ha
  subst he
  have hf:e.frz r pre=some ((e.set r root).map fun x=>(x.1,x.2.mapW (inl r pre q))):=by
   simp only [Env.frz,hl,cond_false,hn,hm]
  have hg:Env.get ((e.set r root).map fun x=>(x.1,x.2.mapW (inl r pre q)))=fun s=>(upd e.get r root s).mapW (inl r pre q):=by
   funext s;rw [Env.get_map (e.set r root) (g:=fun p=>p.mapW (inl r pre q)) rfl s,zBi]
  obtain ⟨e',h1,h2⟩:=ih (e:=(e.set r root).map fun x=>(x.1,x.2.mapW (inl r pre q))) (t:=t') (by rw [hg];exact h) (by simpa [Tok.join,zAN] using ha)
  exact ⟨e',by simp only [PM.run,hf];exact h1,h2⟩
 | killEx r keep k ih =>
  intro e g' t ⟨D,t',hD,he,h⟩ ha
  subst he
  exact ih (e:=e.killEx r keep) (t:=t') (by
   have:(e.killEx r keep).get=fun s=>(e.get s).mapW (zBK r keep):=by funext s;rw [Env.get_killEx]
   rw [this];exact h) (by simpa [Tok.join,zAN] using ha)
 | forget r k ih=>intro e g' t h ha;rw [show t.all=true from h] at ha;cases ha
 | call f args hid k ih =>
  intro e g' t ⟨v,hid',ho,h⟩ ha
  obtain ⟨e',h1,h2⟩:=ih _ _ h ha
  exact ⟨e',by simp only [PM.run,ho];exact h1,h2⟩
end
section
variable {o:zAL}
theorem zEI (e:Env) (h s:Nat):(e.forget h).get s=if s=h∨(e.get s).num=true then e.get s else .bad:=by
 induction e with
 | nil=>exact (ite_self (c:=s=h∨PV.bad.num=true) PV.bad).symm
 | cons x e ih =>
  obtain ⟨k,v⟩:=x
  have ih:Env.get (List.map (fun x=>bif Nat.beq x.1 h||x.2.num then x else (x.1,PV.bad)) e) s=_:=ih
  simp only [Env.forget,List.map_cons]
  cases hb:Nat.beq k s with
  | true =>
   have hk:=Nat.eq_of_beq_eq_true hb
   subst hk
   have e1:Env.get ((k,v)::e) k=v:=by simp only [Env.get,hb,cond_true]
   rw [e1]
   cases hc:(Nat.beq k h||v.num) with
   | true =>
    rw [cond_true]
    simp only [Env.get,hb,cond_true]
    rw [Bool.or_eq_true] at hc
    rw [if_pos (hc.imp (fun h=>Nat.eq_of_beq_eq_true h) id)]
   | false =>
    rw [cond_false]
    simp only [Env.get,hb,cond_true]
    rw [Bool.or_eq_false_iff] at hc
    rw [if_neg]
    rintro (h1 | h1)
    ·subst h1;rw [Nat.beq_refl] at hc;cases hc.1
    ·rw [hc.2] at h1;cases h1
  | false =>
   have e1:Env.get ((k,v)::e) s=Env.get e s:=by simp only [Env.get,hb,cond_false]
   rw [e1,← ih]
   cases (Nat.beq k h||v.num)<;>simp only [cond_true,cond_false,Env.get,hb]
theorem zP3 {e f e1:Env} {r:Nat} {pre:zAT} (he:f.get=e.get) (h:e.frz r pre=some e1):∃ f1,f.frz r pre=some f1∧f1.get=e1.get:=by
 simp only [Env.frz] at h ⊢
 rw [he]
 cases hl:(e.get r).isLock with
 | true=>rw [hl] at h;cases h
 | false =>
  rw [hl] at h;simp only [cond_false] at h ⊢
  cases hn:zAz (e.get r) pre with
  | none=>rw [hn] at h;cases h
  | some q =>
   rw [hn] at h;simp only at h ⊢
   cases hm:zAr (fun _=>some (zAZ q)) (e.get r) pre with
   | none=>rw [hm] at h;cases h
   | some root =>
    rw [hm] at h;simp only [Option.some.injEq] at h ⊢
    subst h
    refine ⟨_,rfl,?_⟩
    funext s
    rw [Env.get_map (f.set r root) (g:=fun p=>p.mapW (inl r pre q)) rfl s,Env.get_map (e.set r root) (g:=fun p=>p.mapW (inl r pre q)) rfl s,zBi,zBi,he]
theorem zFt:∀ {p:PM} {e f e1:Env},f.get=e.get→p.run o e=some e1→∃ f1,p.run o f=some f1∧f1.get=e1.get:=by
 intro p
 induction p with
 | ok=>intro e f e1 he h;simp only [PM.run,Option.some.injEq] at h;subst h;exact ⟨f,rfl,he⟩
 | fail=>intro e f e1 he h;cases h
 | view s k ih=>intro e f e1 he h;simp only [PM.run] at h ⊢;rw [he];exact ih _ he h
 | get s k ih =>
  intro e f e1 he h
  simp only [PM.run] at h ⊢
  rw [he]
  split at h
  ·cases h
  ·exact ih _ he h
 | set s v k ih=>intro e f e1 he h;exact ih (by rw [zBi,zBi,he]) h
 | cells r pre i c n k ih =>
  intro e f e1 he h
  simp only [PM.run] at h ⊢
  rw [he]
  split at h
  ·exact ih _ _ he h
  ·cases h
 | deep r pre k ih =>
  intro e f e1 he h
  simp only [PM.run] at h ⊢
  rw [he]
  split at h
  ·exact ih _ he h
  ·cases h
 | wcells r pre i c qs k ih =>
  intro e f e1 he h
  simp only [PM.run] at h ⊢
  rw [he]
  split at h
  ·exact ih (by rw [zBi,zBi,he]) h
  ·cases h
 | wnode r pre q k ih =>
  intro e f e1 he h
  simp only [PM.run] at h ⊢
  rw [he]
  cases hl:(e.get r).isLock with
  | true=>rw [hl] at h;cases h
  | false =>
   rw [hl] at h;simp only [cond_false] at h ⊢
   split at h
   ·exact ih (by rw [zBi,zBi,he]) h
   ·cases h
 | kill r pre k ih=>intro e f e1 he h;exact ih (by funext s;rw [Env.get_kill,Env.get_kill,he]) h
 | frz r pre k ih =>
  intro e f e1 he h
  simp only [PM.run] at h ⊢
  split at h
  ·rename_i e2 h2
   obtain ⟨f2,jf,hg⟩:=zP3 he h2
   rw [jf]
   exact ih hg h
  ·cases h
 | killEx r pre k ih=>intro e f e1 he h;exact ih (by funext s;rw [Env.get_killEx,Env.get_killEx,he]) h
 | forget r k ih=>intro e f e1 he h;exact ih (by funext s;rw [zEI,zEI,he]) h
 | call f args hid k ih =>
  intro e f e1 he h
  simp only [PM.run] at h ⊢
  split at h
  ·exact ih _ _ he h
  ·cases h
theorem zD3:∀ {p:PM} {e e1:Env} {t:Tok},p.runT o e=some (e1,t)→p.run o e=some e1:=by
 have mp:∀ {x:Option (Env×Tok)} {f:Tok→Tok} {e1:Env} {t:Tok},(x.map fun y=>(y.1,f y.2))=some (e1,t)→∃ t',x=some (e1,t'):=by
  intro x f e1 t h
  cases x with
  | none=>cases h
  | some y=>simp only [Option.map_some,Option.some.injEq,Prod.mk.injEq] at h;exact ⟨y.2,by rw [← h.1]⟩
 intro p
 induction p with
 | ok=>intro e e1 t h;simp only [PM.runT,Option.some.injEq,Prod.mk.injEq] at h;rw [← h.1];rfl
 | fail=>intro e e1 t h;cases h
 | view s k ih=>intro e e1 t h;obtain ⟨t',h'⟩:=mp h;exact ih _ h'
 | get s k ih =>
  intro e e1 t h
  simp only [PM.runT,PM.run] at h ⊢
  split at h
  ·cases h
  ·obtain ⟨t',h'⟩:=mp h;exact ih _ h'
 | set s v k ih=>intro e e1 t h;obtain ⟨t',h'⟩:=mp h;exact ih h'
 | cells r pre i c n k ih =>
  intro e e1 t h
  simp only [PM.runT,PM.run] at h ⊢
  split at h
  ·obtain ⟨t',h'⟩:=mp h;exact ih _ _ h'
  ·cases h
 | deep r pre k ih =>
  intro e e1 t h
  simp only [PM.runT,PM.run] at h ⊢
  split at h
  ·obtain ⟨t',h'⟩:=mp h;exact ih _ h'
  ·cases h
 | wcells r pre i c qs k ih =>
  intro e e1 t h
  simp only [PM.runT,PM.run] at h ⊢
  split at h
  ·obtain ⟨t',h'⟩:=mp h;exact ih h'
  ·cases h
 | wnode r pre q k ih =>
  intro e e1 t h
  simp only [PM.runT,PM.run] at h ⊢
  cases hl:(e.get r).isLock with
  | true=>rw [hl] at h;cases h
  | false =>
   rw [hl] at h;simp only [cond_false] at h ⊢
   split at h
   ·obtain ⟨t',h'⟩:=mp h;exact ih h'
   ·cases h
 | kill r pre k ih=>intro e e1 t h;obtain ⟨t',h'⟩:=mp h;exact ih h'
 | frz r pre k ih =>
  intro e e1 t h
  simp only [PM.runT,PM.run] at h ⊢
  split at h
  ·obtain ⟨t',h'⟩:=mp h;exact ih h'
  ·cases h
 | killEx r pre k ih=>intro e e1 t h;obtain ⟨t',h'⟩:=mp h;exact ih h'
 | forget r k ih=>intro e e1 t h;obtain ⟨t',h'⟩:=mp (f:=fun _=>({all:=true}:Tok)) h;exact ih h'
 | call f args hid k ih =>
  intro e e1 t h
  simp only [PM.runT,PM.run] at h ⊢
  split at h
  ·exact ih _ _ h
  ·cases h
theorem zFu {e f:Env} {o:Oper} (h:f.get=e.get):zCa f o=zCa e o:=by
 have hv:zOM f=zOM e:=by funext x;cases x<;>simp only [zOM,h]
 simp only [zCa,h,hv]
theorem zNn {e f:Env} {ops:Array Oper} {o:Oper} (h:f.get=e.get):zKm ops f o=zKm ops e o:=by simp only [zKm,h]
theorem zJE {orc:zAL} {ops:Array Oper} {x:Oper} {k:Nat} {args:List PV} {l:Log} {e f e1:Env} {lg:Option Log} (h:f.get=e.get) (hr:zBQ orc ops x k args l e=some (e1,lg)) :
  ∃ f1,zBQ orc ops x k args l f=some (f1,lg)∧f1.get=e1.get:=by
 have mp:∀ {p:PM} {e f:Env} {lg':Option Log},f.get=e.get→(p.run orc e).map (fun e'=>(e',lg'))=some (e1,lg)→∃ f1,(p.run orc f).map (fun e'=>(e',lg'))=some (f1,lg)∧f1.get=e1.get:=by
  intro p e f lg' h hr
  obtain ⟨e2,h1,h2⟩:=Option.map_eq_some_iff.1 hr
  cases h2
  obtain ⟨f2,h3,h4⟩:=zFt h h1
  exact ⟨f2,by rw [h3];rfl,h4⟩
 have hfg:(f.forget zAd).get=(e.forget zAd).get:=by funext s;rw [zEI,zEI,h]
 simp only [zBQ,zNn h] at hr ⊢
 split at hr
 ·cases hc:(args.all PV.flat&&l.k != 0&&Nat.beq k l.at_) with
  | false=>rw [hc] at hr;cases hr
  | true =>
   rw [hc] at hr;simp only [cond_true] at hr ⊢
   cases jL:(l.k==1) with
   | true=>rw [jL] at hr;exact mp hfg hr
   | false=>rw [jL] at hr;exact mp h hr
 ·exact mp h hr
 ·cases hr
section
variable {P:Program} {H:zBk} {o:zAL}
theorem zKT {ops:Array Oper} {x:Oper} {fz tk nl:Bool} {e:Env} {lg:Option Log} {t:Tok} {m:zCG} (h:(zFf P H ops fz tk nl x).does o e.get t m) (ha:t.all=false) :
  ∃ e1,zCI P H o fz tk nl ops x e lg=some (e1,lg)∧e1.get=m:=by
 obtain ⟨e1,h1,h2⟩:=zM4 h ha
 cases lg with
 | none=>exact ⟨e1,by simp only [zCI,h1,Option.map_some],h2⟩
 | some l =>
  cases hy:zCa e x with
  | none=>exact ⟨e1,by simp only [zCI,hy,h1,Option.map_some],h2⟩
  | some kargs =>
   obtain ⟨kk,args⟩:=kargs
   have jm:(opM P H fz tk nl x).run o e=none:=by
    simp only [zCa] at hy
    split at hy
    ·rename_i c hc
     split at hy
     ·rename_i tc yn
      split at hy
      ·rename_i k hk
       simp only [opM,hc,zJJ,yn,opd,PM.run,hk]
       rfl
      ·cases hy
     ·cases hy
    ·cases hy
   simp only [zFf] at h1
   simp only [zCI,hy,zBQ,zKm]
   cases hg:x.guard with
   | none=>rw [hg] at h1;rw [jm] at h1;cases h1
   | some jw =>
    obtain ⟨j,want⟩:=jw
    rw [hg] at h1;simp only at h1 ⊢
    cases hj:(ops[j]?).bind (·.dst) with
    | none=>rw [hj] at h1;cases h1
    | some tj =>
     rw [hj] at h1;simp only [PM.run] at h1 ⊢
     cases hp:e.get tj<;>rw [hp] at h1<;>simp only at h1<;>try (cases h1;done)
     case bool b =>
      simp only
      by_cases hb:b=want
      ·rw [if_pos hb,jm] at h1;cases h1
      ·rw [if_neg hb] at h1
       have:(b==want)=false:=by simpa using hb
       rw [this];simp only [h1,Option.map_some]
       exact ⟨e1,rfl,h2⟩
     case und =>
      simp only [h1,Option.map_some]
      exact ⟨e1,rfl,h2⟩
def zNv (P:Program) (H:zBk) (o:zAL) (fz tk nl:Bool) (ops:Array Oper) (x:Oper) (t:Tok) (g:zCG) (lg:Option Log) (m:zCG) (lg':Option Log):Prop :=
 (t.all=true∧∀ e:Env,e.get=g→∃ e1,zCI P H o fz tk nl ops x e lg=some (e1,lg')∧e1.get=m)∨(t.all=false∧lg'=lg∧(zFf P H ops fz tk nl x).does o g t m)
theorem zNv.run {fz tk nl:Bool} {ops:Array Oper} {x:Oper} {t:Tok} {e:Env} {m:zCG} {lg lg':Option Log} (h:zNv P H o fz tk nl ops x t e.get lg m lg'):∃ e1,zCI P H o fz tk nl ops x e lg=some (e1,lg')∧e1.get=m:=by
 rcases h with ⟨_,h⟩ | ⟨ha,rfl,h⟩
 ·exact h e rfl
 ·exact zKT h ha
theorem zQH {fz tk nl:Bool} {ops:Array Oper} {x:Oper} {t:Tok} {e e1:Env} {lg lg':Option Log} (h:zD7 P H o fz tk nl ops x e lg=some (e1,lg',t)):zNv P H o fz tk nl ops x t e.get lg e1.get lg':=by
 cases lg with
 | none =>
  simp only [zD7] at h
  obtain ⟨⟨e2,t2⟩,h1,h2⟩:=Option.map_eq_some_iff.1 h
  cases h2
  cases ha:t2.all with
  | true =>
   refine .inl ⟨ha,fun f hf=>?_⟩
   obtain ⟨f1,h3,h4⟩:=zFt hf (zD3 h1)
   exact ⟨f1,by simp only [zCI,h3,Option.map_some],h4⟩
  | false =>
   rcases zHZ h1 with h3 | h3
   ·rw [h3] at ha;cases ha
   ·exact .inr ⟨ha,rfl,h3⟩
 | some l =>
  simp only [zD7] at h
  cases hy:zCa e x with
  | none =>
   rw [hy] at h;simp only at h
   obtain ⟨⟨e2,t2⟩,h1,h2⟩:=Option.map_eq_some_iff.1 h
   cases h2
   cases ha:t2.all with
   | true =>
    refine .inl ⟨ha,fun f hf=>?_⟩
    obtain ⟨f1,h3,h4⟩:=zFt hf (zD3 h1)
    exact ⟨f1,by simp only [zCI,zFu hf,hy,h3,Option.map_some],h4⟩
   | false =>
    rcases zHZ h1 with h3 | h3
    ·rw [h3] at ha;cases ha
    ·exact .inr ⟨ha,rfl,h3⟩
  | some kargs =>
   obtain ⟨kk,args⟩:=kargs
   rw [hy] at h;simp only at h
   obtain ⟨⟨e2,lg2⟩,h1,h2⟩:=Option.map_eq_some_iff.1 h
   cases h2
   refine .inl ⟨rfl,fun f hf=>?_⟩
   obtain ⟨f1,h3,h4⟩:=zJE hf h1
   exact ⟨f1,by simp only [zCI,zFu hf,hy,h3],h4⟩
def zNi (P:Program) (H:zBk) (o:zAL) (fzs tks:List Nat) (nl:Bool) (ops:Array Oper) (tk:Nat→Tok):List Nat→zCG→Option Log→zCG→Option Log→Prop
 | [],g,lg,g',lg'=>g'=g∧lg'=lg
 | i::l,g,lg,g',lg'=>∃ x m lm,ops[i]? = some x∧zNv P H o (fzs.contains i) (tks.contains i) nl ops x (tk i) g lg m lm∧zNi P H o fzs tks nl ops tk l m lm g' lg'
theorem zIA {fzs tks:List Nat} {nl:Bool} {ops:Array Oper} {tk:Nat→Tok} {i:Nat} {l2:List Nat}:∀ {l1:List Nat} {g g':zCG} {lg lg':Option Log},zNi P H o fzs tks nl ops tk (l1++i::l2) g lg g' lg'→(∀ j∈l1,zON (tk j) (tk i)=false)→zNi P H o fzs tks nl ops tk (i::(l1++l2)) g lg g' lg'
 | [],_,_,_,_,h,_=>h
 | j :: l1,g,g',lg,lg',⟨x,m,lm,hx,h1,h2⟩,hc=>by
  obtain ⟨y,m2,lm2,hy,h3,h4⟩:=zIA h2 fun k hk=>hc k (by simp [hk])
  have yL:=hc j (by simp)
  simp only [zON,Bool.or_eq_false_iff] at yL
  have hp:=zJV yL.1
  have hq:=zJV yL.2
  rcases h1 with ⟨ha,_⟩ | ⟨_,rfl,hd1⟩
  ·have:=hp.all;rw [ha] at this;cases this
  ·rcases h3 with ⟨ha,_⟩ | ⟨_,rfl,hd2⟩
   ·have:=hq.all;rw [ha] at this;cases this
   ·obtain ⟨n,vM,jW⟩:=zV1 hd1 hd2 hp hq
    exact ⟨y,n,_,hy,.inr ⟨hq.all,rfl,vM⟩,x,m2,_,hx,.inr ⟨hp.all,rfl,jW⟩,h4⟩
end
end
section
variable {P:Program} {H:zBk} {w0 w:World} {U Φ0 Φ:Nat→Prop} {nt:Nat} {hv:Hid} {a:Act} {e e':Env} {rv:Nat→Value} {E:Nat→PV} {L:Nat→List Nat} {orc:zAL} {ro:Option Nat} {n:Nat} {Q:Exit→Act→World→Prop}
theorem Fr.get' (hf:Fr w0 U Φ0 nt hv a w e) (h:e'.get=e.get):Fr w0 U Φ0 nt hv a w e':=by
 obtain ⟨Φ,rv,E,L,S,hb⟩:=hf
 exact ⟨Φ,rv,E,L,⟨S.conf,fun s hs=>by rw [h];exact S.env s hs,S.size,S.small,S.tmps,S.parts,S.hid,S.dfr⟩,hb⟩
theorem Fr.tick (hf:Fr w0 U Φ0 nt hv a w e) (d:Nat):Fr w0 U Φ0 nt hv a {w with drawn:=d} e:=by
 obtain ⟨Φ,rv,E,L,S,hb⟩:=hf
 have hc:Conf w0 U Φ0 {w with drawn:=d} Φ rv E L:=by
  refine S.conf.step2 some (fun p=>p) zCc (fun a b t ha hb=>by cases ha;cases hb;rfl) (fun a t ha=>by cases ha;exact ⟨(zBg _).symm,rfl,rfl⟩) (fun a ha=>by cases ha) (fun a v hw ha=>?_)
   (fun a ha=>by cases ha) (fun a b ha=>by cases ha) (fun a ha=>by cases ha) (Nat.le_refl _) (fun _ _ _=>rfl) ⟨rfl,rfl,rfl⟩
  exact zCR hw (zCD S.conf zCc ha (zBg _).symm rfl (fun _ _=>rfl))
 exact ⟨Φ,rv,E,L,⟨hc,S.env,S.size,S.small,S.tmps,S.parts,S.hid,S.dfr⟩,hb⟩
structure Drawn (ops:Array Oper) (i:Nat) (Bs:List Nat) (Ts:List Tok):Prop where
 early:∀ (k:Nat) (x:Oper),i≤k→ops[k]? = some x→∀ ed∈x.after.toList,Region.binds .any ed=true→ed.on<k
 bits:∀ (k:Nat) (x:Oper),i≤k→ops[k]? = some x→∀ j,(Bs.getD k 0).testBit j=true→∃ ed∈x.after.toList,Region.binds .any ed=true∧(ed.on=j∨(Bs.getD ed.on 0).testBit j=true)
 free:∀ (k j:Nat),i≤k→k<ops.size→j<k→(Bs.getD k 0).testBit j=true∨zON (Ts.getD j {}) (Ts.getD k {})=false
theorem zJb {b:Nat} {t:Tok}:∀ {l:List Tok} {j:Nat},zFS b t j l=true→∀ k,k<l.length→b.testBit (j+k)=true∨zON (l.getD k {}) t=false
 | [],j,_,k,hk=>by cases hk
 | u :: us,j,h,k,hk=>by
  simp only [zFS,Bool.and_eq_true,Bool.or_eq_true,Bool.not_eq_true'] at h
  cases k with
  | zero=>simpa using h.1
  | succ k =>
   have:=zJb h.2 k (by simpa using hk)
   rw [show j+(k+1)=j+1+k by omega]
   simpa using this
theorem zPZ {acc:List Nat} {o:Oper} {j:Nat} (h:(zHL acc o).testBit j=true):∃ ed∈o.after.toList,Region.binds .any ed=true∧(ed.on=j∨(acc.getD ed.on 0).testBit j=true):=by
 have key:∀ (l:List Edge) (s:Nat),(l.foldl (fun s e=>if Region.binds .any e then s ||| 2 ^ e.on ||| acc.getD e.on 0 else s) s).testBit j=true→s.testBit j=true∨∃ ed∈l,Region.binds .any ed=true∧(ed.on=j∨(acc.getD ed.on 0).testBit j=true):=by
  intro l
  induction l with
  | nil=>intro s h;exact .inl h
  | cons x l ih =>
   intro s h
   rcases ih _ h with h1 | ⟨ed,h1,h2⟩
   ·simp only at h1
    by_cases hb:Region.binds .any x=true
    ·rw [if_pos hb] at h1
     simp only [Nat.testBit_or,Bool.or_eq_true] at h1
     rcases h1 with (h1 | h1) | h1
     ·exact .inl h1
     ·refine .inr ⟨x,by simp,hb,.inl ?_⟩
      rw [Nat.testBit_two_pow] at h1
      simpa using h1
     ·exact .inr ⟨x,by simp,hb,.inr h1⟩
    ·rw [if_neg hb] at h1;exact .inl h1
   ·exact .inr ⟨ed,by simp [h1],h2⟩
 rcases key _ _ h with h1 | h1
 ·simp at h1
 ·exact h1
theorem zIH {fzs tks:List Nat} {nl:Bool} {ops:Array Oper} {lg':Option Log}:∀ (l:List Oper) (i:Nat) (acc:List Nat) (ts:List Tok) (e:Env) (lg:Option Log),zCs P H orc fzs tks nl ops l i acc ts e lg=some (e',lg')→l=ops.toList.drop i→i+l.length=ops.size→acc.length=i→ts.length=i →
  ∃ Bs Ts,(∀ k,k<i→Bs.getD k 0=acc.getD k 0∧Ts.getD k {}=ts.getD k {})∧Drawn ops i Bs Ts∧zNi P H orc fzs tks nl ops (fun k=>Ts.getD k {}) (List.range' i l.length) e.get lg e'.get lg'
 | [],i,acc,ts,e,lg,h,hl,hs,ha,ht=>by
  simp only [zCs,Option.some.injEq,Prod.mk.injEq] at h
  obtain ⟨rfl,rfl⟩:=h
  have yC:ops.size=i:=by simpa using hs.symm
  refine ⟨acc,ts,fun k _=>⟨rfl,rfl⟩,⟨fun k x hk hx=>?_,fun k x hk hx=>?_,fun k j hk vt=>by omega⟩,rfl,rfl⟩
  ·have:=(Array.getElem?_eq_some_iff.1 hx).1;omega
  ·have:=(Array.getElem?_eq_some_iff.1 hx).1;omega
 | o :: l, i,acc,ts,e,lg,h,hl,hs,ha,ht=>by
  simp only [zCs] at h
  cases hr:zD7 P H orc (fzs.contains i) (tks.contains i) nl ops o e lg with
  | none=>rw [hr] at h;cases h
  | some r =>
   obtain ⟨e1,lg1,t⟩:=r
   rw [hr] at h;simp only at h
   cases hb:(o.after.toList.all (fun e => !Region.binds .any e||Nat.blt e.on i)&&zFS (zHL acc o) t 0 ts) with
   | false=>rw [hb] at h;cases h
   | true =>
    rw [hb] at h;simp only [cond_true] at h
    rw [Bool.and_eq_true] at hb
    have hi:ops[i]? = some o:=by
     have:=congrArg (·[0]?) hl
     simp only [List.getElem?_cons_zero,List.getElem?_drop,Nat.add_zero] at this
     rw [← Array.getElem?_toList];exact this.symm
    have LD:l=ops.toList.drop (i+1):=by
     have:=congrArg List.tail hl
     simpa using this
    obtain ⟨Bs,Ts,h1,D,ya⟩:=zIH l (i+1) (acc++[zHL acc o]) (ts++[t]) e1 lg1 h LD (by simp at hs;omega) (by simp [ha]) (by simp [ht])
    have hBi:Bs.getD i 0=zHL acc o:=by rw [(h1 i (by omega)).1,← ha];simp [List.getD]
    have hTi:Ts.getD i {}=t:=by rw [(h1 i (by omega)).2,← ht];simp [List.getD]
    have hold:∀ k,k<i→Bs.getD k 0=acc.getD k 0∧Ts.getD k {}=ts.getD k {}:=by
     intro k hk
     obtain ⟨h2,h3⟩:=h1 k (by omega)
     rw [h2,h3]
     simp only [List.getD]
     rw [List.getElem?_append_left (by omega),List.getElem?_append_left (by omega)]
     exact ⟨rfl,rfl⟩
    have vj:∀ ed∈o.after.toList,Region.binds .any ed=true→ed.on<i:=by
     intro ed he uO
     have:=List.all_eq_true.1 hb.1 ed he
     simp only [uO,Bool.not_true,Bool.false_or] at this
     exact zB2 this
    refine ⟨Bs,Ts,hold,⟨fun k x hk hx=>?_,fun k x hk hx j hj=>?_,fun k j hk hks hj=>?_⟩,?_⟩
    ·by_cases wH:k=i
     ·subst wH;rw [hi] at hx;cases hx;exact vj
     ·exact D.early k x (by omega) hx
    ·by_cases wH:k=i
     ·subst wH;rw [hi] at hx;cases hx
      rw [hBi] at hj
      obtain ⟨ed,h2,h3,h4⟩:=zPZ hj
      refine ⟨ed,h2,h3,h4.imp_right fun h4=>?_⟩
      rw [(hold _ (vj ed h2 h3)).1];exact h4
     ·exact D.bits k x (by omega) hx j hj
    ·by_cases wH:k=i
     ·subst wH
      have:=zJb hb.2 j (by omega)
      rw [hBi,hTi,(hold j hj).2]
      simpa using this
     ·exact D.free k j (by omega) hks hj
    ·show zNi P H orc fzs tks nl ops _ (List.range' i (l.length+1)) _ _ _ _
     rw [List.range'_succ]
     refine ⟨o,e1.get,lg1,hi,?_,ya⟩
     simp only [hTi]
     exact zQH hr
structure Frame (P:Program) (H:zBk) (orc:zAL) (nt:Nat) (ro:Option Nat) (n:Nat) (D:Nat→Prop) (Fin:Option Log→Prop) (G:Act→World→Env→Option Log→Prop):Prop where
 down:∀ {ops:Array Oper} {o:Oper} {fz tk nl:Bool} {e e':Env} {lg lg':Option Log},zCI P H orc fz tk nl ops o e lg=some (e',lg')→Fin lg'→Fin lg
 step:∀ {ops:Array Oper} {i:Nat} {o:Oper} {fz tk nl:Bool} {a:Act} {w:World} {e e':Env} {lg lg':Option Log} {Q:Exit→Act→World→Prop},zM8 P nt ops=true→ops[i]? = some o→(∀ d,o.dst=some d→D d)→Fin lg'→G a w e lg→zCI P H orc fz tk nl ops o e lg=some (e',lg') →
  wpOpIn (FF ro) n P ops Q i (fun a' w'=>G a' w' e' lg') a w
 get:∀ {a:Act} {w:World} {e e':Env} {lg:Option Log},G a w e lg→e'.get=e.get→G a w e' lg
 tick:∀ {a:Act} {w:World} {e:Env} {lg:Option Log} (d:Nat),G a w e lg→G a {w with drawn:=d} e lg
 drop:∀ {a:Act} {w:World} {e:Env} {lg:Option Log} (l:List Nat),G a w e lg→G a w (e.drop l) lg
 cond:∀ {a:Act} {w:World} {e:Env} {lg:Option Log} {t:Nat} {b:Bool},G a w e lg→t<nt→e.get t = .bool b→a.tmps.getD t undef = .bool b
variable {G:Act→World→Env→Option Log→Prop} {Fin:Option Log→Prop} {D:Nat→Prop}
def zO3 (D:Nat→Prop) (ops:Array Oper):Prop:=∀ o∈ops.toList,∀ d,o.dst=some d→D d
theorem zO3.at {ops:Array Oper} (h:zO3 D ops) {i:Nat} {o:Oper} (hi:ops[i]? = some o):∀ d,o.dst=some d→D d:=h o (by rw [← Array.getElem?_toList] at hi;exact List.mem_of_getElem? hi)
theorem zIT (F:Frame P H orc nt ro n D Fin G) {fzs tks:List Nat} {nl:Bool} {ops:Array Oper} {tk:Nat→Tok}:∀ {l:List Nat} {e:Env} {g':zCG} {lg lg':Option Log},zNi P H orc fzs tks nl ops tk l e.get lg g' lg'→Fin lg'→Fin lg
 | [],_,_,_,_,⟨_,h⟩,hf=>by rw [← h];exact hf
 | i::l,e,g',lg,lg',⟨x,m,lm,_,yR,hr⟩,hf=>by
  obtain ⟨e1,h1,h2⟩:=yR.run
  exact F.down h1 (zIT F (by rw [h2];exact hr) hf)
theorem zUZ (F:Frame P H orc nt ro n D Fin G) {ops:Array Oper} (yp:zM8 P nt ops=true) (hD:zO3 D ops) {fzs tks:List Nat} {nl:Bool} {Bs:List Nat} {Ts:List Tok} (Dr:Drawn ops 0 Bs Ts) {g':zCG} {lg':Option Log} (yH:Fin lg')
  (hq:∀ a' w' e',e'.get=g'→G a' w' e' lg'→Q .normal a' w'):∀ (rem:List Nat) (listed:Array Bool) {a:Act} {w:World} {e:Env} {lg:Option Log},listed.size=ops.size→rem.Pairwise (· < ·)→(∀ i,i∈rem↔i<ops.size∧listed.getD i true=false) →
   (∀ i,i<ops.size→listed.getD i true=true→∀ j,(Bs.getD i 0).testBit j=true→listed.getD j true=true)→zNi P H orc fzs tks nl ops (fun k=>Ts.getD k {}) rem e.get lg g' lg'→G a w e lg →
   wpAnyIn (FF ro) n P .any ops Q rem.length listed a w:=by
 have ready_mem:∀ (listed:Array Bool) (i:Nat),i∈Region.ready .any ops listed↔i<ops.size∧listed.getD i true=false∧∀ x,ops[i]? = some x→∀ ed∈x.after.toList,Region.binds .any ed=true→listed.getD ed.on false=true:=by
  intro listed i
  simp only [Region.ready,List.mem_filter,List.mem_range,Bool.and_eq_true,Bool.not_eq_true']
  refine ⟨fun ⟨h1,h2,h3⟩=>⟨h1,h2,fun x hx ed he hb=>?_⟩,fun ⟨h1,h2,h3⟩=>⟨h1,h2,?_⟩⟩
  ·rw [hx] at h3
   simp only [Option.map_some,Option.getD_some,Array.all_eq_true'] at h3
   have:=h3 ed (by simpa using he)
   rw [hb] at this
   simpa using this
  ·have hx:ops[i]? = some ops[i]:=Array.getElem?_eq_getElem h1
   rw [hx]
   simp only [Option.map_some,Option.getD_some,Array.all_eq_true']
   intro ed he
   cases hb:Region.binds .any ed with
   | false=>rfl
   | true=>simpa using h3 _ hx ed (by simpa using he) hb
 have tf:∀ {listed:Array Bool} {k:Nat},k<listed.size→listed.getD k true=listed.getD k false:=by
  intro listed k hk
  simp [Array.getD,hk]
 have ft:∀ {listed:Array Bool} {k:Nat},listed.getD k false=true→listed.getD k true=true:=by
  intro listed k hk
  by_cases yK:k<listed.size
  ·rw [tf yK];exact hk
  ·simp [Array.getD,yK] at hk
 intro rem
 induction hm:rem.length generalizing rem with
 | zero =>
  intro listed a w e lg yC vk jJ vl ya hf
  have hrem:rem=[]:=List.eq_nil_of_length_eq_zero hm
  subst hrem
  obtain ⟨h1,rfl⟩:=ya
  refine ⟨?_,hq a w e h1.symm hf⟩
  rw [List.eq_nil_iff_forall_not_mem]
  intro i hi
  obtain ⟨h1,h2,_⟩:=(ready_mem listed i).1 hi
  exact absurd ((jJ i).2 ⟨h1,h2⟩) (by simp)
 | succ m ih =>
  intro listed a w e lg yC vk jJ vl ya hf
  refine ⟨fun hr=>?_,fun i hi=>?_⟩
  ·
   exfalso
   match rem,hm with
   | i :: rest,_ =>
    have kJ:=(jJ i).1 (by simp)
    have:i∈Region.ready .any ops listed:=(ready_mem listed i).2 ⟨kJ.1,kJ.2,fun x hx ed he hb=>by
     have yK:=Dr.early i x (by omega) hx ed he hb
     have hed:ed.on<listed.size:=by omega
     rw [← tf hed]
     cases hl:listed.getD ed.on true with
     | true=>rfl
     | false =>
      have hin:=(jJ ed.on).2 ⟨by omega,hl⟩
      rcases List.mem_cons.1 hin with h | h
      ·omega
      ·have:=List.rel_of_pairwise_cons vk h;omega⟩
    rw [hr] at this;cases this
  ·obtain ⟨h1,h2,h3⟩:=(ready_mem listed i).1 hi
   obtain ⟨l1,l2,qz⟩:=List.append_of_mem ((jJ i).2 ⟨h1,h2⟩)
   subst qz
   have hx:ops[i]? = some ops[i]:=Array.getElem?_eq_getElem h1
   have un:∀ j,(Bs.getD i 0).testBit j=true→listed.getD j true=true:=by
    intro j hj
    obtain ⟨ed,he,hb,hc⟩:=Dr.bits i _ (by omega) hx j hj
    have hl:=ft (h3 _ hx ed he hb)
    rcases hc with hc | hc
    ·rw [← hc];exact hl
    ·have yK:=Dr.early i _ (by omega) hx ed he hb
     exact vl ed.on (by omega) hl j hc
   have vm:∀ j∈l1,zON (Ts.getD j {}) (Ts.getD i {})=false:=by
    intro j hj
    have v6:j<i:=by
     rw [List.pairwise_append] at vk
     exact vk.2.2 j hj i (by simp)
    rcases Dr.free i j (by omega) h1 v6 with hb | hb
    ·have:=un j hb
     have hjn:=(jJ j).1 (by simp [hj])
     rw [hjn.2] at this;cases this
    ·exact hb
   obtain ⟨x,g1,lg1,jV,yR,y7⟩:=zIA ya vm
   rw [hx] at jV;cases jV
   obtain ⟨e1,ql,kP⟩:=yR.run
   refine zDx (F.step yp hx (hD.at hx) (zIT F (by rw [kP];exact y7) yH) hf ql) fun a' w' ye=>?_
   have yU:∀ k,(listed.setIfInBounds i true).getD k true=if k=i then true else listed.getD k true:=by
    intro k
    simp only [Array.getD_eq_getD_getElem?,Array.getElem?_setIfInBounds]
    by_cases hk:i=k
    ·subst hk
     rw [if_pos rfl,if_pos rfl]
     split<;>rfl
    ·rw [if_neg hk,if_neg (fun e=>hk e.symm)]
   have hpw2:(l1++l2).Pairwise (· < ·):=by
    rw [List.pairwise_append] at vk ⊢
    refine ⟨vk.1,vk.2.1.tail,fun x hx y hy=>vk.2.2 x hx y (by simp [hy])⟩
   have hni:i∉l1∧i∉l2:=by
    rw [List.pairwise_append] at vk
    refine ⟨fun hin=>?_,fun hin=>?_⟩
    ·have:=vk.2.2 i hin i (by simp);omega
    ·have:=List.rel_of_pairwise_cons vk.2.1 hin;omega
   have hmem2:∀ k,k∈l1++l2↔k<ops.size∧(listed.setIfInBounds i true).getD k true=false:=by
    intro k
    rw [yU]
    by_cases hk:k=i
    ·subst hk
     simp only [if_true,List.mem_append]
     exact ⟨fun h=>absurd h (by simp [hni]),fun h=>by cases h.2⟩
    ·rw [if_neg hk,← jJ k]
     simp only [List.mem_append,List.mem_cons,hk,false_or]
   have:=ih (l1++l2) (by simp at hm ⊢;omega) (listed.setIfInBounds i true) (by simpa using yC) hpw2 hmem2 (fun k hk hl j hj=>?_) (by rw [kP];exact y7) ye
   ·exact this
   ·rw [yU] at hl ⊢
    split
    ·rfl
    ·split at hl
     ·rename_i wH;subst wH;exact un j hj
     ·exact vl k hk hl j hj
theorem zPc (F:Frame P H orc nt ro n D Fin G) (zEV:P.follows .mixedOrders=true) {ops:Array Oper} (yp:zM8 P nt ops=true) (hD:zO3 D ops) {fzs tks:List Nat} {nl:Bool} {a:Act} {w:World} {e:Env} {lg lg':Option Log} {id:Nat} (yH:Fin lg') (hf:G a w e lg)
  (h:zCs P H orc fzs tks nl ops ops.toList 0 [] [] e lg=some (e',lg')) (hq:∀ a' w',G a' w' e' lg'→Q .normal a' w'):(Code.region id ops true).wpIn (FF ro) n P Q a w:=by
 obtain ⟨Bs,Ts,_,Dr,ya⟩:=zIH ops.toList 0 [] [] e lg h (by simp) (by simp) rfl rfl
 refine wpIn_region_any zEV ?_
 have hO:(List.range' 0 ops.toList.length).length=ops.size:=by simp
 have:=zUZ (Q:=Q) F yp hD Dr (g':=e'.get) yH (fun a' w' f hg ye=>hq a' w' (F.get ye hg.symm)) (List.range' 0 ops.toList.length) (Array.replicate ops.size false) (a:=a) (w:={w with drawn:=w.drawn+1}) (e:=e) (by simp) List.pairwise_lt_range' (fun i=>?_) (fun i hi hl=>?_) ya (F.tick _ hf)
 ·rw [hO] at this;exact this
 ·simp only [List.mem_range'_1,Array.length_toList]
  constructor
  ·intro ⟨_,h2⟩
   have:i<ops.size:=by omega
   exact ⟨this,by simp [Array.getD,this]⟩
  ·intro ⟨h2,_⟩;omega
 ·simp [Array.getD,hi] at hl
theorem zHs (F:Frame P H orc nt ro n D Fin G) {ops:Array Oper} {fzs tks:List Nat} {nl:Bool} {lg':Option Log}:∀ (l:List Oper) (i:Nat) {e:Env} {lg:Option Log},zBb P H orc fzs tks nl ops l i e lg=some (e',lg')→Fin lg'→Fin lg
 | [],i,e,lg,h,hf=>by
  simp only [zBb,Option.some.injEq,Prod.mk.injEq] at h
  rw [h.2];exact hf
 | o :: l,i,e,lg,h,hf=>by
  simp only [zBb] at h
  split at h
  ·rename_i e1 lg1 h1
   exact F.down h1 (zHs F l (i+1) h hf)
  ·cases h
theorem zRi (F:Frame P H orc nt ro n D Fin G) {ops:Array Oper} {fzs tks:List Nat} {nl:Bool} {lg lg':Option Log} {e:Env} (h:zCs P H orc fzs tks nl ops ops.toList 0 [] [] e lg=some (e',lg')) (hf:Fin lg'):Fin lg:=by
 obtain ⟨Bs,Ts,_,D,ya⟩:=zIH ops.toList 0 [] [] e lg h (by simp) (by simp) rfl rfl
 exact zIT F ya hf
theorem zHS (F:Frame P H orc nt ro n D Fin G) {ops:Array Oper} (yp:zM8 P nt ops=true) (hD:zO3 D ops) {fzs tks:List Nat} {nl:Bool} {lg':Option Log} (yH:Fin lg'):∀ (l:List Oper) (i:Nat) {a:Act} {w:World} {e:Env} {lg:Option Log},l=ops.toList.drop i→i+l.length=ops.size→G a w e lg →
  zBb P H orc fzs tks nl ops l i e lg=some (e',lg')→(∀ a' w',G a' w' e' lg'→Q .normal a' w')→wpOpsIn (FF ro) n P ops Q (List.range' i l.length) a w
 | [],i,a,w,e,lg,hl,hs,hf,h,hq=>by
  simp only [zBb,Option.some.injEq,Prod.mk.injEq] at h
  obtain ⟨rfl,rfl⟩:=h
  exact hq _ _ hf
 | o :: l,i,a,w,e,lg,hl,hs,hf,h,hq=>by
  simp only [zBb] at h
  split at h
  ·rename_i e1 lg1 h1
   have hi:ops[i]? = some o:=by
    have:=congrArg (·[0]?) hl
    simp only [List.getElem?_cons_zero,List.getElem?_drop,Nat.add_zero] at this
    rw [← Array.getElem?_toList];exact this.symm
   have LD:l=ops.toList.drop (i+1):=by
    have:=congrArg List.tail hl
    simpa using this
   show wpOpsIn (FF ro) n P ops Q (List.range' i (l.length+1)) a w
   rw [List.range'_succ,wpOpsIn_cons]
   exact zDx (F.step yp hi (hD.at hi) (zHs F l (i+1) h yH) hf h1) fun a' w' ye=>zHS F yp hD yH l (i+1) LD (by simp at hs;omega) ye h hq
  ·cases h
end
end Go.Eng
namespace Go.Eng
open Go
theorem zTX (e:Env) (k:Nat) (v:PV) (s:Nat):(Env.put e k v).get s=if s=k then v else e.get s:=by
 by_cases hv:v = .bad
 ·subst hv
  simp only [Env.put]
  induction e with
  | nil=>simp only [List.filter_nil,Env.get];split<;>rfl
  | cons x e ih =>
   obtain ⟨k',v'⟩:=x
   simp only [List.filter_cons]
   cases hb:Nat.beq k' k with
   | true =>
    have:=Nat.eq_of_beq_eq_true hb
    subst this
    simp only [Bool.not_true,Bool.false_eq_true,if_false,ih,Env.get]
    by_cases hs:s=k'
    ·rw [if_pos hs,if_pos hs]
    ·rw [if_neg hs,if_neg hs]
     have:Nat.beq k' s=false:=by cases h:Nat.beq k' s with | false=>rfl | true=>exact absurd (Nat.eq_of_beq_eq_true h).symm hs
     rw [this];rfl
   | false =>
    simp only [Bool.not_false,if_true,Env.get]
    cases jN:Nat.beq k' s with
    | true =>
     have:=Nat.eq_of_beq_eq_true jN
     subst this
     have hI:k'≠k:=Nat.ne_of_beq_eq_false hb
     rw [if_neg hI];rfl
    | false=>simp only [cond_false,ih]
 ·have:Env.put e k v=e.set k v:=by cases v<;>first | rfl | exact absurd rfl hv
  rw [this,Env.get_set]
theorem zIm:∀ (e:Env) (s:Nat),e.norm.get s=e.get s
 | [],_=>rfl
 | (k,v)::e,s=>by
  simp only [Env.norm,zTX,zIm e,Env.get]
  cases hb:Nat.beq k s with
  | true=>rw [if_pos (Nat.eq_of_beq_eq_true hb).symm];rfl
  | false=>rw [if_neg (Ne.symm (Nat.ne_of_beq_eq_false hb))];rfl
section
variable {F:Fence} {n:Nat} {P:Program} {a:Act} {k:List Item} {cs:List Go.Frame} {w:World} {Q:Exit→Act→World→Prop}
theorem zDk {b:Go.Frame} {c:Code}:step P (lone (b.atR a (.code (.scope c)::k)) cs w) = .next (lone (b.atR a (.code c :: .inScope c::k)) cs w) :=
 step_lone_go (by simp [stepG,stepG.exec,Go.Frame.atR])
theorem zKM {b:Go.Frame} {c:Code}:step P (lone (b.atR a (.inScope c::k)) cs w) = .next (lone (b.atR a k) cs w) :=
 step_lone_go (by simp [stepG,stepG.exec,Go.Frame.atR])
theorem zOP {c:Code} (hq:∀ l a w,¬ Q (.goto l) a w) (h:c.wpIn F n P Q a w):(Code.scope c).wpIn F n P Q a w:=by
 intro b k cs ua hb hr
 have h0:(lone (b.atR a (.code (.scope c)::k)) cs w).fenced P F:=fenced_calm hb hr rfl
 obtain ⟨e,a₁,w₁,kV,vE⟩:=h b (.inScope c::k) cs ua hb hr
 cases e with
 | normal=>exact ⟨.normal,a₁,w₁,kV,.head h0 zDk (StepsIn.trans vE (.one (fenced_calm hb hr rfl) zKM))⟩
 | exit id =>
  have hx:exitTo id (.inScope c::k)=exitTo id k:=by simp [exitTo]
  exact ⟨.exit id,a₁,w₁,kV,fun k' hk => .head h0 zDk (vE.1 k' (by rw [hx];exact hk)),
   fun yq hk=>let ⟨k₁,h1,h2⟩:=vE.2 yq (by rw [hx];exact hk);⟨k₁,h1,.head h0 zDk h2⟩⟩
 | goto l=>exact absurd kV (hq l a₁ w₁)
 | ret=>exact ⟨_,a₁,w₁,kV,.of_steps (.one h0 zDk) vE⟩
 | panic ch=>exact ⟨_,a₁,w₁,kV,.of_steps (.one h0 zDk) vE⟩
 | outgrown=>exact ⟨_,a₁,w₁,kV,.of_steps (.one h0 zDk) vE⟩
end
section
variable {P:Program} {H:zBk} {nt:Nat} {orc:zAL} {yo:zCE} {al:All} {ro:Option Nat} {n:Nat} {D:Nat→Prop} {Fin:Option Log→Prop} {G:Act→World→Env→Option Log→Prop} {hh:FHint}
theorem zKH (F:Frame P H orc nt ro n D Fin G):∀ (m:Nat) (c:Code) {e e':Env} {x:X} {lg lg':Option Log},exec P H orc yo al nt hh m c e lg=some (x,e',lg')→Fin lg'→Fin lg
 | 0,c,e,e',x,lg,lg',h,hf=>by cases h
 | m + 1,c,e,e',x,lg,lg',h,hf=>by
  have hX:∀ {b:Code} {e e':Env} {x:X} {lg lg':Option Log},exec P H orc yo al nt hh m b e lg=some (x,e',lg')→Fin lg'→Fin lg:=fun h hf=>zKH F m _ h hf
  cases c<;>simp only [exec] at h<;>try (cases h;done)
  case skip=>cases h;exact hf
  case region id ops draw =>
   split at h
   ·rename_i e1 lg1 h1
    cases h
    cases draw with
    | true=>exact zRi F h1 hf
    | false=>exact zHs F _ _ h1 hf
   ·cases h
  case seq a b =>
   split at h
   ·rename_i e1 lg1 h1;exact hX h1 (hX h hf)
   ·exact hX h hf
  case cond c a b =>
   cases c with
   | tmp t =>
    simp only at h
    split at h
    ·exact hX h hf
    ·exact hX h hf
    ·cases h
   | const v =>
    split at h
    ·rename_i wh;cases wh
    ·exact hX h hf
    ·exact hX h hf
    ·cases h
   | global g=>cases h
   | func f=>cases h
  case block id b =>
   split at h
   ·rename_i id' r h1
    obtain ⟨e1,lg1⟩:=r
    cases h;exact hX h1 hf
   ·exact hX h hf
  case loop b =>
   split at h
   ·rename_i e1 lg1 h1;exact hX h1 (hX h hf)
   ·exact hX h hf
  case exit id=>cases h;exact hf
  case ret=>cases h;exact hf
  case label l=>cases h;exact hf
  case scope b=>exact hX h hf
  case rangeFunc f ps a b =>
   cases f with
   | tmp t =>
    cases lg with
    | none =>
     simp only at h
     obtain ⟨r,_,h2⟩:=Option.map_eq_some_iff.1 h
     cases h2;exact hf
    | some l=>cases h
   | const v=>cases h
   | global g=>cases h
   | func f=>cases h
def zD2 (P:Program) (H:zBk) (orc:zAL) (yo:zCE) (al:All) (nt:Nat) (hh:FHint) (ro:Option Nat) (n:Nat) (G:Act→World→Env→Option Log→Prop) (m:Nat):Prop :=
 ∀ m',m'<m→∀ (t:Nat) (ps:Array Tmp) (ca cb:Code) (a:Act) (w:World) (e:Env) (x:X) (e':Env),zCz P nt (.rangeFunc (.tmp t) ps ca cb)=true→G a w e none→exec P H orc yo al nt hh (m'+1) (.rangeFunc (.tmp t) ps ca cb) e none=some (x,e',none) →
   (Code.rangeFunc (.tmp t) ps ca cb).wpIn (FF ro) n P (fun ex a' w'=>ex=x.exit∧G a' w' e' none) a w
theorem zD2.less {m m':Nat} (h:zD2 P H orc yo al nt hh ro n G m) (hm:m'≤m):zD2 P H orc yo al nt hh ro n G m':=fun k hk=>h k (by omega)
theorem zHn (F:Frame P H orc nt ro n D Fin G) (zEV:P.follows .mixedOrders=true):∀ (m:Nat) (c:Code) (hr:zCT c=true∨zD2 P H orc yo al nt hh ro n G m) {a:Act} {w:World} {e:Env} {x:X} {e':Env} {lg lg':Option Log},zCz P nt c=true→(∀ d∈zBO c,D d)→Fin lg'→G a w e lg→exec P H orc yo al nt hh m c e lg=some (x,e',lg') →
  c.wpIn (FF ro) n P (fun ex a' w'=>ex=x.exit∧G a' w' e' lg') a w
 | 0,c,hr,a,w,e,x,e',lg,lg',hc,hD,yH,hf,h=>by cases h
 | m + 1,c,hr,a,w,e,x,e',lg,lg',hc,hD,yH,hf,h=>by
  have hX:∀ {b:Code} {e1:Env} {y:X} {e2:Env} {a w} {l1 l2:Option Log},(zCT b=true∨zD2 P H orc yo al nt hh ro n G m)→zCz P nt b=true→(∀ d∈zBO b,D d)→Fin l2→G a w e1 l1→exec P H orc yo al nt hh m b e1 l1=some (y,e2,l2)→b.wpIn (FF ro) n P (fun ex a' w'=>ex=y.exit∧G a' w' e2 l2) a w :=
   fun hr hc hd hn hf h=>zHn F zEV m _ hr hc hd hn hf h
  have two:∀ {p q:Bool},((p&&q)=true∨zD2 P H orc yo al nt hh ro n G (m+1))→(p=true∨zD2 P H orc yo al nt hh ro n G m)∧(q=true∨zD2 P H orc yo al nt hh ro n G m):=by
   intro p q h
   rcases h with h | h
   ·rw [Bool.and_eq_true] at h;exact ⟨.inl h.1,.inl h.2⟩
   ·exact ⟨.inr (h.less (by omega)),.inr (h.less (by omega))⟩
  have one:∀ {p:Bool},(p=true∨zD2 P H orc yo al nt hh ro n G (m+1))→(p=true∨zD2 P H orc yo al nt hh ro n G m):=fun h=>h.imp_right fun h=>h.less (by omega)
  cases c<;>simp only [zCz,Bool.and_eq_true] at hc<;>try (cases hc;done)
  case skip =>
   simp only [exec,Option.some.injEq,Prod.mk.injEq] at h
   obtain ⟨rfl,rfl,rfl⟩:=h
   exact wpIn_skip ⟨rfl,hf⟩
  case region id ops draw =>
   simp only [exec] at h
   split at h
   ·rename_i e1 lg1 h1
    simp only [Option.some.injEq,Prod.mk.injEq] at h
    obtain ⟨rfl,rfl,rfl⟩:=h
    have fin:∀ {a' w'},G a' w' e1 lg1→G a' w' (e1.drop (hh.drop id)).norm lg1:=fun hg=>F.get (F.drop _ hg) (by funext s;exact zIm _ s)
    have hDs:zO3 D ops:=fun o ho d hd=>hD d (List.mem_filterMap.2 ⟨o,ho,hd⟩)
    cases draw with
    | true=>exact zPc F zEV hc hDs yH hf h1 fun a' w' ye=>⟨rfl,fin ye⟩
    | false =>
     refine wpIn_region ?_
     have:=zHS (Q:=fun ex a' w'=>ex=X.norm.exit∧G a' w' (e1.drop (hh.drop id)).norm lg1) F hc hDs yH ops.toList 0 (by simp) (by simp) hf h1 fun a' w' ye=>⟨rfl,fin ye⟩
     rw [List.range_eq_range']
     simpa using this
   ·cases h
  case seq c1 c2 =>
   simp only [exec] at h
   refine wpIn_seq ?_
   split at h
   ·rename_i e1 lg1 h1
    exact wpIn_mono (hX (two hr).1 hc.1 (fun d hd=>hD d (List.mem_append_left _ hd)) (zKH F _ _ h yH) hf h1) fun ex a' w' ⟨hx,ye⟩=>by subst hx;exact hX (two hr).2 hc.2 (fun d hd=>hD d (List.mem_append_right _ hd)) yH ye h
   ·rename_i hI
    exact wpIn_mono (hX (two hr).1 hc.1 (fun d hd=>hD d (List.mem_append_left _ hd)) yH hf h) fun ex a' w' ⟨hx,ye⟩=>by
     subst hx
     cases x with
     | norm=>exact absurd h (hI _ _)
     | ex id=>exact ⟨rfl,ye⟩
     | ret=>exact ⟨rfl,ye⟩
  case cond c c1 c2 =>
   have key:∀ t:Bool,a.eval c = .bool t→exec P H orc yo al nt hh m (if t then c1 else c2) e lg=some (x,e',lg')→(Code.cond c c1 c2).wpIn (FF ro) n P (fun ex a' w'=>ex=x.exit∧G a' w' e' lg') a w:=by
    intro t ht h
    refine wpIn_cond ht ?_
    cases t with
    | true=>exact hX (two hr).1 hc.1.2 (fun d hd=>hD d (List.mem_append_left _ hd)) yH hf h
    | false=>exact hX (two hr).2 hc.2 (fun d hd=>hD d (List.mem_append_right _ hd)) yH hf h
   simp only [exec] at h
   cases c with
   | tmp t =>
    simp only at h
    have ku:t<nt:=zB2 hc.1.1
    split at h
    ·rename_i hp;exact key true (F.cond hf ku hp) h
    ·rename_i hp;exact key false (F.cond hf ku hp) h
    ·cases h
   | const v =>
    split at h
    ·rename_i yB;cases yB
    ·rename_i wh;cases wh;exact key true rfl h
    ·rename_i wh;cases wh;exact key false rfl h
    ·cases h
   | global g=>cases h
   | func f=>cases h
  case block id b =>
   simp only [exec] at h
   refine wpIn_block ?_
   split at h
   ·rename_i id' r h1
    obtain ⟨e1,lg1⟩:=r
    simp only [Option.some.injEq,Prod.mk.injEq] at h
    obtain ⟨rfl,rfl,rfl⟩:=h
    refine wpIn_mono (hX (one hr) hc hD yH hf h1) fun ex a' w' ⟨hx,ye⟩=>?_
    subst hx
    simp only [X.exit,Exit.inBlock]
    split
    ·exact ⟨rfl,ye⟩
    ·exact ⟨rfl,ye⟩
   ·rename_i hI
    refine wpIn_mono (hX (one hr) hc hD yH hf h) fun ex a' w' ⟨hx,ye⟩=>?_
    subst hx
    cases x with
    | norm=>exact ⟨rfl,ye⟩
    | ex id=>exact absurd h (hI _ _)
    | ret=>exact ⟨rfl,ye⟩
  case loop b =>
   have key:∀ (m':Nat),m'≤m+1→∀ {e:Env} {a:Act} {w:World} {lg:Option Log},G a w e lg→exec P H orc yo al nt hh m' (.loop b) e lg=some (x,e',lg') →
     Code.roundsIn (FF ro) n P b (fun ex a' w'=>ex=x.exit∧G a' w' e' lg') m' a w:=by
    intro m'
    induction m' with
    | zero=>intro _ e a w _ _ h;cases h
    | succ m' ih =>
     intro yI e a w lg hf h
     simp only [exec] at h
     show b.wpIn (FF ro) n P (Exit.then (Code.roundsIn (FF ro) n P b _ m') _) a w
     have qQ:∀ {e1:Env} {y:X} {e2:Env} {a w} {l1 l2:Option Log},Fin l2→G a w e1 l1→exec P H orc yo al nt hh m' b e1 l1=some (y,e2,l2)→b.wpIn (FF ro) n P (fun ex a' w'=>ex=y.exit∧G a' w' e2 l2) a w:=by
      intro e1 y e2 a w l1 l2 hn hf h
      exact zHn F zEV m' b (hr.imp_right fun h=>h.less (by omega)) hc hD hn hf h
     split at h
     ·rename_i e1 lg1 h1
      exact wpIn_mono (qQ (zKH F _ _ h yH) (F.drop _ hf) h1) fun ex a' w' ⟨hx,ye⟩=>by subst hx;exact ih (by omega) ye h
     ·rename_i hI
      refine wpIn_mono (qQ yH (F.drop _ hf) h) fun ex a' w' ⟨hx,ye⟩=>?_
      subst hx
      cases x with
      | norm=>exact absurd h (hI _ _)
      | ex id=>exact ⟨rfl,ye⟩
      | ret=>exact ⟨rfl,ye⟩
   exact wpIn_loop_rounds (m+1) (key (m+1) (Nat.le_refl _) hf h)
  case exit id =>
   simp only [exec,Option.some.injEq,Prod.mk.injEq] at h
   obtain ⟨rfl,rfl,rfl⟩:=h
   exact wpIn_exit ⟨rfl,hf⟩
  case ret =>
   simp only [exec,Option.some.injEq,Prod.mk.injEq] at h
   obtain ⟨rfl,rfl,rfl⟩:=h
   exact wpIn_ret ⟨rfl,hf⟩
  case label l =>
   simp only [exec,Option.some.injEq,Prod.mk.injEq] at h
   obtain ⟨rfl,rfl,rfl⟩:=h
   exact wpIn_label ⟨rfl,hf⟩
  case scope b =>
   simp only [exec] at h
   exact zOP (fun l a w hx=>by cases x<;>cases hx.1) (hX (one hr) hc hD yH hf h)
  case rangeFunc f ps ca cb =>
   cases f with
   | tmp t =>
    have h0:=h
    simp only [exec] at h
    cases lg with
    | none =>
     simp only at h
     obtain ⟨r,_,h2⟩:=Option.map_eq_some_iff.1 h
     cases h2
     rcases hr with hr | hr
     ·cases hr
     exact hr m (by omega) t ps ca cb a w e _ _ (by simp only [zCz,Bool.and_eq_true];exact hc) hf h0
    | some l=>cases h
   | const v=>simp only [exec] at h;cases h
   | global g=>simp only [exec] at h;cases h
   | func f=>simp only [exec] at h;cases h
end
end Go.Eng
namespace Go.Eng
open Go
structure Rel (w0:World) (U Φ0:Nat→Prop) (w1:World) (U1 Φ1:Nat→Prop):Prop where
 size:w0.heap.size≤w1.heap.size
 kept:∀ b,b<w0.heap.size→¬ U b→w1.heap[b]? = w0.heap[b]?
 own:∀ b,U1 b→U b∨w0.heap.size≤b
 frz:∀ b,Φ1 b→Φ0 b∨U b∨w0.heap.size≤b
 frz0:∀ b,Φ0 b→Φ1 b
 os:w1.os=w0.os
 tape:w1.tape=w0.tape
 output:w1.output=w0.output
section
variable {w0 w w' w1 w2:World} {U Φ0 Φ U1 Φ1 U2 Φ2:Nat→Prop} {nt:Nat} {hv:Hid} {a:Act} {e e':Env} {rv:Nat→Value} {E:Nat→PV} {L:Nat→List Nat}
theorem Rel.refl:Rel w U Φ w U Φ:=⟨Nat.le_refl _,fun _ _ _=>rfl,fun _ h => .inl h,fun _ h => .inl h,fun _ h=>h,rfl,rfl,rfl⟩
theorem Rel.trans (h:Rel w0 U Φ0 w1 U1 Φ1) (k:Rel w1 U1 Φ1 w2 U2 Φ2):Rel w0 U Φ0 w2 U2 Φ2:=by
 have hU:∀ b,b<w0.heap.size→¬ U b→¬ U1 b:=fun b hb hu h1=>by rcases h.own b h1 with h2 | h2<;>first | exact hu h2 | omega
 refine ⟨Nat.le_trans h.size k.size,fun b hb hu=>(k.kept b (Nat.lt_of_lt_of_le hb h.size) (hU b hb hu)).trans (h.kept b hb hu),fun b hb=>?_,fun b hb=>?_,fun b hb=>k.frz0 b (h.frz0 b hb),k.os.trans h.os,k.tape.trans h.tape,k.output.trans h.output⟩
 ·rcases k.own b hb with h1 | h1
  ·exact h.own b h1
  ·exact .inr (Nat.le_trans h.size h1)
 ·rcases k.frz b hb with h1 | h1 | h1
  ·exact h.frz b h1
  ·rcases h.own b h1 with h2 | h2
   ·exact .inr (.inl h2)
   ·exact .inr (.inr h2)
  ·exact .inr (.inr (Nat.le_trans h.size h1))
theorem Conf.rel (C:Conf w0 U Φ0 w Φ rv E L):Rel w0 U Φ0 w (fun b=>∃ s,b∈L s) Φ :=
 ⟨C.size,C.kept,fun b ⟨s,hs⟩=>(C.own s b hs).2.2,fun b hb=>(C.frz b hb).2,C.frz0,C.os,C.tape,C.output⟩
theorem Conf.rebase (h:Rel w0 U Φ0 w1 U1 Φ1) (C:Conf w1 U1 Φ1 w Φ rv E L):Conf w0 U Φ0 w Φ rv E L:=by
 have r:=h.trans C.rel
 exact ⟨C.rep,C.nodup,C.disj,fun s b hb=>⟨(C.own s b hb).1,(C.own s b hb).2.1,r.own b ⟨s,hb⟩⟩,fun b hb=>⟨(C.frz b hb).1,r.frz b hb⟩,r.frz0,r.size,r.kept,r.os,r.tape,r.output⟩
theorem Conf.fresh (C:Conf w0 U Φ0 w Φ rv E L):Conf w (fun b=>∃ s,b∈L s) Φ w Φ rv E L :=
 ⟨C.rep,C.nodup,C.disj,fun s b hb=>⟨(C.own s b hb).1,(C.own s b hb).2.1,.inl ⟨s,hb⟩⟩,fun b hb=>⟨(C.frz b hb).1,.inl hb⟩,fun _ h=>h,Nat.le_refl _,fun _ _ _=>rfl,rfl,rfl,rfl⟩
theorem Conf.moved (C:Conf w0 U Φ0 w Φ rv E L) (hs:w.heap.size≤w'.heap.size) (hL:∀ s,∀ b∈L s,w'.heap[b]? = w.heap[b]?) (hΦ:∀ b,Φ b→w'.heap[b]? = w.heap[b]?) (hk:∀ b,b<w0.heap.size→¬ U b→w'.heap[b]? = w.heap[b]?)
  (ho:w'.os=w.os∧w'.tape=w.tape∧w'.output=w.output):Conf w0 U Φ0 w' Φ rv E L:=by
 refine ⟨fun s=>?_,C.nodup,C.disj,fun s b hb=>⟨Nat.lt_of_lt_of_le (C.own s b hb).1 hs,(C.own s b hb).2⟩,fun b hb=>⟨Nat.lt_of_lt_of_le (C.frz b hb).1 hs,(C.frz b hb).2⟩,C.frz0,Nat.le_trans C.size hs,fun b hb hu=>(hk b hb hu).trans (C.kept b hb hu),
  ho.1.trans C.os,ho.2.1.trans C.tape,ho.2.2.trans C.output⟩
 have:=Rep.map (f:=fun p=>p) (w':=w') (Φ':=Φ) (A':=zA6 w' rv E) (fun _=>rfl) (fun b hb=>⟨hb,hΦ b hb⟩) (fun b v hw ha=>zCR hw (zCD C zCc ha (zBg _).symm rfl (hL _))) (E s) (rv s) (L s) (hL s) (C.rep s)
 rwa [zBg] at this
theorem Conf.arrive (C:Conf w0 U Φ0 w Φ rv E L) (hs:w.heap.size≤w'.heap.size) (hL:∀ s,∀ b∈L s,w'.heap[b]? = w.heap[b]?) (hΦ:∀ b,Φ b→w'.heap[b]? = w.heap[b]?):Conf w' (fun b=>∃ s,b∈L s) Φ w' Φ rv E L:=by
 refine ⟨fun s=>?_,C.nodup,C.disj,fun s b hb=>⟨Nat.lt_of_lt_of_le (C.own s b hb).1 hs,(C.own s b hb).2.1,.inl ⟨s,hb⟩⟩,fun b hb=>⟨Nat.lt_of_lt_of_le (C.frz b hb).1 hs,.inl hb⟩,fun _ h=>h,Nat.le_refl _,fun _ _ _=>rfl,rfl,rfl,rfl⟩
 have:=Rep.map (f:=fun p=>p) (w':=w') (Φ':=Φ) (A':=zA6 w' rv E) (fun _=>rfl) (fun b hb=>⟨hb,hΦ b hb⟩) (fun b v hw ha=>zCR hw (zCD C zCc ha (zBg _).symm rfl (hL _))) (E s) (rv s) (L s) (hL s) (C.rep s)
 rwa [zBg] at this
theorem St.with (S:St w0 U Φ0 nt hv a w e Φ rv E L) (C:Conf w1 U1 Φ1 w' Φ2 rv E L):St w1 U1 Φ1 nt hv a w' e Φ2 rv E L :=
 ⟨C,S.env,S.size,S.small,S.tmps,S.parts,S.hid,S.dfr⟩
def zJQ:PV→Value
 | .int k n => .int k n
 | .bool b => .bool b
 | _=>undef
def zCB:PV→Value
 | .agg cs => .agg (cs.map zJQ).toArray
 | p=>zJQ p
theorem zTt {A:Al} {p:PV} {v:Value} {Lp:List Nat} (h:Rep w Φ A p v Lp) (hn:p.num=true):v=zJQ p:=by
 cases p<;>first | (cases hn;done) | exact h.1
theorem zOo {A:Al}:∀ {ps:List PV} {vs:List Value} {Lp:List Nat},zA1 w Φ A ps vs Lp→ps.all PV.num=true→vs=ps.map zJQ
 | [],vs,_,h,_=>h.1
 | p::ps,vs,_,⟨v,vs',L1,L2,h1,_,h3,h4⟩,hn=>by
  simp only [List.all_cons,Bool.and_eq_true] at hn
  rw [h1,zTt h3 hn.1,zOo h4 hn.2];rfl
theorem zSn {A:Al} {p:PV} {v:Value} {Lp:List Nat} (h:Rep w Φ A p v Lp) (hn:p.flat=true):v=zCB p:=by
 cases p<;>first | (cases hn;done) | exact h.1 | skip
 obtain ⟨vs,rfl,h2⟩:=h
 have:=zOo h2 hn
 simp only [zCB,← this]
theorem zSp (S:St w0 U Φ0 nt hv a w e Φ rv E L) {x:Operand} (hx:zAW nt x=true):Rep w Φ (zA6 w rv E) (zOM e x) (a.eval x) []:=by
 cases x with
 | tmp t =>
  have ht:t<nt:=zB2 hx
  have hg:t<zAd:=Nat.lt_of_lt_of_le ht (Nat.le_trans S.small (by decide))
  have:=S.conf.view hg
  rw [S.env t hg,← S.tmps t ht] at this
  exact this
 | const v=>exact zJa v
 | global g=>exact (rfl:([]:List Nat)=[])
 | func f=>exact (rfl:([]:List Nat)=[])
theorem zRU {ops:Array Oper} {P:Program} (yp:zM8 P nt ops=true) (S:St w0 U Φ0 nt hv a w e Φ rv E L) {o:Oper} {b:Bool} (h:zKm ops e o=some b):Region.wanted o (yielded ops a.tmps)=b:=by
 have yS:∀ (j:Nat) (x:Oper),ops[j]? = some x→zP2 P nt x=true:=fun j x hx=>List.all_eq_true.1 yp x (by
  rw [← Array.getElem?_toList] at hx;exact List.mem_of_getElem? hx)
 simp only [zKm] at h
 cases hg:o.guard with
 | none=>rw [hg] at h;simp only [Option.some.injEq] at h;subst h;simp [Region.wanted,hg]
 | some x =>
  obtain ⟨j,want⟩:=x
  rw [hg] at h
  simp only at h
  cases hj:(ops[j]?).bind (·.dst) with
  | none=>rw [hj] at h;cases h
  | some t =>
   rw [hj] at h
   simp only at h
   have ku:t<nt:=by
    cases qx:ops[j]? with
    | none=>rw [qx] at hj;cases hj
    | some oj=>rw [qx] at hj;exact zIj (yS j oj qx) t hj
   have yb:t<zAd:=Nat.lt_of_lt_of_le ku (Nat.le_trans S.small (by decide))
   have hH:=S.conf.rep t
   rw [S.env t yb] at hH
   have htm:a.tmps[t]? = some (rv t):=by
    have h1:=S.tmps t ku
    have h2:t<a.tmps.size:=by rw [S.size];exact ku
    rw [Array.getElem?_eq_getElem h2]
    simp only [Array.getD,h2,dite_true] at h1
    rw [← h1];rfl
   have jv:yielded ops a.tmps j=match rv t with | .bool b=>some b | _=>none:=by
    simp only [yielded,hj,Option.bind_some,htm]
    cases rv t<;>rfl
   revert h
   cases hp:e.get t<;>intro h<;>try (cases h;done)
   case bool c =>
    simp only [Option.some.injEq] at h
    have yB:rv t = .bool c:=by rw [hp] at hH;exact hH.1
    rw [yB] at jv
    simp only at jv
    rw [← h]
    simp only [Region.wanted,hg,jv]
    rfl
   case und =>
    simp only [Option.some.injEq] at h
    have yB:rv t=undef:=by rw [hp] at hH;exact hH.1
    rw [yB] at jv
    rw [← h]
    simp only [Region.wanted,hg,jv]
    rfl
end
theorem zMb {P:Program} {w:World} {fn:Func} {a:Act} (h:fn.results.isEmpty=true):(results fn a.tmps).run P w = .ok (.tuple #[]) w:=by
 have h0:fn.results=#[]:=by simpa using h
 simp only [results,h0]
 simp [Sem.run_bind,Sem.run_pure]
structure Apart (w w':World) (B Ψ:Nat→Prop):Prop where
 size:w.heap.size≤w'.heap.size
 os:w'.os=w.os
 tape:w'.tape=w.tape
 output:w'.output=w.output
 kept:∀ b,b<w.heap.size→¬ B b→w'.heap[b]? = w.heap[b]?
 seen:∀ b,Ψ b→w'.heap[b]? = w.heap[b]?
structure Client (P:Program) (l:Nat) (plan:List (List PV)) (k0:Int) (Ψ:Nat→Prop) (J:List (List PV)→World→(Nat→Prop)→Prop) (Jx:World→Prop):Prop where
 abide:∀ {xs:List (List PV)} {w w':World} {B:Nat→Prop},J xs w B→w.heap.size≤w'.heap.size→(∀ b,B b→w'.heap[b]? = w.heap[b]?)→w'.os=w.os∧w'.tape=w.tape∧w'.output=w.output→J xs w' B
 small:∀ {xs:List (List PV)} {w:World} {B:Nat→Prop},J xs w B→∀ b,B b→b<w.heap.size
 round:∀ {xs:List (List PV)} {x:List PV} {w:World} {B:Nat→Prop},J xs w B→xs++[x] <+: plan→k0-xs.length≠1→x.all PV.flat=true→YieldAt (FF none) 0 P l (x.map zCB).toArray w fun en w'=>en = .returned (.bool true)∧Apart w w' B Ψ ∧
  ∃ B',J (xs++[x]) w' B'∧∀ b,B' b→B b∨w.heap.size≤b
 last:∀ {xs:List (List PV)} {x:List PV} {w:World} {B:Nat→Prop},J xs w B→xs++[x] <+: plan→k0-xs.length=1→x.all PV.flat=true→YieldAt (FF none) 0 P l (x.map zCB).toArray w fun en w'=>en = .returned (.bool false)∧Jx w'
 abideX:∀ {w w':World},Jx w→w.heap.size≤w'.heap.size→(∀ b,b<w.heap.size→w'.heap[b]? = w.heap[b]?)→w'.os=w.os∧w'.tape=w.tape∧w'.output=w.output→Jx w'
section
variable {P:Program} {H:zBk} {orc:zAL} {yo:zCE} {al:All} {nt:Nat} {val:Nat→Value} {l:Nat} {plan:List (List PV)} {k0:Int} {Ψ:Nat→Prop} {J:List (List PV)→World→(Nat→Prop)→Prop} {Jx:World→Prop}
def GJ (nt:Nat) (val:Nat→Value) (l:Nat) (k0:Int) (Ψ:Nat→Prop) (J:List (List PV)→World→(Nat→Prop)→Prop) (Jx:World→Prop) (a:Act) (w:World) (e:Env) (lg:Option Log):Prop :=
 ∃ g,lg=some g∧g.at_=l∧g.k=k0-g.xs.length∧∃ w1 U1 Φ1,Fr w1 U1 Φ1 nt ⟨val,[]⟩ a w e ∧
  ((g.k≠0∧∃ B,J g.xs w1 B∧(∀ b,B b→¬ U1 b)∧∀ b,Φ1 b→Ψ b∨¬ B b)∨(g.k=0∧Jx w1∧∀ b,¬ U1 b))
def zVY (plan:List (List PV)) (lg:Option Log):Prop:=∃ g,lg=some g∧g.xs <+: plan
theorem zBh {α:Type} {b:Bool} {x y:Option α} {r:α} (h:(bif b then x else y)=some r):(b=true∧x=some r)∨(b=false∧y=some r):=by
 cases b with
 | true=>exact .inl ⟨rfl,h⟩
 | false=>exact .inr ⟨rfl,h⟩
theorem zHi {fz tk nl:Bool} {ops:Array Oper} {o:Oper} {e e':Env} {g:Log} {lg':Option Log} (h:zCI P H orc fz tk nl ops o e (some g)=some (e',lg')):∃ g',lg'=some g'∧g.xs <+: g'.xs:=by
 have mp:∀ {x:Option Env} {q:Log},x.map (fun e'=>(e',some q))=some (e',lg')→lg'=some q:=by
  intro x q h
  obtain ⟨y,_,h2⟩:=Option.map_eq_some_iff.1 h
  cases h2;rfl
 simp only [zCI] at h
 split at h
 ·simp only [zBQ] at h
  split at h
  ·rcases zBh h with ⟨_,h⟩ | ⟨_,h⟩
   ·exact ⟨_,mp h,List.prefix_append _ _⟩
   ·cases h
  ·exact ⟨_,mp h,List.prefix_refl _⟩
  ·cases h
 ·exact ⟨_,mp h,List.prefix_refl _⟩
theorem zUu (yx : zF3 P orc) (hnm:zEB P) (hC:Client P l plan k0 Ψ J Jx):Frame P H orc nt none 0 (fun _=>True) (zVY plan) (GJ nt val l k0 Ψ J Jx):=by
 refine ⟨?_,?_,?_,?_,?_,?_⟩
 ·intro ops o fz tk nl e e' lg lg' h hf
  obtain ⟨g',rfl,hp⟩:=hf
  cases lg with
  | none=>simp only [zCI] at h;obtain ⟨y,_,h2⟩:=Option.map_eq_some_iff.1 h;cases h2
  | some g =>
   obtain ⟨g2,h2,h3⟩:=zHi h
   cases h2
   exact ⟨g,rfl,h3.trans hp⟩
 ·intro ops i o fz tk nl a w e e' lg lg' Q yp hi _ yH hG h
  obtain ⟨g,rfl,vF,hk,w1,U1,Φ1,hf,jc⟩:=hG
  have yS:zP2 P nt o=true:=List.all_eq_true.1 yp o (by
   rw [← Array.getElem?_toList] at hi;exact List.mem_of_getElem? hi)
  simp only [zCI] at h
  cases hy:zCa e o with
  | none =>
   rw [hy] at h;simp only at h
   obtain ⟨e1,h1,h2⟩:=Option.map_eq_some_iff.1 h
   cases h2
   exact zDx (zKp yx hnm yp hf hi h1) fun a' w' ye=>⟨g,rfl,vF,hk,w1,U1,Φ1,ye,jc⟩
  | some yG =>
   obtain ⟨h0,args⟩:=yG
   rw [hy] at h;simp only at h
   obtain ⟨Φ,rv,E,L,S,hb⟩:=hf
   have uM:=zIj yS
   simp only [zCa] at hy
   split at hy
   ·rename_i c hc
    split at hy
    ·rename_i tc yn
     split at hy
     ·rename_i h0' jv
      simp only [Option.some.injEq,Prod.mk.injEq] at hy
      obtain ⟨rfl,rfl⟩:=hy
      have yD:zAW nt (.tmp tc)=true∧∀ x∈c.args.toList,zAW nt x=true:=by
       have h1:=yS
       simp only [zP2,hc,Bool.and_eq_true,yn] at h1
       obtain ⟨_,h2,h3⟩:=h1
       exact ⟨by simpa using h3,List.all_eq_true.1 (by simpa using h2)⟩
      have htc:tc<nt:=zB2 yD.1
      have yb:tc<zAd:=Nat.lt_of_lt_of_le htc (Nat.le_trans S.small (by decide))
      have hcv:a.eval (.tmp tc) = .func (.yield h0') #[] #[]:=by
       have:=S.conf.rep tc
       rw [S.env tc yb,jv] at this
       show a.tmps.getD tc undef=_
       rw [S.tmps tc htc];exact this.2
      simp only [zBQ] at h
      cases hw:zKm ops e o with
      | none=>rw [hw] at h;cases h
      | some b =>
       have hwant:=zRU yp S hw
       simp only [wpOpIn,hi,hwant]
       cases b with
       | false =>
        rw [hw] at h;simp only at h
        obtain ⟨e1,h1,h2⟩:=Option.map_eq_some_iff.1 h
        cases h2
        exact ⟨fun _ _=>trivial,g,rfl,vF,hk,w1,U1,Φ1,zAG S hb uM h1 (p := .und) ⟨rfl,rfl⟩,jc⟩
       | true =>
        rw [hw] at h;simp only at h
        rcases zBh h with ⟨jR,h⟩ | ⟨_,h⟩
        ·simp only [Bool.and_eq_true] at jR
         obtain ⟨⟨jd,hkn⟩,vG⟩:=jR
         have vG:=Nat.eq_of_beq_eq_true vG
         rw [vF] at vG;subst vG
         have hkn:g.k≠0:=by simpa using hkn
         obtain ⟨e1,h1,h2⟩:=Option.map_eq_some_iff.1 h
         cases h2
         rcases jc with ⟨_,B,hJ,hBU,hBΦ⟩ | ⟨h0,_⟩
         ·
          have hvals:c.args.map a.eval=((c.args.toList.map (zOM e)).map zCB).toArray:=by
           have key:∀ l:List Operand,(∀ x∈l,zAW nt x=true)→(l.map (zOM e)).all PV.flat=true→l.map a.eval=(l.map (zOM e)).map zCB:=by
            intro l
            induction l with
            | nil=>intro _ _;rfl
            | cons x l ih =>
             intro h1 h2
             simp only [List.map_cons,List.all_cons,Bool.and_eq_true] at h2
             simp only [List.map_cons]
             rw [zSn (zSp S (h1 x (by simp))) h2.1,ih (fun y hy=>h1 y (by simp [hy])) h2.2]
           have:=key c.args.toList yD.2 jd
           rw [← this]
           apply Array.toList_inj.1
           simp
          have hJw:J g.xs w B:=by
           refine hC.abide hJ S.conf.size (fun b hb=>S.conf.kept b (hC.small hJ b hb) (hBU b hb)) ⟨S.conf.os,S.conf.tape,S.conf.output⟩
          have hLB:∀ s,∀ b∈L s,¬ B b:=by
           intro s b jC wI
           rcases (S.conf.own s b jC).2.2 with h3 | h3
           ·exact hBU b wI h3
           ·have:=hC.small hJ b wI;omega
          have hΦB:∀ b,Φ b→Ψ b∨¬ B b:=by
           intro b hbΦ
           rcases (S.conf.frz b hbΦ).2 with h3 | h3 | h3
           ·exact hBΦ b h3
           ·exact .inr fun wI=>hBU b wI h3
           ·exact .inr fun wI=>by have:=hC.small hJ b wI;omega
          have qR:g.xs++[c.args.toList.map (zOM e)] <+: plan:=by
           obtain ⟨g2,wt,hp⟩:=yH
           cases wt;exact hp
          have hexec:(execOp a.eval o).run P w=(Instr.yield h0' (c.args.map a.eval)).run P w:=by
           simp only [execOp,hc,Go.resolve,yn,hcv,Deferred.ofValue,Sem.run_bind,Sem.run_pure,Result.andThen_ok,invoke]
           simp
          have kI:∀ {R:Ending→World→Prop},YieldAt (FF none) 0 P h0' ((c.args.toList.map (zOM e)).map zCB).toArray w R→(∀ en w',R en w'→∃ v,en = .returned v∧GJ nt val h0' k0 Ψ J Jx (a.put o.dst v) w' e' (some ⟨g.xs++[c.args.toList.map (zOM e)],g.k-1,g.at_⟩)) →
            o.wpIn (FF none) 0 P a w (fun a' w'=>GJ nt val h0' k0 Ψ J Jx a' w' e' (some ⟨g.xs++[c.args.toList.map (zOM e)],g.k-1,g.at_⟩)) Q:=by
           intro R ⟨fn,tmps,ca,cb,hX,yN⟩ hR
           refine ⟨fun _ _=>trivial,?_⟩
           rw [Oper.semAt_eq (FF none).round a.eval o (fun c' wi=>by rw [hc] at wi;cases wi),hexec,hvals,hX]
           refine ⟨fun h=>(by cases h),yN.mono fun en w' um=>?_⟩
           obtain ⟨v,rfl,hv⟩:=hR en w' um
           exact hv
          have hO:g.k-1=k0-((g.xs++[c.args.toList.map (zOM e)]).length:Int):=by rw [hk];simp;omega
          rcases zBh h1 with ⟨jL,h1⟩ | ⟨jL,h1⟩
          ·
           have jL:g.k=1:=by simpa using jL
           refine kI (hC.last hJw qR (by rw [← hk];exact jL) jd) fun en w' ⟨um,hx⟩=>⟨_,um,?_⟩
           refine ⟨_,rfl,vF,hO,w',fun _=>False,fun _=>False,?_,.inr ⟨by rw [jL];rfl,hx,fun _ h=>h⟩⟩
           have C':Conf w' (fun _=>False) (fun _=>False) w' (fun _=>False) rv (fun s=>if (E s).num then E s else .bad) (fun _=>[]):=by
            refine ⟨fun s=>?_,fun _=>List.nodup_nil,fun _ _ _ b hb=>(by cases hb),fun s b hb=>(by cases hb),fun b hb=>hb.elim,fun b hb=>hb,Nat.le_refl _,fun _ _ _=>rfl,rfl,rfl,rfl⟩
            have:=S.conf.rep s
            split
            ·rename_i hn
             revert this hn
             cases E s<;>intro this hn<;>first | (cases hn;done) | exact ⟨this.1,rfl⟩
            ·rfl
           have S':St w' (fun _=>False) (fun _=>False) nt ⟨val,[]⟩ a w' (e.forget zAd) (fun _=>False) rv (fun s=>if (E s).num then E s else .bad) (fun _=>[]):=by
            refine ⟨C',fun s hs=>?_,S.size,S.small,S.tmps,fun d ps j hd hp hj=>?_,S.hid,S.dfr⟩
            ·rw [zEI,S.env s hs]
             have:s≠zAd:=by omega
             simp [this]
            ·split at hp
             ·rename_i hn;rw [hp] at hn;cases hn
             ·cases hp
           exact zAG S' (fun s hs=>by show (if (E s).num then E s else PV.bad) = .bad;rw [hb s hs];rfl) uM h1 (p := .bool false) ⟨rfl,rfl⟩
          ·
           have jL:g.k≠1:=by simpa using jL
           refine kI (hC.round hJw qR (by rw [← hk];exact jL) jd) fun en w' ⟨um,gA,B',hJ',hB'⟩=>⟨_,um,?_⟩
           have gS:∀ s,∀ b∈L s,w'.heap[b]? = w.heap[b]?:=fun s b hb=>gA.kept b (S.conf.own s b hb).1 (hLB s b hb)
           have hΦk:∀ b,Φ b→w'.heap[b]? = w.heap[b]?:=fun b hb=>(hΦB b hb).elim (fun h=>gA.seen b h) (fun h=>gA.kept b (S.conf.frz b hb).1 h)
           have C1:=S.conf.arrive (w':=w') gA.size gS hΦk
           have S':=S.with C1
           refine ⟨_,rfl,vF,hO,w',_,_,zAG S' hb uM h1 (p := .bool true) ⟨rfl,rfl⟩,.inl ⟨by simp only;omega,B',hJ',fun b wI ⟨s,jC⟩=>?_,fun b hbΦ=>?_⟩⟩
           ·rcases hB' b wI with h3 | h3
            ·exact hLB s b jC h3
            ·have:=(S.conf.own s b jC).1;omega
           ·rcases hΦB b hbΦ with h3 | h3
            ·exact .inl h3
            ·refine .inr fun wI=>?_
             rcases hB' b wI with h4 | h4
             ·exact h3 h4
             ·have:=(S.conf.frz b hbΦ).1;omega
         ·exact absurd h0 hkn
        ·cases h
     ·cases hy
    ·cases hy
   ·cases hy
 ·intro a w e e' lg ⟨g,h1,h2,h3,w1,U1,Φ1,hf,hc⟩ hg
  exact ⟨g,h1,h2,h3,w1,U1,Φ1,hf.get' hg,hc⟩
 ·intro a w e lg d ⟨g,h1,h2,h3,w1,U1,Φ1,hf,hc⟩
  exact ⟨g,h1,h2,h3,w1,U1,Φ1,hf.tick d,hc⟩
 ·intro a w e lg l ⟨g,h1,h2,h3,w1,U1,Φ1,hf,hc⟩
  exact ⟨g,h1,h2,h3,w1,U1,Φ1,hf.drop l,hc⟩
 ·intro a w e lg t b ⟨g,h1,h2,h3,w1,U1,Φ1,⟨Φ,rv,E,L,S,hb⟩,hc⟩ ht he
  have yb:t<zAd:=Nat.lt_of_lt_of_le ht (Nat.le_trans S.small (by decide))
  have:=S.conf.rep t
  rw [S.env t yb,he] at this
  rw [S.tmps t ht];exact this.1
theorem zTI (zEV:P.follows .mixedOrders=true) (yx:zF3 P orc) (hnm:zEB P) (hC:Client P l plan k0 Ψ J Jx) {m:Nat} {f:FuncId} {fn:Func} {body:Code} {args:List PV} (hf:P.funcs[f]? = some fn) (yP:fn.body=some body) (jA:zCz P fn.ntmps body=true)
  (uL:fn.ntmps≤2000000) (yG:args.length≤fn.ntmps) (uP:args.all (fun p => !p.isTup)=true) (y4:fn.results.isEmpty=true) {x:X} {e1:Env} {g:Log}
  (hx:exec P H orc yo al fn.ntmps (H f) m body (zA9 args []) (some ⟨[],k0,l⟩)=some (x,e1,some g)) (gB:x = .norm∨x = .ret) (hg:g.xs=plan) (hk:k0≠0)
  {w:World} {Φ:Nat→Prop} {rv:Nat→Value} {E:Nat→PV} {L:Nat→List Nat} {vs:Array Value} (hE:∀ s,s<zAd→E s=(zA9 args []).get s) (kQ:∀ s,zAd≤s→E s = .bad) (C:Conf w (fun b=>∃ s,b∈L s) Φ w Φ rv E L)
  (yC:vs.size=args.length) (yg:∀ i,i<args.length→vs[i]? = some (rv i)) (j7:∀ s,args.length≤s→s<zAl→rv s=undef) {B:Nat→Prop} (hJ:J [] w B) (hBL:∀ b,B b→∀ s,b∉L s) (hBΦ:∀ b,Φ b→Ψ b∨¬ B b) :
  CallsIn (FF none) 0 P f vs w fun en w'=>(∃ v,en = .returned v)∧((k0-plan.length≠0∧∃ B',J plan w' B')∨(k0-plan.length=0∧Jx w')):=by
 have ho:zAI=60000000:=rfl
 have hh:zAl=50000000:=rfl
 have wF:zAd=1000000000:=rfl
 refine callsIn_of_wp hf yP trivial ?_
 have S:St w (fun b=>∃ s,b∈L s) Φ fn.ntmps ⟨rv,[]⟩ {tmps:=vs++Array.replicate (fn.ntmps-vs.size) undef,defers:=[]} w (zA9 args []) Φ rv E L:=by
  refine ⟨C,hE,by simp;omega,uL,fun t ht=>?_,fun d ps i hd hp hi=>?_,fun _ _ _=>rfl,rfl⟩
  ·simp only [Array.getD_eq_getD_getElem?,Array.getElem?_append]
   by_cases h1:t<vs.size
   ·rw [if_pos h1,yg t (by omega)];rfl
   ·rw [if_neg h1,Array.getElem?_replicate,if_pos (by omega),j7 t (by omega) (by omega)];rfl
  ·rw [hE d (by omega),zC2 (by omega)] at hp
   split at hp
   ·rename_i vP
    have:(args.getD d .bad)∈args:=by
     simp only [List.getD,List.getElem?_eq_getElem vP,Option.getD_some];exact List.getElem_mem vP
    have:=List.all_eq_true.1 uP _ this
    rw [hp] at this;cases this
   ·split at hp
    ·rename_i h2;simp at h2;omega
    ·cases hp
 have yH:zVY plan (some g):=⟨g,rfl,by rw [hg];exact List.prefix_refl _⟩
 have hw:=zHn (zUu (val:=rv) yx hnm hC) zEV m body (.inr fun m' _ t ps ca cb a w e x e' _ hG _=>by obtain ⟨g,h,_⟩:=hG;cases h) jA (fun _ _=>trivial) yH
  (⟨_,rfl,rfl,by simp,w,_,_,⟨Φ,rv,E,L,S,kQ⟩,.inl ⟨hk,B,hJ,fun b hb ⟨s,hs⟩=>hBL b hb s hs,hBΦ⟩⟩:GJ fn.ntmps rv l k0 Ψ J Jx _ w (zA9 args []) (some ⟨[],k0,l⟩)) hx
 refine wpIn_mono hw fun ex a' w' ⟨gC,g',gQ,_,qN,w1,U1,Φ1,vV,jc⟩=>?_
 cases gQ
 rw [hg] at qN;rw [qN] at jc
 obtain ⟨Φ2,rv2,E2,L2,S2,jN⟩:=vV
 have hX:=zMb (P:=P) (w:=w') (fn:=fn) (a:=a') y4
 have vf:bodyPost P fn (fun en w'=>(∃ v,en = .returned v)∧((k0-plan.length≠0∧∃ B',J plan w' B')∨(k0-plan.length=0∧Jx w'))) .normal a' w':=by
  refine ⟨S2.dfr,_,hX,⟨_,rfl⟩,?_⟩
  rcases jc with ⟨h1,B1,hJ1,hBU,_⟩ | ⟨h1,jV,hU⟩
  ·rw [hg] at hJ1
   exact .inl ⟨h1,B1,hC.abide hJ1 S2.conf.size (fun b hb=>S2.conf.kept b (hC.small hJ1 b hb) (hBU b hb)) ⟨S2.conf.os,S2.conf.tape,S2.conf.output⟩⟩
  ·exact .inr ⟨h1,hC.abideX jV S2.conf.size (fun b hb=>S2.conf.kept b hb (hU b)) ⟨S2.conf.os,S2.conf.tape,S2.conf.output⟩⟩
 subst gC
 rcases gB with rfl | rfl<;>exact vf
end
end Go.Eng
namespace Go.Eng
open Go
section
variable {w0 w w' w1 w2:World} {U Φ0 Φ U1 Φ1 U2 Φ2:Nat→Prop} {nt:Nat} {hv:Hid} {a:Act} {e e':Env} {rv rv':Nat→Value} {E E':Nat→PV} {L L':Nat→List Nat}
theorem zNZ {f:Nat→PV→PV}:∀ (e:Env) (s:Nat),f s .bad = .bad→Env.get (e.map fun x=>(x.1,f x.1 x.2)) s=f s (e.get s)
 | [],s,h=>h.symm
 | (k,v)::e,s,h=>by
  simp only [List.map_cons,Env.get]
  cases hb:Nat.beq k s with
  | true=>rw [Nat.eq_of_beq_eq_true hb];rfl
  | false=>exact zNZ e s h
def zDe (nt:Nat) (R ds:List Nat) (e:Env) (s:Nat) (p:PV):PV :=
 bif R.contains s || !p.heavy&&p.ways.all (fun w=>R.contains w.1) then p else bif !(Nat.blt s nt && !ds.contains s||Nat.ble zAl s&&Nat.blt s zAI) then .bad else bif (R.isEmpty||(e.get s).free) && !(e.get s).isTup then e.get s else .bad
theorem zQ4 (nt:Nat) (R ds:List Nat) (e0 e:Env) (s:Nat):(after nt R ds e0 e).get s=zDe nt R ds e s (e0.get s) :=
 zNZ (f:=fun s p=>zDe nt R ds e s p) e0 s (by simp [zDe,PV.heavy,PV.ways])
theorem zKw (nt:Nat) (R ds:List Nat) (e:Env) (s:Nat) (p:PV) :
  (zDe nt R ds e s p=p∧s∈R)∨(zDe nt R ds e s p=p∧p.heavy=false∧∀ x∈p.ways,x.1∈R)∨zDe nt R ds e s p = .bad ∨
  (zDe nt R ds e s p=e.get s∧s∉R∧((s<nt∧s∉ds)∨(zAl≤s∧s<zAI))∧(R=[]∨(e.get s).free=true)∧(e.get s).isTup=false):=by
 simp only [zDe]
 cases h1:(R.contains s || !p.heavy&&p.ways.all (fun w=>R.contains w.1)) with
 | true =>
  simp only [Bool.or_eq_true,Bool.and_eq_true,Bool.not_eq_true',List.contains_iff_mem,List.all_eq_true] at h1
  rcases h1 with h1 | ⟨h1,h2⟩
  ·exact .inl ⟨rfl,h1⟩
  ·exact .inr (.inl ⟨rfl,h1,h2⟩)
 | false =>
  simp only [cond_false]
  have hs:s∉R:=by
   simp only [Bool.or_eq_false_iff] at h1
   intro hm
   rw [List.contains_iff_mem.2 hm] at h1;cases h1.1
  cases h2:(!(Nat.blt s nt && !ds.contains s||Nat.ble zAl s&&Nat.blt s zAI)) with
  | true=>exact .inr (.inr (.inl rfl))
  | false =>
   simp only [cond_false]
   cases h3:((R.isEmpty||(e.get s).free) && !(e.get s).isTup) with
   | false=>exact .inr (.inr (.inl rfl))
   | true =>
    simp only [Bool.not_eq_false',Bool.or_eq_true,Bool.and_eq_true,Bool.not_eq_true'] at h2 h3
    refine .inr (.inr (.inr ⟨rfl,hs,?_,?_,h3.2⟩))
    ·rcases h2 with ⟨h4,h5⟩ | ⟨h4,h5⟩
     ·refine .inl ⟨zB2 h4,fun hm=>?_⟩
      rw [List.contains_iff_mem.2 hm] at h5;cases h5
     ·exact .inr ⟨Nat.le_of_ble_eq_true h4,zB2 h5⟩
    ·rcases h3.1 with h4 | h4
     ·exact .inl (by simpa using h4)
     ·exact .inr h4
theorem zH1:∀ (p:PV),(zAZ p).heavy=false:=by
 intro p
 induction p using PV.rec (motive_2:=fun ps=>zCU (zAx ps)=false) (motive_3:=fun _=>True) (motive_4:=fun _=>True)<;>first | trivial | rfl | skip
 all_goals simp_all [zAZ,zAx,PV.heavy,zCU]
mutual
theorem zKd {f:PV→PV} (hf:∀ a,a.isWay=true→(f a).heavy=false):∀ (p:PV),p.heavy=false→(p.mapW f).heavy=false
 | .agg cs,h=>zGo hf cs h
 | .tup cs,h=>zGo hf cs h
 | .addr ..,_=>hf _ rfl
 | .bor ..,_=>hf _ rfl
 | .bsl ..,_=>hf _ rfl
 | .bmap ..,_=>hf _ rfl
 | .log ..,_=>hf _ rfl
 | .own ..,h=>h
 | .box _,h=>by cases h
 | .omap _,h=>h
 | .lock _,h=>by cases h
 | .bad,h=>h
 | .und,h=>h
 | .int ..,h=>h
 | .bool _,h=>h
 | .nilp,h=>h
 | .nilf,h=>h
 | .nilm,h=>h
 | .nn,h=>h
 | .nils _,h=>h
 | .sl _,h=>h
 | .ref _,h=>rfl
 | .map _,h=>h
 | .func ..,h=>rfl
 | .yld _,h=>h
theorem zGo {f:PV→PV} (hf:∀ a,a.isWay=true→(f a).heavy=false):∀ (ps:List PV),zCU ps=false→zCU (zCF f ps)=false
 | [],h=>h
 | p::ps,h=>by
  simp only [zCU,Bool.or_eq_false_iff] at h
  simp only [zCF,zCU,zKd hf p h.1,zGo hf ps h.2,Bool.or_self]
end
theorem zPO (r:Nat) (pre:zAT) (q0:PV):∀ a:PV,a.isWay=true→(inl r pre q0 a).heavy=false:=by
 have at_:∀ {q:Option PV} {g:PV→PV},(∀ x,(g x).heavy=false)→(zHF q g).heavy=false:=by
  intro q g h;cases q<;>first | rfl | exact h _
 have h1:∀ i c sh x,(zDs i c sh x).heavy=false:=by
  intro i c sh x
  simp only [zDs]
  repeat' split
  all_goals first | rfl | (cases (_:Bool)<;>rfl) | skip
  all_goals (rename_i h;revert h;intro _)
  all_goals first | (generalize (Nat.ble _ _&&_)=b;cases b<;>rfl) | (generalize PV.oneCell _=b;cases b<;>rfl)
 have h2:∀ lo n x,(zC8 lo n x).heavy=false:=by
  intro lo n x
  simp only [zC8]
  split
  ·generalize Nat.ble _ _=b;cases b<;>rfl
  ·rfl
 have h3:∀ i c sz ag m x,(zCp i c sz ag m x).heavy=false:=by
  intro i c sz ag m x
  simp only [zCp]
  repeat' split
  all_goals first | rfl | skip
  generalize (zCi _ _ _ _&&_)=b;cases b<;>rfl
 have h4:∀ x,(zEx x).heavy=false:=by intro x;cases x<;>rfl
 intro a ha
 cases a<;>first | (cases ha;done) | skip
 case addr=>simp only [inl];generalize zAQ _ _ _ _=b;cases b<;>first | rfl | exact at_ (h1 _ _ _)
 case bor=>simp only [inl];generalize zAQ _ _ _ _=b;cases b<;>first | rfl | exact at_ (h2 _ _)
 case bsl=>simp only [inl];generalize zAQ _ _ _ _=b;cases b<;>first | rfl | exact at_ (h3 _ _ _ _ _)
 case bmap=>simp only [inl];generalize zAQ _ _ _ _=b;cases b<;>first | rfl | exact at_ h4
 case log=>rfl
theorem zLT:∀ (R:List Nat) {e ef:Env} {Φ:Nat→Prop} {E:Nat→PV} {L:Nat→List Nat},St w0 U Φ0 nt hv a w e Φ rv E L→zBy E→zE6 R e=some ef →
  ∃ Φ' E' L',St w0 U Φ0 nt hv a w ef Φ' rv E' L'∧zBy E'∧(∀ b,Φ b→Φ' b)∧(∀ b,Φ' b→Φ b∨∃ r∈R,b∈L r)∧(∀ r∈R,∀ b∈L r,Φ' b)∧∀ s,∀ b∈L' s,b∈L s
 | [],e,ef,Φ,E,L,S,hb,h=>by
  simp only [zE6,Option.some.injEq] at h;subst h
  exact ⟨Φ,E,L,S,hb,fun _ h=>h,fun _ h => .inl h,fun _ h=>(by cases h),fun _ _ h=>h⟩
 | r :: R, e,ef,Φ,E,L,S,hb,h=>by
  simp only [zE6] at h
  rcases zBh h with ⟨hr,h⟩ | ⟨_,h⟩
  ·have hr:=zB2 hr
   cases hf:e.frz r [] with
   | none=>rw [hf] at h;cases h
   | some e1 =>
    rw [hf] at h;simp only at h
    obtain ⟨q0,root,hl,hn,hm,yS⟩:=Env.frz_eq hf
    have yF:=zBE hl
    have hE:=S.env r hr
    obtain ⟨k1,k2⟩:=zBL (zEW q0).1 (zEW q0).2 hm
    obtain ⟨nv,Li,L1,h1,h2,h3,h4⟩:=S.conf.ice (fun _=>false) hr (pre:=[]) (q:=q0) (root':=root) (by rw [hE];exact yF) (by rw [hE];exact hn) (by rw [hE];exact hm) k1
    have hq:q0=E r:=by simp only [zAz,Option.some.injEq] at hn;rw [hE,hn]
    have kX:root=zAZ q0:=by simp only [zAr,Option.some.injEq] at hm;exact hm.symm
    have uA:Li=L r:=by
     simp only [zAR,Option.some.injEq,Prod.mk.injEq] at h1
     rw [← h1.1,hq] at h2
     exact Rep.uniq _ _ _ _ h2 (by rw [show E r=(E r).unlock from (by rw [hE];exact yF.symm)];exact zB4 (S.conf.rep r))
    have hL1r:L1 r=[]:=by
     have:=h4.rep r
     simp only [hr,true_or,if_true] at this
     refine zC3 _ _ _ ?_ this
     rw [kX]
     have hh:=zH1 q0
     exact zKd (zPO r [] q0) _ hh
    have S1:St w0 U Φ0 nt hv a w e1 (fun b=>Φ b∨b∈Li) rv (fun s=>if s<zAd∨False then (if s=r then root else E s).mapW (inl r [] q0) else E s) L1:=by
     refine S.turn (by simpa using h4) (fun s hs=>?_) (fun _ _=>rfl) (fun d ps hd hp=>?_)
     ·simp only [hs,true_or,if_true]
      rw [yS s]
      by_cases yW:s=r
      ·subst yW;simp
      ·rw [if_neg yW,if_neg yW,S.env s hs]
     ·have uU:d<zAd:=by simp only [zAd];omega
      simp only [uU,true_or,if_true] at hp
      obtain ⟨ps',h5,h6⟩:=zDJ (zQi r [] q0) hp
      by_cases jt:d=r
      ·rw [if_pos jt] at h5;rw [h5] at k2;cases k2
      ·rw [if_neg jt] at h5;exact ⟨ps',h5,h6⟩
    have yT:zBy fun s=>if s<zAd∨False then (if s=r then root else E s).mapW (inl r [] q0) else E s:=by
     intro g hg
     have:¬ g<zAd:=by omega
     simp [this,hb g hg]
    obtain ⟨Φ',E',L',g1,g2,g3,g4,g5,g6⟩:=zLT R S1 yT h
    have yV:∀ s,∀ b∈L1 s,b∈L s:=by
     intro s b uG
     by_cases yW:s=r
     ·subst yW;rw [hL1r] at uG;cases uG
     ·rw [h3 s yW] at uG;exact uG
    refine ⟨Φ',E',L',g1,g2,fun b hb=>g3 b (.inl hb),fun b hb=>?_,fun t ht b kK=>?_,fun s b uG=>yV s b (g6 s b uG)⟩
    ·rcases g4 b hb with (h5 | h5) | ⟨t,ht,h5⟩
     ·exact .inl h5
     ·exact .inr ⟨r,by simp,by rw [← uA];exact h5⟩
     ·exact .inr ⟨t,by simp [ht],yV t b h5⟩
    ·by_cases htr:t=r
     ·subst htr;exact g3 b (.inr (by rw [uA];exact kK))
     ·rcases List.mem_cons.1 ht with h5 | h5
      ·exact absurd h5 htr
      ·exact g5 t h5 b (by rw [h3 t htr];exact kK)
  ·cases h
theorem zPd {p:PV} (h:p.flat=true):p.isTup=false∧p.heavy=false:=by
 cases p<;>first | (cases h;done) | exact ⟨rfl,rfl⟩ | skip
 rename_i cs
 refine ⟨rfl,?_⟩
 have key:∀ cs:List PV,cs.all PV.num=true→zCU cs=false:=by
  intro cs
  induction cs with
  | nil=>intro _;rfl
  | cons c cs ih =>
   intro h
   simp only [List.all_cons,Bool.and_eq_true] at h
   simp only [zCU,ih h.2,Bool.or_false]
   cases c<;>first | (cases h.1;done) | rfl
 exact key cs h
theorem zTR {A:Al} {p:PV} (h:p.num=true):Rep w Φ A p (zJQ p) []:=by
 cases p<;>first | (cases h;done) | exact ⟨rfl,rfl⟩
theorem zNx {A:Al}:∀ (ps:List PV),ps.all PV.num=true→zA1 w Φ A ps (ps.map zJQ) []
 | [],_=>⟨rfl,rfl⟩
 | p::ps,h=>by
  simp only [List.all_cons,Bool.and_eq_true] at h
  exact ⟨_,_,[],[],rfl,rfl,zTR h.1,zNx ps h.2⟩
theorem zRu {A:Al} {p:PV} (h:p.flat=true):Rep w Φ A p (zCB p) []:=by
 cases p<;>first | (cases h;done) | exact ⟨rfl,rfl⟩ | skip
 exact ⟨_,rfl,by simpa using zNx _ h⟩
theorem zHW:∀ (ps:List Tmp) (x:List PV) {a:Act} {e e1:Env},Fr w0 U Φ0 nt hv a w e→(∀ t∈ps,t<nt)→x.all PV.flat=true→zCq ps x e=some e1 →
  ps.length=x.length∧Fr w0 U Φ0 nt hv {a with tmps:=(ps.zip (x.map zCB)).foldl (fun t (p,v)=>t.setIfInBounds p v) a.tmps} w e1 ∧
  ∀ t,t∉ps→((ps.zip (x.map zCB)).foldl (fun t (p,v)=>t.setIfInBounds p v) a.tmps).getD t undef=a.tmps.getD t undef
 | [],[],a,e,e1,hf,_,_,h=>by
  simp only [zCq,Option.some.injEq] at h;subst h
  exact ⟨rfl,hf,fun _ _=>rfl⟩
 | [],_::_,a,e,e1,hf,_,_,h=>by cases h
 | _::_,[],a,e,e1,hf,_,_,h=>by cases h
 | t :: ts,v::vs,a,e,e1,hf,ht,hx,h=>by
  simp only [zCq] at h
  split at h
  ·cases h
  ·simp only [List.all_cons,Bool.and_eq_true] at hx
   obtain ⟨Φ,rv,E,L,S,hb⟩:=hf
   have hl:=zPd hx.1
   have hX:(put (some t) v).run (fun _ _ _=>none) e=some (e.set t v):=by
    simp only [put,hl.1,cond_false,lay,hl.2,PM.run]
   have hf1:=zAG (d:=some t) S hb (fun y hy=>by cases hy;exact ht t (by simp)) hX (zRu hx.1)
   obtain ⟨h1,h2,h3⟩:=zHW ts vs hf1 (fun y hy=>ht y (by simp [hy])) hx.2 h
   refine ⟨by simp [h1],h2,fun y hy=>?_⟩
   simp only [List.mem_cons,not_or] at hy
   have:=h3 y hy.2
   simp only [List.map_cons,List.zip_cons_cons,List.foldl_cons]
   refine Eq.trans this ?_
   show (a.tmps.setIfInBounds t (zCB v)).getD y undef=_
   simp only [Array.getD_eq_getD_getElem?,Array.getElem?_setIfInBounds]
   rw [if_neg (fun e=>hy.1 e.symm)]
end
theorem zMS {F:Fence} {n:Nat} {P:Program} {ops:Array Oper} {Q:Exit→Act→World→Prop} {i:Nat} {K:Act→World→Prop} {T:Act→Prop} {a:Act} {w:World} {o:Oper} (hi:ops[i]? = some o) (hT:∀ v ds,T ({a with defers:=ds}.put o.dst v))
  (h:wpOpIn F n P ops Q i K a w):wpOpIn F n P ops Q i (fun a' w'=>K a' w'∧T a') a w:=by
 have hT0:∀ v,T (a.put o.dst v):=fun v=>hT v a.defers
 simp only [wpOpIn,hi] at h ⊢
 split
 ·rename_i hw
  rw [if_pos hw] at h
  refine ⟨h.1,?_⟩
  have h:=h.2
  revert h
  generalize (o.semAt F.round a.eval).run P w=r
  intro h
  cases r with
  | ok x w' =>
   cases x<;>simp only [Oper.uponIn] at h ⊢ <;> first
    | exact ⟨h,hT0 _⟩
    | exact ⟨h,hT _ _⟩
    | exact ⟨h.1,h.2.mono fun e w'' he=>by cases e<;>first | exact ⟨he,hT0 _⟩ | exact he⟩
    | exact ⟨h.1,h.2.mono fun v w'' he=>⟨he,hT0 _⟩⟩
    | exact h
  | halt x w'=>cases x<;>simp only [Oper.uponIn] at h ⊢ <;> exact h
 ·rename_i hw
  rw [if_neg hw] at h
  exact ⟨h.1,h.2,hT0 _⟩
def GR (wb:World) (Ub Φb:Nat→Prop) (nt:Nat) (val:Nat→Value) (ds:List Nat) (tm:Array Value) (a:Act) (w:World) (e:Env) (lg:Option Log):Prop :=
 lg=none∧Fr wb Ub Φb nt ⟨val,[]⟩ a w e∧∀ t,t∉ds→a.tmps.getD t undef=tm.getD t undef
theorem zSI {P:Program} {H:zBk} {orc:zAL} {nt l:Nat} {wb:World} {Ub Φb:Nat→Prop} {val:Nat→Value} {ds:List Nat} {tm:Array Value} (yx:zF3 P orc) (hnm:zEB P) :
  Frame P H orc nt (some l) 0 (fun d=>d∈ds) (fun lg=>lg=none) (GR wb Ub Φb nt val ds tm):=by
 refine ⟨?_,?_,?_,?_,?_,?_⟩
 ·intro ops o fz tk nl e e' lg lg' h hf
  cases lg with
  | none=>rfl
  | some g=>obtain ⟨g',h2,_⟩:=zHi h;rw [h2] at hf;cases hf
 ·intro ops i o fz tk nl a w e e' lg lg' Q yp hi hd yH ⟨wJ,hf,ht⟩ h
  subst wJ
  simp only [zCI] at h
  obtain ⟨e1,h1,h2⟩:=Option.map_eq_some_iff.1 h
  cases h2
  refine zDx (zMS (T:=fun a'=>∀ t,t∉ds→a'.tmps.getD t undef=tm.getD t undef) hi (fun v ds' t ud=>?_) (zKp yx hnm yp hf hi h1)) fun a' w' ⟨ye,gR⟩=>⟨rfl,ye,gR⟩
  rw [← ht t ud]
  cases uM:o.dst with
  | none=>rfl
  | some d =>
   have hI:t≠d:=by rintro rfl;exact ud (hd t uM)
   simp only [Act.put,Array.getD_eq_getD_getElem?,Array.getElem?_setIfInBounds]
   rw [if_neg (fun e=>hI e.symm)]
 ·intro a w e e' lg ⟨h1,hf,ht⟩ hg
  exact ⟨h1,hf.get' hg,ht⟩
 ·intro a w e lg d ⟨h1,hf,ht⟩
  exact ⟨h1,hf.tick d,ht⟩
 ·intro a w e lg l ⟨h1,hf,ht⟩
  exact ⟨h1,hf.drop l,ht⟩
 ·intro a w e lg t b ⟨_,⟨Φ,rv,E,L,S,hb⟩,_⟩ ht he
  have yb:t<zAd:=Nat.lt_of_lt_of_le ht (Nat.le_trans S.small (by decide))
  have:=S.conf.rep t
  rw [S.env t yb,he] at this
  rw [S.tmps t ht];exact this.1
def X.isNorm:X→Bool
 | .norm=>true
 | _=>false
def zH8:X→Code
 | .ret => .ret
 | .ex id => .exit id
 | .norm => .skip
def zIu (run:Code→Env→Option (X×Env)) (ps:List Tmp) (ca cb:Code) (x:List PV) (e:Env):Option (X×Env) :=
 match zCq ps x e with
 | some e1=>match run ca e1 with
  | some (.norm,e2)=>run cb e2
  | _=>none
 | none=>none
section
variable {w0 w w' w1 w2:World} {U Φ0 Φ U1 Φ1 U2 Φ2:Nat→Prop} {nt:Nat} {hv:Hid} {a:Act} {e e':Env} {rv rv':Nat→Value} {E E':Nat→PV} {L L':Nat→List Nat}
theorem zLi {p:PV} (h:p.heavy=false):p.unlock=p:=by cases p<;>first | rfl | cases h
open Classical in
theorem Conf.behind {wb w4:World} {Ub Φb Φ3:Nat→Prop} {rv3:Nat→Value} {E3:Nat→PV} {L3:Nat→List Nat} {e3:Env} {R ds:List Nat} (C:Conf w0 U Φ0 w Φ rv E L) (hE:∀ s,s<zAd→E s=e.get s) (kQ:zBy E)
  (C3:Conf wb Ub Φb w4 Φ3 rv3 E3 L3) (hE3:∀ s,s<zAd→E3 s=e3.get s) (yL:∀ r∈R,∀ x∈(E r).ways,x.1∈R)
  (j6:∀ s,(s<nt∧s∉ds)∨(zAl≤s∧s<zAI)→rv3 s=rv s)
  (hs:w.heap.size≤w4.heap.size) (hk:∀ b,b<w.heap.size→(Φ b∨(∃ r∈R,b∈L r)∨b<w0.heap.size∧¬ U b)→w4.heap[b]? = w.heap[b]?)
  (hΦ3:∀ b,Φ b→Φ3 b) (hΦb:∀ b,Φ3 b→Φ b∨(∃ s,b∈L s)∨w.heap.size≤b) (hΦR:∀ r∈R,∀ b∈L r,Φ3 b) (hL3:∀ s,∀ b∈L3 s,(∃ t,b∈L t)∨w.heap.size≤b) (ho:w4.os=w.os∧w4.tape=w.tape∧w4.output=w.output) :
  ∃ E' L',(∀ s,s<zAd→E' s=zDe nt R ds e3 s (e.get s))∧zBy E'∧Conf w0 U Φ0 w4 (fun b=>Φ3 b∧∀ r∈R,b∉L r) rv E' L'∧(∀ r∈R,L' r=L r)∧(∀ s,∀ b∈L' s,(∃ r∈R,b∈L r)∨∃ t,b∈L3 t) ∧
   ∀ d ps,d<zAd→E' d = .tup ps→E d = .tup ps:=by
 let Tk:Nat→Prop:=fun s=>s<zAd∧zDe nt R ds e3 s (e.get s)=e3.get s∧((s<nt∧s∉ds)∨(zAl≤s∧s<zAI))∧(R=[]∨(e3.get s).free=true)∧(e3.get s).isTup=false
 let E':Nat→PV:=fun s=>if s<zAd then zDe nt R ds e3 s (e.get s) else .bad
 let L':Nat→List Nat:=fun s=>if s∈R then L s else if Tk s then L3 s else []
 have hE':∀ s,s<zAd→E' s=zDe nt R ds e3 s (e.get s):=fun s hs=>if_pos hs
 have hEb':zBy E':=fun g hg=>if_neg (by omega)
 have qS:∀ s,s∈R→L' s=L s:=fun s hs=>if_pos hs
 have gD:∀ s,s∉R→Tk s→L' s=L3 s:=fun s hs ht=>by show (if s∈R then L s else if Tk s then L3 s else [])=_;rw [if_neg hs,if_pos ht]
 have qT:∀ s,s∉R→¬ Tk s→L' s=[]:=fun s hs ht=>by show (if s∈R then L s else if Tk s then L3 s else [])=_;rw [if_neg hs,if_neg ht]
 have fate:∀ s,(s∈R∧E' s=E s)∨(s∉R∧Tk s∧E' s=E3 s)∨(s∉R∧¬ Tk s∧E' s=E s∧(E s).heavy=false∧∀ x∈(E s).ways,x.1∈R)∨(s∉R∧¬ Tk s∧E' s = .bad):=by
  intro s
  by_cases y5:s<zAd
  ·rw [hE' s y5,hE s y5]
   by_cases yv:s∈R
   ·have:zDe nt R ds e3 s (e.get s)=e.get s:=by
     simp only [zDe,List.contains_iff_mem.2 yv,Bool.true_or,cond_true]
    exact .inl ⟨yv,this⟩
   ·by_cases ht:Tk s
    ·exact .inr (.inl ⟨yv,ht,by rw [hE3 s y5];exact ht.2.1⟩)
    ·rcases zKw nt R ds e3 s (e.get s) with ⟨_,h2⟩ | ⟨h1,h2,h3⟩ | h1 | ⟨h1,h2,h3,h4,h5⟩
     ·exact absurd h2 yv
     ·exact .inr (.inr (.inl ⟨yv,ht,h1,h2,h3⟩))
     ·exact .inr (.inr (.inr ⟨yv,ht,h1⟩))
     ·exact absurd ⟨y5,h1,h3,h4,h5⟩ ht
  ·have hb:E' s = .bad:=hEb' s (by omega)
   have ht:¬ Tk s:=fun ht=>y5 ht.1
   by_cases yv:s∈R
   ·exact .inl ⟨yv,by rw [hb,kQ s (by omega)]⟩
   ·exact .inr (.inr (.inr ⟨yv,ht,hb⟩))
 have hΦ:zDf w w4 Φ (fun b=>Φ3 b∧∀ r∈R,b∉L r):=fun b hb=>⟨⟨hΦ3 b hb,fun r _ vw=>(C.own r b vw).2.1 hb⟩,hk b (C.frz b hb).1 (.inl hb)⟩
 have gS:∀ r∈R,∀ b∈L r,w4.heap[b]? = w.heap[b]?:=fun r hr b hb=>hk b (C.own r b hb).1 (.inr (.inl ⟨r,hr,hb⟩))
 have hA:∀ b v,b.isWay=true→(zA6 w rv E b v∧∀ x∈b.ways,x.1∈R)→zA6 w4 rv E' b v:=by
  intro b v hw ⟨ha,hR⟩
  have hr:(zA8 b).1∈R:=by
   have:=hR (zA8 b)
   cases b<;>first | (cases hw;done) | (exact ha.elim) | skip
   all_goals exact this (by simp [PV.ways,zA8])
  have hg:=zCP ha
  rcases fate (zA8 b).1 with ⟨_,h1⟩ | ⟨h1,_⟩ | ⟨h1,_⟩ | ⟨h1,_⟩
  ·exact zCD C zCc ha (by rw [h1,zBg]) rfl (gS _ hr)
  all_goals exact absurd hr h1
 have keepRep:∀ s,(∀ x∈(E s).ways,x.1∈R)→(∀ b∈L s,w4.heap[b]? = w.heap[b]?)→Rep w4 (fun b=>Φ3 b∧∀ r∈R,b∉L r) (zA6 w4 rv E') (E s) (rv s) (L s):=by
  intro s hx hL
  have h1:=Rep.ways (A':=fun b v=>zA6 w rv E b v∧∀ x∈b.ways,x.1∈R) (E s) (rv s) (L s) (fun b v _ jS ha=>⟨ha,fun x hxb=>hx x (jS x hxb)⟩) (C.rep s)
  exact h1.mono (Φ':=fun b=>Φ3 b∧∀ r∈R,b∉L r) hΦ hA hL
 refine ⟨E',L',hE',hEb',⟨fun s=>?_,fun s=>?_,fun s s' hI b hb yE=>?_,fun s b hb=>?_,fun b ⟨hb,_⟩=>?_,fun b hb=>⟨hΦ3 b (C.frz0 b hb),fun r _ vw=>(C.own r b vw).2.1 (C.frz0 b hb)⟩,Nat.le_trans C.size hs,
  fun b hb hu=>(hk b (Nat.lt_of_lt_of_le hb C.size) (.inr (.inr ⟨hb,hu⟩))).trans (C.kept b hb hu),ho.1.trans C.os,ho.2.1.trans C.tape,ho.2.2.trans C.output⟩,qS,fun s b hb=>?_,fun d ps hd hp=>?_⟩
 ·rcases fate s with ⟨h1,h2⟩ | ⟨h1,h2,h3⟩ | ⟨h1,h2,h3,h4,h5⟩ | ⟨h1,h2,h3⟩
  ·rw [h2,qS s h1];exact keepRep s (yL s h1) (gS s h1)
  ·rw [h3,gD s h1 h2]
   have jg:=j6 s h2.2.2.1
   rw [← jg]
   rcases h2.2.2.2.1 with hR | vm
   ·subst hR
    refine (C3.rep s).mono (Φ':=fun b=>Φ3 b∧∀ r∈([]:List Nat),b∉L r) (fun b hb=>⟨⟨hb,fun r hr=>by cases hr⟩,rfl⟩) (fun b v hw ha=>?_) (fun _ _=>rfl)
    have hg:=zCP ha
    rcases fate (zA8 b).1 with ⟨h1,_⟩ | ⟨_,h4,h5⟩ | ⟨_,_,h5,h6,_⟩ | ⟨_,_,h5⟩
    ·cases h1
    ·exact zCD C3 zCc ha (by rw [h5,zBg]) (j6 _ h4.2.2.1).symm (fun _ _=>rfl)
    ·exact zLb ha (by rw [h5,zLi h6];exact h6)
    ·exact zLb ha (by rw [h5];rfl)
   ·exact Rep.free _ _ _ (by rw [hE3 s h2.1];exact vm) (C3.rep s)
  ·rw [h3,qT s h1 h2]
   have wj:=zC3 _ _ _ h4 (C.rep s)
   have:=keepRep s h5 (by rw [wj];simp)
   rwa [wj] at this
  ·rw [h3,qT s h1 h2];rfl
 ·by_cases h1:s∈R
  ·rw [qS s h1];exact C.nodup s
  ·by_cases h2:Tk s
   ·rw [gD s h1 h2];exact C3.nodup s
   ·rw [qT s h1 h2];exact List.nodup_nil
 ·by_cases h1:s∈R
  ·rw [qS s h1] at hb
   by_cases jT:s'∈R
   ·rw [qS s' jT] at yE;exact C.disj s s' hI b hb yE
   ·by_cases jQ:Tk s'
    ·rw [gD s' jT jQ] at yE;exact (C3.own s' b yE).2.1 (hΦR s h1 b hb)
    ·rw [qT s' jT jQ] at yE;cases yE
  ·by_cases h2:Tk s
   ·rw [gD s h1 h2] at hb
    by_cases jT:s'∈R
    ·rw [qS s' jT] at yE;exact (C3.own s b hb).2.1 (hΦR s' jT b yE)
    ·by_cases jQ:Tk s'
     ·rw [gD s' jT jQ] at yE;exact C3.disj s s' hI b hb yE
     ·rw [qT s' jT jQ] at yE;cases yE
   ·rw [qT s h1 h2] at hb;cases hb
 ·by_cases h1:s∈R
  ·rw [qS s h1] at hb
   have:=C.own s b hb
   exact ⟨Nat.lt_of_lt_of_le this.1 hs,fun ⟨_,h2⟩=>h2 s h1 hb,this.2.2⟩
  ·by_cases h2:Tk s
   ·rw [gD s h1 h2] at hb
    have:=C3.own s b hb
    refine ⟨this.1,fun ⟨h3,_⟩=>this.2.1 h3,?_⟩
    rcases hL3 s b hb with ⟨t,h3⟩ | h3
    ·exact (C.own t b h3).2.2
    ·exact .inr (Nat.le_trans C.size h3)
   ·rw [qT s h1 h2] at hb;cases hb
 ·refine ⟨(C3.frz b hb).1,?_⟩
  rcases hΦb b hb with h3 | ⟨t,h3⟩ | h3
  ·exact (C.frz b h3).2
  ·exact .inr (C.own t b h3).2.2
  ·exact .inr (.inr (Nat.le_trans C.size h3))
 ·by_cases h1:s∈R
  ·rw [qS s h1] at hb;exact .inl ⟨s,h1,hb⟩
  ·by_cases h2:Tk s
   ·rw [gD s h1 h2] at hb;exact .inr ⟨s,hb⟩
   ·rw [qT s h1 h2] at hb;cases hb
 ·rcases fate d with ⟨h1,h2⟩ | ⟨h1,h2,h3⟩ | ⟨h1,h2,h3,_⟩ | ⟨h1,h2,h3⟩
  ·rw [← h2];exact hp
  ·rw [h3,hE3 d hd] at hp
   have:=h2.2.2.2.2
   rw [hp] at this;cases this
  ·rw [← h3];exact hp
  ·rw [h3] at hp;cases hp
end
section
variable {P:Program} {H:zBk} {orc:zAL} {yo:zCE} {al:All} {w0 w:World} {U Φ0 Φ:Nat→Prop} {nt:Nat} {hv:Hid} {aM:Act} {e ef e3:Env} {rv:Nat→Value} {E:Nat→PV} {L:Nat→List Nat} {hh:FHint} {m:Nat}
def zJA (P:Program) (H:zBk) (orc:zAL) (yo:zCE) (al:All) (nt:Nat) (hh:FHint) (m:Nat) (c:Code) (e:Env):Option (X×Env) :=
 match exec P H orc yo al nt hh m c e none with
 | some (x,e',none)=>some (x,e')
 | _=>none
theorem zKf {c:Code} {e e':Env} {x:X} (h:zJA P H orc yo al nt hh m c e=some (x,e')):exec P H orc yo al nt hh m c e none=some (x,e',none):=by
 simp only [zJA] at h
 split at h
 ·rename_i hx;cases h;exact hx
 ·cases h
theorem zJX:∀ (R:List Nat) {e ef:Env},zE6 R e=some ef→∀ r∈R,r<zAd
 | [],_,_,_,r,hr=>by cases hr
 | t :: R,e,ef,h,r,hr=>by
  simp only [zE6] at h
  rcases zBh h with ⟨h1,h⟩ | ⟨_,h⟩
  ·split at h
   ·rcases List.mem_cons.1 hr with rfl | hr
    ·exact zB2 h1
    ·exact zJX R h r hr
   ·cases h
  ·cases h
theorem zNW (zEV:P.follows .mixedOrders=true) (yx:zF3 P orc) (hnm:zEB P) {ps:Array Tmp} {ca cb:Code} {ds:List Nat} {x:List PV} {r:X} (y6:∀ t∈ps.toList,t<nt) (gb:zCz P nt ca=true) (gE:zCz P nt cb=true) (gc:zCT ca=true) (gd:zCT cb=true)
  (gg:∀ t∈ps.toList,t∈ds) (vP:∀ d∈zBO ca,d∈ds) (gh:∀ d∈zBO cb,d∈ds) (hx:x.all PV.flat=true) (S:St w0 U Φ0 nt hv aM w e Φ rv E L) (hb:zBy E)
  {l:Nat} {rc:Go.Loop} (uD:rc.params=ps) (js:rc.assign=ca) (hrb:rc.body=cb) (wK:rc.tmps=aM.tmps) (jg:rc.state = .ready) (hl:w.heap[l]? = some (.loop rc)) (hlL:∀ s,l∉L s) (hlΦ:¬ Φ l) (vb:w0.heap.size≤l)
  {R:List Nat} (hR:(R=[]∧ef=e)∨(zFV e R=true∧zE6 R e=some ef)) (yN:zIu (zJA P H orc yo al nt hh m) ps.toList ca cb x ef=some (r,e3)) :
  YieldAt (FF none) 0 P l (x.map zCB).toArray w fun en w4=>en = .returned (.bool r.isNorm)∧w.heap.size≤w4.heap.size∧(w4.os=w.os∧w4.tape=w.tape∧w4.output=w.output) ∧
   w4.heap[l]? = some (.loop {rc with state:=bif r.isNorm then .ready else .done,pending:=bif r.isNorm then none else some (zH8 r)})∧(∀ b,b<w.heap.size→b≠l→(∀ s,s∉R→b∉L s)→w4.heap[b]? = w.heap[b]?) ∧
   ∃ Φ4 E4 L4,St w0 U Φ0 nt hv aM w4 (after nt R ds e e3) Φ4 rv E4 L4∧zBy E4∧(∀ b,Φ b→Φ4 b)∧(∀ b,Φ4 b→Φ b∨(∃ s,b∈L s)∨w.heap.size≤b)∧(∀ r∈R,L4 r=L r)∧∀ s,∀ b∈L4 s,(∃ t,b∈L t)∨w.heap.size≤b:=by
 subst js;subst hrb
 have wF:zAd=1000000000:=rfl
 have kN:=S.small
 have hlw:l<w.heap.size:=(Array.getElem?_eq_some_iff.1 hl).1
 obtain ⟨Φr,Er,Lr,Sr,vw,f1,f2,f3,f4⟩:∃ Φr Er Lr,St w (fun b=>∃ s,b∈L s) Φ nt hv aM w ef Φr rv Er Lr∧zBy Er∧(∀ b,Φ b→Φr b)∧(∀ b,Φr b→Φ b∨∃ r∈R,b∈L r)∧(∀ r∈R,∀ b∈L r,Φr b)∧∀ s,∀ b∈Lr s,b∈L s:=by
  rcases hR with ⟨rfl,rfl⟩ | ⟨_,hf⟩
  ·exact ⟨Φ,E,L,S.with S.conf.fresh,hb,fun _ h=>h,fun _ h => .inl h,fun _ h=>(by cases h),fun _ _ h=>h⟩
  ·exact zLT R (S.with S.conf.fresh) hb hf
 have yL:∀ r∈R,∀ x∈(E r).ways,x.1∈R:=by
  rcases hR with ⟨rfl,_⟩ | ⟨hc,hf⟩
  ·intro r hr;cases hr
  ·intro r hr x hx
   have:=List.all_eq_true.1 hc r hr
   rw [S.env r (zJX R hf r hr)] at hx
   exact List.contains_iff_mem.1 (List.all_eq_true.1 this x hx)
 have wL:∀ s,l∉Lr s:=fun s hs=>hlL s (f4 s l hs)
 have hlΦr:¬ Φr l:=fun h=>(f2 l h).elim hlΦ fun ⟨t,_,ht⟩=>hlL t ht
 simp only [zIu] at yN
 cases jo:zCq ps.toList x ef with
 | none=>rw [jo] at yN;cases yN
 | some e1 =>
  rw [jo] at yN;simp only at yN
  split at yN
  ·rename_i e2 hra1
   have jV:=zKf hra1
   have jG:=zKf yN
   have S0:St w (fun b=>∃ s,b∈Lr s) Φr nt ⟨hv.val,[]⟩ {tmps:=aM.tmps,defers:=[]} w ef Φr rv Er Lr :=
    ⟨Sr.conf.fresh,Sr.env,Sr.size,Sr.small,Sr.tmps,Sr.parts,Sr.hid,rfl⟩
   obtain ⟨g1,g2,g3⟩:=zHW ps.toList x ⟨_,_,_,_,S0,vw⟩ y6 hx jo
   have kI:=run_yield (P:=P) (args:=(x.map zCB).toArray) hl (by rw [uD];simpa using g1.symm)
   have hfold:(rc.params.zip (x.map zCB).toArray).foldl (fun tmps (t,a)=>tmps.setIfInBounds t a) rc.tmps=(ps.toList.zip (x.map zCB)).foldl (fun t (p,v)=>t.setIfInBounds p v) aM.tmps:=by
    rw [uD,wK,← Array.foldl_toList]
    simp
   refine ⟨_,_,_,_,kI,roundIn_of_wpIn trivial ?_⟩
   rw [hfold]
   refine wpIn_mono (zHn (zSI (l:=l) (tm:=aM.tmps) yx hnm) zEV m rc.assign (.inl gc) gb vP rfl ⟨rfl,g2,fun t ht=>g3 t (fun h=>ht (gg t h))⟩ jV) fun ex a1 w1 ⟨gC,_,hf1,ht1⟩=>?_
   subst gC
   obtain ⟨Φa,rva,Ea,La,Sa,gi⟩:=hf1
   have qd:w1.heap[l]? = some (.loop rc):=(Sa.conf.kept l hlw (fun ⟨s,hs⟩=>wL s hs)).trans hl
   have gj:∀ s,l∉La s:=fun s hs=>by rcases (Sa.conf.own s l hs).2.2 with ⟨t,ht⟩ | h2<;>first | exact wL t ht | omega
   have hlΦa:¬ Φa l:=fun h=>by rcases (Sa.conf.frz l h).2 with h2 | ⟨t,ht⟩ | h2<;>first | exact hlΦr h2 | exact wL t ht | omega
   refine ⟨_,run_beginRound qd jg,?_⟩
   obtain ⟨w2,vH⟩:∃ w2,w1.putObj l (.loop {rc with state := .busy})=w2:=⟨_,rfl⟩
   rw [vH]
   have hlw1:l<w1.heap.size:=(Array.getElem?_eq_some_iff.1 qd).1
   have qU:∀ b,b≠l→w2.heap[b]? = w1.heap[b]?:=fun b hb=>by rw [← vH];exact World.putObj_heap_other hb
   have h2l:w2.heap[l]? = some (.loop {rc with state := .busy}):=by rw [← vH];exact World.putObj_heap_same hlw1
   have h2s:w1.heap.size≤w2.heap.size:=by rw [← vH];simp
   have vn:w2.os=w1.os∧w2.tape=w1.tape∧w2.output=w1.output:=by rw [← vH];exact ⟨rfl,rfl,rfl⟩
   have C2:=Sa.conf.arrive h2s (fun s b hb=>qU b fun e=>gj s (e▸hb)) (fun b hb=>qU b fun e=>hlΦa (e▸hb))
   refine wpIn_mono (zHn (zSI (l:=l) (tm:=aM.tmps) yx hnm) zEV m rc.body (.inl gd) gE gh rfl ⟨rfl,⟨_,_,_,_,Sa.with C2,gi⟩,ht1⟩ jG) fun ex a3 w3 ⟨gC,_,hf3,ht3⟩=>?_
   obtain ⟨Φ3,rv3,E3,L3,S3,qM⟩:=hf3
   have hlw2:l<w2.heap.size:=by omega
   have hl3:w3.heap[l]? = some (.loop {rc with state := .busy}):=(S3.conf.kept l hlw2 (fun ⟨s,hs⟩=>gj s hs)).trans h2l
   have hl3L:∀ s,l∉L3 s:=fun s hs=>by rcases (S3.conf.own s l hs).2.2 with ⟨t,ht⟩ | h2<;>first | exact gj t ht | omega
   have hl3Φ:¬ Φ3 l:=fun h=>by rcases (S3.conf.frz l h).2 with h2 | ⟨t,ht⟩ | h2<;>first | exact hlΦa h2 | exact gj t ht | omega
   have hlw3:l<w3.heap.size:=(Array.getElem?_eq_some_iff.1 hl3).1
   have hws:w.heap.size≤w1.heap.size:=Sa.conf.size
   have hws3:w2.heap.size≤w3.heap.size:=S3.conf.size
   have hLa:∀ s,∀ b∈La s,(∃ t,b∈L t)∨w.heap.size≤b:=fun s b hb=>(Sa.conf.own s b hb).2.2.imp (fun ⟨t,ht⟩=>⟨t,f4 t b ht⟩) id
   have hL3:∀ s,∀ b∈L3 s,(∃ t,b∈L t)∨w.heap.size≤b:=fun s b hb=>by
    rcases (S3.conf.own s b hb).2.2 with ⟨t,ht⟩ | h2
    ·exact hLa t b ht
    ·exact .inr (by omega)
   have hΦ3:∀ b,Φr b→Φ3 b:=fun b hb=>S3.conf.frz0 b (Sa.conf.frz0 b hb)
   have hΦb:∀ b,Φ3 b→Φ b∨(∃ s,b∈L s)∨w.heap.size≤b:=fun b hb=>by
    rcases (S3.conf.frz b hb).2 with h2 | ⟨t,ht⟩ | h2
    ·rcases (Sa.conf.frz b h2).2 with h4 | ⟨t,ht⟩ | h4
     ·rcases f2 b h4 with h5 | ⟨t,_,ht⟩
      ·exact .inl h5
      ·exact .inr (.inl ⟨t,ht⟩)
     ·exact .inr (.inl ⟨t,f4 t b ht⟩)
     ·exact .inr (.inr h4)
    ·exact .inr (hLa t b ht)
    ·exact .inr (.inr (by omega))
   have hkept:∀ b,b<w.heap.size→b≠l→(∀ s,b∉Lr s)→w3.heap[b]? = w.heap[b]?:=by
    intro b qy vI jC
    have e1:=Sa.conf.kept b qy (fun ⟨s,hs⟩=>jC s hs)
    have e3:=S3.conf.kept b (by omega) (fun ⟨s,hs⟩=>by
     rcases (Sa.conf.own s b hs).2.2 with ⟨t,ht⟩ | h2
     ·exact jC t ht
     ·omega)
    rw [e3,qU b vI,e1]
   have hRr:∀ t∈R,∀ b∈L t,∀ s,b∉Lr s:=fun t ht b kK s hs=>(Sr.conf.own s b hs).2.1 (f3 t ht b kK)
   have fin:∀ (w4:World),(∀ b,b≠l→w4.heap[b]? = w3.heap[b]?)→w4.heap.size=w3.heap.size→(w4.os=w3.os∧w4.tape=w3.tape∧w4.output=w3.output)→w4.heap[l]? = some (.loop {rc with state:=bif r.isNorm then .ready else .done,pending:=bif r.isNorm then none else some (zH8 r)}) →
     w.heap.size≤w4.heap.size∧(w4.os=w.os∧w4.tape=w.tape∧w4.output=w.output) ∧
     w4.heap[l]? = some (.loop {rc with state:=bif r.isNorm then .ready else .done,pending:=bif r.isNorm then none else some (zH8 r)})∧(∀ b,b<w.heap.size→b≠l→(∀ s,s∉R→b∉L s)→w4.heap[b]? = w.heap[b]?) ∧
     ∃ Φ4 E4 L4,St w0 U Φ0 nt hv aM w4 (after nt R ds e e3) Φ4 rv E4 L4∧zBy E4∧(∀ b,Φ b→Φ4 b)∧(∀ b,Φ4 b→Φ b∨(∃ s,b∈L s)∨w.heap.size≤b)∧(∀ r∈R,L4 r=L r)∧∀ s,∀ b∈L4 s,(∃ t,b∈L t)∨w.heap.size≤b:=by
    intro w4 qV h4s vo h4l
    have kn:w4.os=w.os∧w4.tape=w.tape∧w4.output=w.output:=⟨vo.1.trans (S3.conf.os.trans (vn.1.trans Sa.conf.os)),vo.2.1.trans (S3.conf.tape.trans (vn.2.1.trans Sa.conf.tape)),vo.2.2.trans (S3.conf.output.trans (vn.2.2.trans Sa.conf.output))⟩
    have C4:=S3.conf.arrive (w':=w4) (by omega) (fun s b hb=>qV b fun e=>hl3L s (e▸hb)) (fun b hb=>qV b fun e=>hl3Φ (e▸hb))
    have hk4:∀ b,b<w.heap.size→b≠l→(∀ s,b∉Lr s)→w4.heap[b]? = w.heap[b]?:=fun b h1 h2 h3=>(qV b h2).trans (hkept b h1 h2 h3)
    obtain ⟨E',L',q1,q2,q3,q4,q5,q6⟩:=S.conf.behind (nt:=nt) (R:=R) (ds:=ds) (e3:=e3) S.env hb C4 S3.env yL (fun s hs=>by
      rcases hs with ⟨h1,h2⟩ | ⟨h1,h2⟩
      ·rw [← S3.tmps s h1,ht3 s h2,S.tmps s h1]
      ·exact (S3.hid s h1 h2).trans (S.hid s h1 h2).symm) (by omega) (fun b qy hc=>hk4 b qy (fun e=>by
       subst e
       rcases hc with h1 | ⟨t,_,h1⟩ | ⟨h1,_⟩
       ·exact hlΦ h1
       ·exact hlL t h1
       ·omega) (fun s hs=>by
       rcases hc with h1 | ⟨t,ht,h1⟩ | ⟨h1,h2⟩
       ·exact (S.conf.own s b (f4 s b hs)).2.1 h1
       ·exact hRr t ht b h1 s hs
       ·rcases (S.conf.own s b (f4 s b hs)).2.2 with h3 | h3
        ·exact h2 h3
        ·omega)) (fun b hb=>hΦ3 b (f1 b hb)) hΦb (fun t ht b kK=>hΦ3 b (f3 t ht b kK)) hL3 kn
    refine ⟨by omega,kn,h4l,fun b h1 h2 h3=>hk4 b h1 h2 fun s hs=>?_,_,E',L',⟨q3,fun s hs=>by rw [q1 s hs,zQ4],S.size,S.small,S.tmps,fun d ps i hd hp hi=>?_,S.hid,S.dfr⟩,q2,fun b hb=>⟨hΦ3 b (f1 b hb),fun t _ ht=>(S.conf.own t b ht).2.1 hb⟩,fun b hb=>hΦb b hb.1,q4,fun s b hb=>?_⟩
    ·by_cases yv:s∈R
     ·exact hRr s yv b (f4 s b hs) s hs
     ·exact h3 s yv (f4 s b hs)
    ·exact S.parts d ps i hd (q6 d ps (by omega) hp) hi
    ·rcases q5 s b hb with ⟨t,_,ht⟩ | ⟨t,ht⟩
     ·exact .inl ⟨t,ht⟩
     ·exact hL3 t b ht
   have put_o:∀ o:Obj,(∀ b,b≠l→(w3.putObj l o).heap[b]? = w3.heap[b]?)∧(w3.putObj l o).heap.size=w3.heap.size∧((w3.putObj l o).os=w3.os∧(w3.putObj l o).tape=w3.tape∧(w3.putObj l o).output=w3.output)∧(w3.putObj l o).heap[l]? = some o :=
    fun o=>⟨fun b hb=>World.putObj_heap_other hb,by simp,⟨rfl,rfl,rfl⟩,World.putObj_heap_same hlw3⟩
   subst gC
   cases r with
   | norm =>
    have he:(Instr.endRound l none).run P w3 = .ok (.bool true) (w3.putObj l (.loop {rc with state := .ready,pending:=none})):=by rw [run_endRound none hl3];rfl
    refine ⟨_,_,he,?_⟩
    obtain ⟨p1,p2,p3,p4⟩:=put_o (.loop {rc with state := .ready,pending:=none})
    exact ⟨rfl,fin _ p1 p2 p3 p4⟩
   | ret =>
    have he:(Instr.endRound l (some .ret)).run P w3 = .ok (.bool false) (w3.putObj l (.loop {rc with state := .done,pending:=some .ret})):=by rw [run_endRound (some .ret) hl3];rfl
    refine ⟨_,_,he,?_⟩
    obtain ⟨p1,p2,p3,p4⟩:=put_o (.loop {rc with state := .done,pending:=some .ret})
    exact ⟨rfl,fin _ p1 p2 p3 p4⟩
   | ex id =>
    have he:(Instr.endRound l (some (.exit id))).run P w3 = .ok (.bool false) (w3.putObj l (.loop {rc with state := .done,pending:=some (.exit id)})):=by rw [run_endRound (some (.exit id)) hl3];rfl
    refine ⟨_,_,he,?_⟩
    obtain ⟨p1,p2,p3,p4⟩:=put_o (.loop {rc with state := .done,pending:=some (.exit id)})
    exact ⟨rfl,fin _ p1 p2 p3 p4⟩
  ·cases yN
end
end Go.Eng
