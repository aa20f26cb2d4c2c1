/- For whatever news, cries and evenings, the law NewsLeft returns true and changes no argument: gaps, misled yz, when all is zD8 and when all is clear are as the reference tells them. -/
import Derived.Test.YtppbomajegnkeaaGreatPh
import Derived.Test.YtppbomajegnkeaaGreatPd
import Derived.Test.YtppbomajegnkeaaGreatPg
import Derived.Test.YtppbomajegnkeaaGreatPe
set_option linter.unusedVariables false
set_option linter.unusedSimpArgs false
set_option linter.unusedSectionVars false
set_option maxRecDepth 10000
set_option maxHeartbeats 4000000
namespace Go.Eng
open Go Go.Proofs
instance (n:Nw) (i j:Nat):Decidable (chn n i j):=inferInstanceAs (Decidable ((zAk n).getD i 0=(zAk n).getD j 0))
def zJW (n:Nw) (K:List (List Bool)) (h i:Nat):Bool:=kn K h i && !((List.range n.n.length).any fun k=>decide (i<k)&&(decide (chn n k i)&&kn K h k))
theorem zMa {n:Nw} {K:List (List Bool)} {w:List Int} {h i:Nat} (ho:NwOk n) (hr:RelK n K w) (hh:h<n.h.toNat) (hi:i<n.n.length):zJW n K h i=hld n w h i:=by
 unfold zJW
 cases h1:kn K h i
 ·rw [zTS ho hr hh hi (.inl h1)];rfl
 ·cases h2:(List.range n.n.length).any fun k=>decide (i<k)&&(decide (chn n k i)&&kn K h k)
  ·rw [zWH ho hr hh hi h1 fun k hk hc wJ=>?_]
   ·rfl
   ·have h3:=(List.any_eq_false.1 h2) k (List.mem_range.2 hk)
    simpa [wJ,hc] using h3
  ·obtain ⟨k,hk,h3⟩:=List.any_eq_true.1 h2
   simp only [Bool.and_eq_true,decide_eq_true_eq] at h3
   rw [zTS ho hr hh hi (.inr ⟨k,List.mem_range.1 hk,h3.2.1,h3.1,h3.2.2⟩)];rfl
theorem f113 (n:Nw) (K:List (List Bool)) (h i:Nat) (ho:NwOk n) (hr:∃ w,RelK n K w) (hh:h<n.h.toNat) (hi:i<n.n.length):FG 113 [nwV n,knV K,I h,I i] (.bool (zJW n K h i)):=by
 obtain ⟨w,hr⟩:=hr
 rw [zMa ho hr hh hi]
 exact zYC n K w h i ho hr hh hi
def nxP (n:Nw) (K:List (List Bool)) (w:List Int) (h o j:Nat):Bool:=kn K h j||(zGN n h o).any fun o=>hld n w o j
theorem zTz {n:Nw} {K:List (List Bool)} {w:List Int} {h o j:Nat}:nxP n K w h (o+1) j=(nxP n K w h o j||zGi n h o&&hld n w o j):=by
 unfold nxP;rw [zJV]
 cases zGi n h o<;>simp [Bool.or_assoc]
theorem zYJ {P H:Nat→Bool} {a:Bool} {q:List Bool} {m i:Nat} (hq:∀ j,j<m→q.getD j false=(P j||(a&&(decide (j<i)&&H j)))) (hi:i<m):q.getD i false=P i:=by
 rw [hq i hi,decide_eq_false (Nat.lt_irrefl i)];cases a<;>simp
theorem zUP {P H:Nat→Bool} {a:Bool} {q:List Bool} {m i:Nat} {x:Bool} (hq:∀ j,j<m→q.getD j false=(P j||(a&&(decide (j<i)&&H j)))) (hl:q.length=m) (hi:i<m) (ha:a=true) (hx:x=(P i||H i)) (j:Nat) (hj:j<m):(q.set i x).getD j false=(P j||(a&&(decide (j<i+1)&&H j))):=by
 subst ha
 by_cases e:i=j
 ·subst e
  rw [zAr (by rw [List.length_set];omega),List.getElem_set_self,hx,decide_eq_true (Nat.lt_succ_self i),Bool.true_and,Bool.true_and]
 ·rw [zAr (by rw [List.length_set];omega),List.getElem_set_ne e,← zAr (d:=false) (by omega),hq j hj]
  by_cases h:j<i
  ·rw [decide_eq_true h,decide_eq_true (by omega:j<i+1)]
  ·rw [decide_eq_false h,decide_eq_false (by omega:¬ j<i+1)]
theorem zUQ {n:Nw} {K:List (List Bool)} {w:List Int} {h o i m:Nat} {q:List Bool} (hq:∀ j,j<m→q.getD j false=(nxP n K w h o j||(zGi n h o&&(decide (j<i)&&hld n w o j)))) (hx:zGi n h o=false∨m≤i) (j:Nat) (hj:j<m):q.getD j false=nxP n K w h (o+1) j:=by
 rw [hq j hj,zTz]
 rcases hx with hx | hx
 ·rw [hx];rfl
 ·rw [decide_eq_true (by omega:j<i),Bool.true_and]
theorem zXi {n:Nw} {K:List (List Bool)} {w:List Int} {h:Nat} {r:List Bool} (hl:r.length=n.n.length) (hr:∀ j,j<n.n.length→r.getD j false=nxP n K w h n.h.toNat j):r=zGr n K w h:=by
 refine List.ext_getElem (by simp [zGr,hl]) fun j h1 h2=>?_
 have:=hr j (by omega)
 rw [zAr h1] at this
 rw [this]
 simp [zGr,nxB,nxP]
theorem zX3 (n:Nw) (K:List (List Bool)) (w:List Int) (ho:NwOk n) (hr:RelK n K w):FG 115 [nwV n,knV K] (.own 1 ((zMX n K w).map lsB)):=by
 have hb:=ho.h
 have uH:=ho.nl
 have qn:=ho.ll
 have uO:=hr.len
 have hrw:∃ w,RelK n K w:=⟨w,hr⟩
 refine zAf Tryz.f115 ?_
 refine zAb (zAa (zAd 2 (zAc (zAb (zAa (zAd 1 (zAc (zAb (zAb (zAa (zAd 1 (zAc (zAh 0 ?_)))))))))))))
 refine zAo (fun (h,L)=>h≤n.h.toNat∧L=(List.range h).map fun h=>zGr n K w h) (fun (h,L)=>[(5,.own 1 (L.map lsB)),(6,I (h:Nat))]) (fun (h,_)=>n.h.toNat-h) ((0:Nat),([]:List (List Bool))) ⟨by omega,rfl⟩ fun (h,L) ⟨hh,hL⟩=>?_
 have hLl:L.length=h:=by rw [hL];simp
 by_cases qC:(h:Int)<n.h
 ·have yB:(K.getD h []).length=n.n.length:=zBC (d:=[]) hr.row h (by omega)
  refine zAb (zAb (zAa (zAd 4 (zAc (zAL ((↑h:Int)<n.h) (by omega) (zAi (zAb (zAh 1 (zAb (zAa (zAd 3 (S_a [(2,.v (PV.sl (List.map PV.bool (K.getD h []))))] (ap (zBA ([]) (by omega):(List.map bls K)[h]? = some (PV.sl (List.map PV.bool (K.getD h [])))) an) (zAd 1 (S_a [(0,.ob),(0,.ob),(0,.ob),(3,.ob)] (ap ((by exact all_map _):((List.map PV.bool (K.getD h [])).all fun x=>x.plain)=true) (ap ((by exact all_map _):((List.map PV.bool (K.getD h [])).all fun y=>y.cells.length.beq ((fun x=>x.size) Tryz.prog.types[4])&&y.cells.all fun q=>q.oneCell)=true) (ap ((by exact List.isEmpty_iff.2 (zMg _)):(zBp (List.map PV.bool (K.getD h []))).isEmpty=true) (ap ((by exact zBs (by simp only [List.length_map,zzLn,zA1]<;>omega)):(0+(List.map PV.bool (K.getD h [])).length).ble zA1=true) an)))) (zAd 1 (zAc (zAb (zAb (zAa (zAd 1 (zAc (zAh 2 ?_))))))))))))))))))))))
  refine zAo (fun (o,r)=>o≤n.h.toNat∧r.length=n.n.length∧∀ j,j<n.n.length→r.getD j false=nxP n K w h o j) (fun (o,r)=>[(7,.own 1 (r.map PV.bool)),(8,I (o:Nat))]) (fun (o,_)=>n.h.toNat-o) ((0:Nat),K.getD h []) ⟨by omega,yB,fun j _=>by simp [nxP,zGN,kn]⟩ fun (o,r) ⟨hoo,wG,jI⟩=>?_
  by_cases hol:(o:Int)<n.h
  ·refine zAb (zAb (zAa (zAd 4 (zAc (zAL ((↑o:Int)<n.h) (by omega) (zAi (zAb (zAh 3 (zAb (zAa (zAd 1 (zAc (zAh 4 ?_)))))))))))))
   refine zAo (fun (i,q)=>i≤n.n.length∧q.length=n.n.length∧∀ j,j<n.n.length→q.getD j false=(nxP n K w h o j||(zGi n h o&&(decide (j<i)&&hld n w o j)))) (fun (i,q)=>[(7,.own 1 (q.map PV.bool)),(9,I (i:Nat))]) (fun (i,_)=>n.n.length-i) ((0:Nat),r) ⟨by omega,wG,fun j hj=>by rw [jI j hj,decide_eq_false (Nat.not_lt_zero j),Bool.false_and,Bool.and_false,Bool.or_false]⟩ fun (i,q) ⟨hi,uQ,hqv⟩=>?_
   clear jI
   by_cases yC:(i:Int)<n.n.length
   ·have jl:=zYJ hqv (by omega)
    clear hL
    refine zAb (zAb (zAa (zAd 2 (S_a [(0,.n (q.length))] (ap (lnS PV.bool q) an) (zAd 2 (zJ3 32 ((↑i:Int)<(↑q.length:Int)) (by omega) (zAd 3 (S_a [(10,.ret (PV.bool (zGi n (↑h:Int) (↑o:Int))) ([]))] (ap (f114 (n) ((↑h:Int)) ((↑o:Int)) (by first | omega | (simp<;>omega))) an) (zAd 1 (zAc (zD4 (zGi n (↑h:Int) (↑o:Int)) (fun k0=>(zAi (zAb (zAh 5 (zAa (zAd 4 (S_a [(2,.ob),(1,.n (i))] (ap ((by exact zAp (by simp only [List.length_map,zzLn]<;>omega)):decide (i<(List.map PV.bool q).length)=true) (ap ((by simp):some (0+i)=some i) an)) (S_a [(0,.cs false ([PV.bool (q.getD i false)]))] (ap (zDk (q:=PV.own 1 (List.map PV.bool q)) (xs:=List.map PV.bool q) (x:=PV.bool (q.getD i false)) rfl (zBA (false) (by omega)):zAt 7 (PV.own 1 (List.map PV.bool q)) [] i 0 1=some (false,[PV.bool (q.getD i false)])) an) (zAd 1 (zDV 46 (q.getD i false) (fun k1=>(zAd 6 (S_a [(2,.ob),(1,.n (i))] (ap ((by exact zAp (by simp only [List.length_map,zzLn]<;>omega)):decide (i<(List.map PV.bool q).length)=true) (ap ((by simp):some (0+i)=some i) an)) (S_a [(8,.root (PV.own 1 (List.map PV.bool (q.set i true))) true)] (ap (zQm (zBA (false) (by omega)) zGf:zBx (PV.own 1 (List.map PV.bool q)) [] i 0 (PV.bool true).cells=some (PV.own 1 (List.map PV.bool (q.set i true)))∧zAD (PV.own 1 (List.map PV.bool q)) (PV.own 1 (List.map PV.bool (q.set i true))) []=true) an) (zAc (zAa (zAd 1 (S_a [(1,.v (I (↑(i+1):Int)))] (ap (wrN i) an) (zAd 1 (zAc ?_)))))))))) (fun k1=>(zAd 4 (S_a [(12,.ret (PV.bool (zJW n K o i)) ([]))] (ap (f113 (n) (K) (o) (i) (by omega) (by omega) (by first | omega | (simp<;>omega)) (by first | omega | (simp<;>omega))) an) (zAd 1 (S_a [(2,.ob),(1,.n (i))] (ap ((by exact zAp (by simp only [List.length_map,zzLn]<;>omega)):decide (i<(List.map PV.bool q).length)=true) (ap ((by simp):some (0+i)=some i) an)) (S_a [(8,.root (PV.own 1 (List.map PV.bool (q.set i (zJW n K o i)))) true)] (ap (zQm (zBA (false) (by omega)) zGf:zBx (PV.own 1 (List.map PV.bool q)) [] i 0 (PV.bool (zJW n K o i)).cells=some (PV.own 1 (List.map PV.bool (q.set i (zJW n K o i))))∧zAD (PV.own 1 (List.map PV.bool q)) (PV.own 1 (List.map PV.bool (q.set i (zJW n K o i)))) []=true) an) (zAc (zAa (zAd 1 (S_a [(1,.v (I (↑(i+1):Int)))] (ap (wrN i) an) (zAd 1 (zAc ?_)))))))))))))))))))))) (fun k0=>(zAv 4 (zAa (zAd 1 (S_a [(1,.v (I (↑(o+1):Int)))] (ap (wrN o) an) (zAd 1 (zAc ?_))))))))))))))))))
    ·exact ⟨(i+1,q.set i true),⟨by omega,by rw [List.length_set];exact uQ,zUP hqv uQ (by omega) (by assumption) (by rw [← jl,k1];rfl)⟩,by simp only;omega,by kernel_rfl,by kernel_rfl⟩
    ·exact ⟨(i+1,q.set i (zJW n K o i)),⟨by omega,by rw [List.length_set];exact uQ,zUP hqv uQ (by omega) (by assumption) (by rw [← jl,k1,zMa ho hr (by omega) (by omega)];rfl)⟩,by simp only;omega,by kernel_rfl,by kernel_rfl⟩
    ·exact ⟨(o+1,q),⟨by omega,uQ,zUQ hqv (.inl (by assumption))⟩,by simp only;omega,by kernel_rfl,by kernel_rfl⟩
   ·clear hL
    refine zAb (zAb (zAa (zAd 2 (S_a [(0,.n (q.length))] (ap (lnS PV.bool q) an) (zAd 2 (zUx 32 ((↑i:Int)<(↑q.length:Int)) (by omega) (zAd 5 (zAc (zAU (zAv 4 (zAa (zAd 1 (S_a [(1,.v (I (↑(o+1):Int)))] (ap (wrN o) an) (zAd 1 (zAc ?_)))))))))))))))
    exact ⟨(o+1,q),⟨by omega,uQ,zUQ hqv (.inr (by omega))⟩,by simp only;omega,by kernel_rfl,by kernel_rfl⟩
  ·have ho2:o=n.h.toNat:=by omega
   subst ho2
   have hrr:=zXi wG jI
   have yR:L++[r]=(List.range (h+1)).map fun h=>zGr n K w h:=by
    rw [hL,hrr,List.range_succ,List.map_append,List.map_cons,List.map_nil]
   clear hL hrr jI
   refine zAb (zAb (zAa (zAd 4 (zAc (zAO ((↑n.h.toNat:Int)<n.h) (by omega) (zAv 2 (zAa (zAd 2 (S_a [(2,.yes)] (ap ((by exact zBr (by simp<;>omega)):(Nat.beq 0 0&&(List.map PV.bool r).length.beq (List.map PV.bool r).length)=true) an) (S_a [(4,.ob),(0,.ob),(0,.yes),(2,.v (PV.own 1 (List.map lsB (L++[r]))))] (ap (blz (List.map lsB L)) (ap ((by exact zBs (by simp only [List.length_map,zzLn,zA1]<;>omega)):((List.map lsB L).length + [PV.own 1 (List.map PV.bool r)].length).ble zA1=true) (ap ((by exact zBr (by simp<;>omega)):(0+(List.map lsB L).length).beq (List.map lsB L).length=true) (ap ((zAR (zCv (by kernel_rfl))):PV.own 1 (List.map lsB L++[PV.own 1 (List.map PV.bool r)])=PV.own 1 (List.map lsB (L++[r]))) an)))) (zAd 1 (zAc (zAa (zAd 1 (S_a [(1,.v (I (↑(h+1):Int)))] (ap (wrN h) an) (zAd 1 (zAc ?_)))))))))))))))))
   exact ⟨(h+1,L++[r]),⟨by omega,yR⟩,by simp only;omega,by kernel_rfl,by kernel_rfl⟩
 ·have e:h=n.h.toNat:=by omega
  subst e
  have hLe:L=zMX n K w:=hL
  clear hL
  refine zAb (zAb (zAa (zAd 4 (zAc (zAO ((↑n.h.toNat:Int)<n.h) (by omega) (zAv 0 (zAb (zAa (zAd 1 (S_a [(2,.yes)] (ap ((by exact zBr (by simp<;>omega)):(Nat.beq 0 0&&(List.map lsB L).length.beq (List.map lsB L).length)=true) an) (zAc (zAl (E_a [(1,.yes),(1,.v (PV.own 1 (List.map lsB L)))] (ap (blz (List.map lsB L)) (ap ((zAR zAK):PV.own 1 (List.take (List.map lsB L).length (List.drop 0 (List.map lsB L)))=PV.own 1 (List.map lsB L)) an)) (PV.own 1 (List.map lsB L)) ([]) ?_ rfl)))))))))))))
  rw [hLe]
end Go.Eng
set_option maxRecDepth 10000
set_option maxHeartbeats 4000000
namespace Go.Eng
open Go Go.Proofs
def zLe (n:Nw) (K:List (List Bool)):List (List Bool):=(List.range n.h.toNat).map fun h=>(List.range n.n.length).map fun i=>kn K h i||(zGN n h n.h.toNat).any fun o=>zJW n K o i
theorem zO3 {n:Nw} {K:List (List Bool)} {w:List Int} (ho:NwOk n) (hr:RelK n K w):zLe n K=zMX n K w:=by
 unfold zLe zMX zGr nxB
 refine List.map_congr_left fun h _=>List.map_congr_left fun i hi=>?_
 congr 1
 rw [Bool.eq_iff_iff,List.any_eq_true,List.any_eq_true]
 refine exists_congr fun o=>and_congr_right fun hm=>?_
 rw [zMa ho hr (List.mem_range.1 (List.mem_filter.1 hm).1) (List.mem_range.1 hi)]
theorem f115 (n:Nw) (K:List (List Bool)) (ho:NwOk n) (hr:∃ w,RelK n K w):FG 115 [nwV n,knV K] (.own 1 ((zLe n K).map lsB)):=by
 obtain ⟨w,hr⟩:=hr
 rw [zO3 ho hr]
 exact zX3 n K w ho hr
def zCL (n:Nw) (cs:List (Int×Int)):Nat→List (List Bool)
 | 0=>zP9 n cs n.h.toNat
 | k+1=>zLe n (zCL n cs k)
theorem zEv {n:Nw} {cs:List (Int×Int)} (ho:CrW n cs):∀ k,RelK n (zCL n cs k) (zAV n cs k)
 | 0=>zVD ho
 | k+1=>by
  have ih:=zEv ho k
  show RelK n (zLe n (zCL n cs k)) (zCo n (zAV n cs k))
  rw [zO3 ho.nw ih]
  exact zUe ho.nw ih
end Go.Eng
set_option maxRecDepth 10000
set_option maxHeartbeats 4000000
namespace Go.Eng
open Go Go.Proofs
theorem zHO {α:Type} {g:α→PV} (h:∀ x,(g x).free=true):∀ l:List α,zEC (l.map g)=true
 | []=>by simp [zEC]
 | a::l=>by simp [zEC,h a,zHO h l]
theorem zPY (K:List (List Bool)):(PV.own 1 (K.map lsB)).free=true:=by
 simp only [PV.free]
 exact zHO (fun r=>by simp only [PV.free];exact zHO (fun b=>by simp [PV.free]) r) K
theorem f95 (n:Nw) (cs:List (Int×Int)) (e:Int) (ho:CrW n cs) (he:0≤e∧e≤1000):FG 95 [nwV n,prs cs,I e] (.own 1 ((zCL n cs e.toNat).map lsB)):=by
 have hn:=ho.nw
 have hb:=hn.h
 refine zAf Tryz.f95 ?_
 refine zAb (zAa (zAd 2 (zAc (zAb (zAa (zAd 2 (S_a [(8,.ret (PV.own 1 (List.map lsB (zP9 n cs n.h.toNat))) ([]))] (ap (f112 (n) (cs) (by omega)) an) (zAd 1 (zAc (zAb (zAb (zAa (zAd 1 (zAc (zAh 0 ?_)))))))))))))))
 refine zAo (fun (K,i)=>i≤e.toNat∧K=zCL n cs i) (fun (K,i)=>[(7,.own 1 (K.map lsB)),(8,I (i:Nat))]) (fun (_,i)=>e.toNat-i) (zP9 n cs n.h.toNat,(0:Nat)) ⟨by omega,rfl⟩ fun (K,i) ⟨hi,hK⟩=>?_
 have wG:∃ w,RelK n K w:=⟨_,hK▸zEv ho i⟩
 have uO:K.length=n.h.toNat:=by obtain ⟨_,h⟩:=wG;exact h.len
 by_cases yC:(i:Int)<e
 ·have yR:zLe n K=zCL n cs (i+1):=by rw [hK];rfl
  clear hK
  refine zAb (zAb (zAa (zAd 3 (zAc (zAL ((↑i:Int)<e) (by omega) (zAi (zAb (zAh 1 (zAa (zAd 2 (S_a [(5,.ob),(0,.v (PV.sl (List.map bls K))),(2,.ret (PV.own 1 (List.map lsB (zLe n K))) ([])),(1,.yes)] (ap (blz (List.map lsB K)) (ap (frC lsB bls K) (ap (f115 (n) (K) (by omega) (by omega)) (ap (?_:(PV.own 1 (List.map lsB (zLe n K))).free=true) an)))) (zAd 1 (zAc (zAa (zAd 1 (S_a [(1,.v (I (↑(i+1):Int)))] (ap (wrN i) an) (zAd 1 (zAc ?_))))))))))))))))))
  ·exact zPY _
  exact ⟨(zLe n K,i+1),⟨by omega,yR⟩,by simp only;omega,by kernel_rfl,by kernel_rfl⟩
 ·have e2:i=e.toNat:=by omega
  subst e2
  clear hi
  rw [hK]
  refine zAb (zAb (zAa (zAd 3 (zAc (zAO ((↑e.toNat:Int)<e) (by omega) (zAv 0 (zAb (zAa (zAd 1 (S_a [(2,.yes)] (ap ((by exact zBr (by simp<;>omega)):(Nat.beq 0 0&&(List.map lsB (zCL n cs e.toNat)).length.beq (List.map lsB (zCL n cs e.toNat)).length)=true) an) (zAc (zAl (E_a [(1,.yes),(1,.v (PV.own 1 (List.map lsB (zCL n cs e.toNat))))] (ap (blz (List.map lsB (zCL n cs e.toNat))) (ap ((zAR zAK):PV.own 1 (List.take (List.map lsB (zCL n cs e.toNat)).length (List.drop 0 (List.map lsB (zCL n cs e.toNat))))=PV.own 1 (List.map lsB (zCL n cs e.toNat))) an)) (PV.own 1 (List.map lsB (zCL n cs e.toNat))) ([]) rfl rfl)))))))))))))
end Go.Eng
set_option maxRecDepth 10000
set_option maxHeartbeats 4000000
namespace Go.Eng
open Go Go.Proofs
def gpB (n:Nw) (K:List (List Bool)) (h i:Nat):Bool:=zJW n K h i&&decide (0≤zLw n i)
def gpR (n:Nw) (K:List (List Bool)) (h k:Nat):List (Int×Int):=((List.range k).filter fun i=>gpB n K h i).map fun (i:Nat)=>((h:Int),(i:Int))
def gpN (n:Nw) (K:List (List Bool)) (h:Nat):List (Int×Int):=(List.range h).flatMap fun h=>gpR n K h n.n.length
theorem zTI {n:Nw} {K:List (List Bool)} {h k:Nat}:gpR n K h (k+1)=if gpB n K h k=true then gpR n K h k++[((h:Int),(k:Int))] else gpR n K h k:=by
 unfold gpR
 rw [List.range_succ,List.filter_append]
 cases hg:gpB n K h k<;>simp [hg]
theorem zOJ {n:Nw} {K:List (List Bool)} {h:Nat}:gpN n K (h+1)=gpN n K h++gpR n K h n.n.length:=by
 simp [gpN,List.range_succ,List.flatMap_append]
theorem zQD {n:Nw} {K:List (List Bool)} {h k:Nat}:(gpR n K h k).length≤k:=by
 unfold gpR
 rw [List.length_map]
 exact Nat.le_trans (List.length_filter_le _ _) (by simp)
theorem zN4 {n:Nw} {K:List (List Bool)} (ho:NwOk n):∀ {h:Nat},(gpN n K h).length≤8*h
 | 0=>by simp [gpN]
 | h+1=>by
  rw [zOJ,List.length_append]
  have:=zN4 (K:=K) ho (h:=h)
  have h2:=zQD (n:=n) (K:=K) (h:=h) (k:=n.n.length)
  have:=ho.nl.2
  omega
theorem f94 (n:Nw) (K:List (List Bool)) (ho:NwOk n) (hr:∃ w,RelK n K w):FG 94 [nwV n,knV K] (.own 2 ((gpN n K n.h.toNat).map prV)):=by
 have hb:=ho.h
 have uH:=ho.nl
 refine zAf Tryz.f94 ?_
 refine zAb (zAa (zAd 2 (zAc (zAb (zAa (zAd 1 (zAc (zAb (zAb (zAa (zAd 1 (zAc (zAh 0 ?_)))))))))))))
 refine zAo (fun (h,L)=>h≤n.h.toNat∧L=gpN n K h) (fun (h,L)=>[(5,.own 2 (L.map prV)),(6,I (h:Nat))]) (fun (h,_)=>n.h.toNat-h) ((0:Nat),([]:List (Int×Int))) ⟨by omega,rfl⟩ fun (h,L) ⟨hh,hL⟩=>?_
 have hLl:L.length≤8*h:=hL▸zN4 ho
 by_cases qC:(h:Int)<n.h
 ·refine zAb (zAb (zAa (zAd 4 (zAc (zAL ((↑h:Int)<n.h) (by omega) (zAi (zAb (zAh 1 (zAb (zAa (zAd 1 (zAc (zAh 2 ?_)))))))))))))
  refine zAo (fun (i,M)=>i≤n.n.length∧M=L++gpR n K h i) (fun (i,M)=>[(5,.own 2 (M.map prV)),(7,I (i:Nat))]) (fun (i,_)=>n.n.length-i) ((0:Nat),L) ⟨by omega,by simp [gpR]⟩ fun (i,M) ⟨hi,hM⟩=>?_
  have hMl:M.length≤8*h+8:=by
   rw [hM,List.length_append]
   have:=zQD (n:=n) (K:=K) (h:=h) (k:=i)
   omega
  by_cases yC:(i:Int)<n.n.length
  ·have yR:=zTI (n:=n) (K:=K) (h:=h) (k:=i)
   have hx:∀ b:Bool,gpB n K h i=b→L++gpR n K h (i+1)=if b=true then M++[((h:Int),(i:Int))] else M:=fun b hb=>by
    rw [yR,hb,hM];cases b<;>simp
   clear hL hM yR
   refine zAb (zAb (zAa (zAd 3 (S_a [(0,.n (n.n.length))] (ap (lnS ntV n.n) an) (zAd 1 (zAc (zAL ((↑i:Int)<(↑n.n.length:Int)) (by omega) (zAi (zAb (zAh 3 (zAb (zAa (zAd 4 (S_a [(12,.ret (PV.bool (zJW n K h i)) ([]))] (ap (f113 (n) (K) (h) (i) (by omega) (by omega) (by first | omega | (simp<;>omega)) (by first | omega | (simp<;>omega))) an) (zAd 1 (zDV 26 (zJW n K h i) (fun k0=>(zAd 2 (S_a [(8,.ret (I (zLw n (↑i:Int))) ([]))] (ap (f143 (n) ((↑i:Int)) (by first | omega | (simp<;>omega))) an) (zAd 2 (zAc (zBU (zLw n (↑i:Int)≥0) (fun k1=>(zAa (zAd 5 (S_a [(4,.ob),(0,.ob),(0,.yes),(2,.v (PV.own 2 (List.map prV (M++[((↑h:Int),(↑i:Int))]))))] (ap (blz (List.map prV M)) (ap ((by exact zBs (by simp only [List.length_map,zzLn,zA1]<;>omega)):((List.map prV M).length + [PV.agg [I (↑h:Int),I (↑i:Int)]].length).ble zA1=true) (ap ((by exact zBr (by simp<;>omega)):(0+(List.map prV M).length).beq (List.map prV M).length=true) (ap ((zAR (zCv (by kernel_rfl))):PV.own 2 (List.map prV M++[PV.agg [I (↑h:Int),I (↑i:Int)]])=PV.own 2 (List.map prV (M++[((↑h:Int),(↑i:Int))]))) an)))) (zAd 1 (zAc (zAa (zAd 1 (S_a [(1,.v (I (↑(i+1):Int)))] (ap (wrN i) an) (zAd 1 (zAc ?_))))))))))) (fun k1=>(zAi (zAa (zAd 1 (S_a [(1,.v (I (↑(i+1):Int)))] (ap (wrN i) an) (zAd 1 (zAc ?_))))))))))))) (fun k0=>(zAd 5 (zAc (zAU (zAi (zAa (zAd 1 (S_a [(1,.v (I (↑(i+1):Int)))] (ap (wrN i) an) (zAd 1 (zAc ?_))))))))))))))))))))))))))
   ·exact ⟨(i+1,M++[((h:Int),(i:Int))]),⟨by omega,(hx true (by rw [gpB,k0,decide_eq_true (by omega)];rfl)).symm⟩,by simp only;omega,by kernel_rfl,by kernel_rfl⟩
   ·exact ⟨(i+1,M),⟨by omega,(hx false (by rw [gpB,k0,decide_eq_false (by omega)];rfl)).symm⟩,by simp only;omega,by kernel_rfl,by kernel_rfl⟩
   ·exact ⟨(i+1,M),⟨by omega,(hx false (by rw [gpB,k0];rfl)).symm⟩,by simp only;omega,by kernel_rfl,by kernel_rfl⟩
  ·have uN:M=gpN n K (h+1):=by rw [hM,hL,zOJ,show i=n.n.length by omega]
   clear hL hM
   refine zAb (zAb (zAa (zAd 3 (S_a [(0,.n (n.n.length))] (ap (lnS ntV n.n) an) (zAd 1 (zAc (zAO ((↑i:Int)<(↑n.n.length:Int)) (by omega) (zAv 2 (zAa (zAd 1 (S_a [(1,.v (I (↑(h+1):Int)))] (ap (wrN h) an) (zAd 1 (zAc ?_)))))))))))))
   exact ⟨(h+1,M),⟨by omega,uN⟩,by simp only;omega,by kernel_rfl,by kernel_rfl⟩
 ·have e:h=n.h.toNat:=by omega
  subst e
  rw [← hL]
  clear hL
  refine zAb (zAb (zAa (zAd 4 (zAc (zAO ((↑n.h.toNat:Int)<n.h) (by omega) (zAv 0 (zAb (zAa (zAd 1 (S_a [(2,.yes)] (ap ((by exact zBr (by simp<;>omega)):(Nat.beq 0 0&&(List.map prV L).length.beq (List.map prV L).length)=true) an) (zAc (zAl (E_a [(1,.yes),(1,.v (PV.own 2 (List.map prV L)))] (ap (blz (List.map prV L)) (ap ((zAR zAK):PV.own 2 (List.take (List.map prV L).length (List.drop 0 (List.map prV L)))=PV.own 2 (List.map prV L)) an)) (PV.own 2 (List.map prV L)) ([]) rfl rfl)))))))))))))
end Go.Eng
namespace Go.Eng
open Go Go.Proofs
theorem zS2 {n:Nw} (ho:NwOk n) {i:Nat} (hi:i<n.n.length):(0≤zLw n i)↔(zA5 n).getD i 0≠i:=by
 obtain ⟨l,h1,h2,h3,h4,h5⟩:=zRH ho hi
 rw [h1]
 rcases zLE ho hi with ⟨g1,g2⟩ | ⟨m,g1,g2,g3,g4,_⟩
 ·rw [g1]
  have:=g2 l h2 h3
  constructor<;>intro h<;>omega
 ·rw [g1]
  have:=h5 m g3 g4
  constructor<;>intro h<;>omega
theorem zW6 {n:Nw} {K:List (List Bool)} {w:List Int} (ho:NwOk n) (hr:RelK n K w) {h i:Nat} (hh:h<n.h.toNat) (hi:i<n.n.length):gpB n K h i=zQO n w h i:=by
 unfold gpB zQO
 rw [zMa ho hr hh hi]
 unfold hld
 congr 1
 exact decide_eq_decide.2 (zS2 ho hi)
theorem zUC {n:Nw} {K:List (List Bool)} {w:List Int} (ho:NwOk n) (hr:RelK n K w):gpN n K n.h.toNat=zBl n w:=by
 unfold gpN zBl zP3 gpR zJg
 rw [List.flatMap_def,List.flatMap_def]
 congr 1
 refine List.map_congr_left fun h hh=>?_
 congr 1
 exact List.filter_congr fun i hi=>zW6 ho hr (List.mem_range.1 hh) (List.mem_range.1 hi)
end Go.Eng
namespace Go.Eng
open Go Go.Proofs
theorem zKM {α:Type} {p q:α→Bool}:∀ {l:List α},(∀ x∈l,p x=true→q x=true)→l.countP p≤l.countP q
 | [],_=>Nat.le_refl _
 | a::l,h=>by
  have ih:=zKM (l:=l) fun x hx=>h x (List.mem_cons_of_mem _ hx)
  have h1:=h a List.mem_cons_self
  rw [List.countP_cons,List.countP_cons]
  cases hp:p a
  ·rw [if_neg (by simp)];split<;>omega
  ·rw [h1 hp,if_pos rfl];omega
theorem zKi {α:Type} {p q:α→Bool}:∀ {l:List α},(∀ x∈l,p x=true→q x=true)→(∃ x∈l,q x=true∧p x=false)→l.countP p<l.countP q
 | [],_,⟨_,h,_⟩=>absurd h List.not_mem_nil
 | a :: l,h,⟨x,hx,h1,h2⟩=>by
  have hl:=fun x (hx:x∈l)=>h x (List.mem_cons_of_mem _ hx)
  have ha:=h a List.mem_cons_self
  rw [List.countP_cons,List.countP_cons]
  rcases List.mem_cons.1 hx with e | hm
  ·subst e
   have ih:=zKM hl
   rw [h2,if_neg (by simp),h1,if_pos rfl];omega
  ·have ih:=zKi hl ⟨x,hm,h1,h2⟩
   cases hp:p a
   ·rw [if_neg (by simp)];split<;>omega
   ·rw [ha hp,if_pos rfl];omega
theorem zZj {H:Nat} (p:Nat→Nat→Bool) (hm:∀ e h,h<H→p e h=true→p (e+1) h=true) (hd:∀ e,(∀ h,h<H→p (e+1) h=p e h)→∀ h,h<H→p (e+1+1) h=p (e+1) h) (h0:(∀ h,h<H→p 0 h=false)→∀ h,h<H→p 1 h=false) {e:Nat} (he:H≤e+1):∀ h,h<H→p (e+1) h=p e h:=by
 have kb:∀ k e,(∀ h,h<H→p (e+1) h=p e h)→∀ h,h<H→p (e+k+1) h=p (e+k) h:=by
  intro k
  induction k with
  | zero=>intro e h;exact h
  | succ k ih=>intro e h;exact hd (e+k) (ih e h)
 apply Classical.byContradiction
 intro hI
 have wB:∀ e',e'≤e→∃ h,h<H∧p (e'+1) h=true∧p e' h=false:=by
  intro e' h1
  apply Classical.byContradiction
  intro h2
  apply hI
  have h3:∀ h,h<H→p (e'+1) h=p e' h:=by
   intro h hh
   cases hp:p e' h
   ·cases hq:p (e'+1) h
    ·rfl
    ·exact absurd ⟨h,hh,hq,hp⟩ h2
   ·exact hm e' h hh hp
  have:=kb (e-e') e' h3
  rwa [show e'+(e-e')=e by omega] at this
 have hc:∀ k,k≤e+1→k+1≤(List.range H).countP (p k):=by
  intro k
  induction k with
  | zero =>
   intro _
   apply Classical.byContradiction
   intro hz
   have kB:(List.range H).countP (p 0)=0:=by omega
   rw [List.countP_eq_zero] at kB
   obtain ⟨h,hh,h1,_⟩:=wB 0 (Nat.zero_le _)
   have:=h0 (fun h hh=>by simpa using kB h (List.mem_range.2 hh)) h hh
   rw [this] at h1;cases h1
  | succ k ih =>
   intro hk
   have ih:=ih (by omega)
   obtain ⟨h,hh,h1,h2⟩:=wB k (by omega)
   have:=zKi (l:=List.range H) (fun x hx=>hm k x (List.mem_range.1 hx)) ⟨h,List.mem_range.2 hh,h1,h2⟩
   omega
 have h1:=hc (e+1) (Nat.le_refl _)
 have h2:=List.countP_le_length (p:=p (e+1)) (l:=List.range H)
 rw [List.length_range] at h2
 omega
theorem zWa {a b v:Int}:v≤max a b↔v≤a∨v≤b:=by omega
theorem zR8 {now w:List Int} {h o:Nat} (hw:w.length=80) (hh:h<10) {j:Nat} {v:Int}:∀ k,k≤8→(v≤(nxtR now h o w k).getD j 0↔v≤w.getD j 0∨∃ c,c<k∧j=h*8+c∧v≤now.getD (o*8+c) 0)
 | 0,_=>by
  refine ⟨.inl,fun h=>h.elim id fun ⟨c,h,_⟩=>absurd h (Nat.not_lt_zero c)⟩
 | k + 1,hk=>by
  have ih:=zR8 (now:=now) (o:=o) hw hh (j:=j) (v:=v) k (by omega)
  rw [zJN,zIk (by rw [zGS,hw];omega)]
  split
  ·rename_i e
   rw [zWa,ih]
   constructor
   ·rintro ((h1 | ⟨c,h1,h2,h3⟩) | h1)
    ·exact .inl h1
    ·exact .inr ⟨c,by omega,h2,h3⟩
    ·exact .inr ⟨k,by omega,e.symm,h1⟩
   ·rintro (h1 | ⟨c,h1,h2,h3⟩)
    ·exact .inl (.inl h1)
    ·obtain rfl:c=k:=by omega
     exact .inr h3
  ·rename_i e
   rw [ih]
   refine or_congr Iff.rfl ⟨fun ⟨c,h1,h2,h3⟩=>⟨c,by omega,h2,h3⟩,fun ⟨c,h1,h2,h3⟩=>⟨c,?_,h2,h3⟩⟩
   by_cases hc:c=k
   ·subst hc;exact absurd h2.symm e
   ·omega
theorem zSd {now:List Int} {h:Nat} (hh:h<10) {j:Nat} {v:Int}:∀ (l:List Nat) {w:List Int},w.length=80→(v≤(nxtH now h w l).getD j 0↔v≤w.getD j 0∨∃ o∈l,∃ c,c<8∧j=h*8+c∧v≤now.getD (o*8+c) 0)
 | [],w,hw=>⟨.inl,fun h=>h.elim id fun ⟨o,h,_⟩=>absurd h List.not_mem_nil⟩
 | o :: l,w,hw=>by
  have ih:=zSd (now:=now) hh (j:=j) (v:=v) l (w:=nxtR now h o w 8) (by rw [zGS,hw])
  show v≤(nxtH now h (nxtR now h o w 8) l).getD j 0↔_
  rw [ih,zR8 hw hh 8 (Nat.le_refl _)]
  constructor
  ·rintro ((h1 | h1) | ⟨o2,h1,h2⟩)
   ·exact .inl h1
   ·exact .inr ⟨o,List.mem_cons_self,h1⟩
   ·exact .inr ⟨o2,List.mem_cons_of_mem _ h1,h2⟩
  ·rintro (h1 | ⟨o2,h1,h2⟩)
   ·exact .inl (.inl h1)
   ·rcases List.mem_cons.1 h1 with e | h3
    ·subst e;exact .inl (.inr h2)
    ·exact .inr ⟨o2,h3,h2⟩
theorem zK9 {n:Nw} {now:List Int} (hw:now.length=80) {j:Nat} {v:Int}:∀ k,k≤10→(v≤(nxtN n now k).getD j 0↔v≤now.getD j 0∨∃ h,h<k∧∃ o∈zGN n h n.h.toNat,∃ c,c<8∧j=h*8+c∧v≤now.getD (o*8+c) 0)
 | 0,_=>⟨.inl,fun h=>h.elim id fun ⟨c,h,_⟩=>absurd h (Nat.not_lt_zero c)⟩
 | k + 1,hk=>by
  have ih:=zK9 (n:=n) hw (j:=j) (v:=v) k (by omega)
  rw [zJ4,zSd (by omega) _ (by rw [zIx,hw]),ih]
  constructor
  ·rintro ((h1 | ⟨h,h1,h2⟩) | h2)
   ·exact .inl h1
   ·exact .inr ⟨h,by omega,h2⟩
   ·exact .inr ⟨k,by omega,h2⟩
  ·rintro (h1 | ⟨h,h1,h2⟩)
   ·exact .inl (.inl h1)
   ·by_cases e:h=k
    ·subst e;exact .inr h2
    ·exact .inl (.inr ⟨h,by omega,h2⟩)
theorem zU3 {n:Nw} (ho:NwOk n) {w:List Int} (hw:w.length=80) {h c:Nat} (hh:h<n.h.toNat) (hc:c<8) {v:Int}:v≤(zCo n w).getD (h*8+c) 0↔v≤w.getD (h*8+c) 0∨∃ o∈zGN n h n.h.toNat,v≤w.getD (o*8+c) 0:=by
 have hH:=ho.h
 unfold zCo
 rw [zK9 hw _ (by omega)]
 refine or_congr Iff.rfl ⟨fun ⟨h2,h3,o,h4,c2,h5,h6,h7⟩=>?_,fun ⟨o,h1,h2⟩=>⟨h,hh,o,h1,c,hc,rfl,h2⟩⟩
 obtain rfl:h2=h:=by omega
 obtain rfl:c2=c:=by omega
 exact ⟨o,h4,h7⟩
theorem zRn {n:Nw} (ho:NwOk n) {w:List Int} (hw:w.length=80) {j:Nat} (hj:n.h.toNat*8≤j):(zCo n w).getD j 0=w.getD j 0:=by
 have hH:=ho.h
 have key:∀ v:Int,v≤(zCo n w).getD j 0↔v≤w.getD j 0:=fun v=>by
  unfold zCo
  rw [zK9 hw _ (by omega)]
  refine ⟨fun h=>h.elim id fun ⟨h2,h3,o,h4,c2,h5,h6,h7⟩=>?_,.inl⟩
  omega
 have h1:=(key _).1 (Int.le_refl _)
 have h2:=(key _).2 (Int.le_refl _)
 omega
theorem zQT {n:Nw} (ho:NwOk n) {w:List Int} (hw:w.length=80) (j:Nat):w.getD j 0≤(zCo n w).getD j 0:=by
 have hH:=ho.h
 unfold zCo
 rw [zK9 hw _ (by omega)]
 exact .inl (Int.le_refl _)
theorem zO0 {n:Nw} {cs:List (Int×Int)} (ho:NwOk n) {e k:Nat} (j:Nat) (hek:e≤k):(zAV n cs e).getD j 0≤(zAV n cs k).getD j 0:=by
 induction hek with
 | refl=>exact Int.le_refl _
 | step h ih=>exact Int.le_trans ih (zQT ho (zBB _) j)
theorem zGW {n:Nw} {cs:List (Int×Int)} (ho:NwOk n) {j:Nat} (hj:n.h.toNat*8≤j):∀ e,(zAV n cs e).getD j 0=(zAV n cs 0).getD j 0
 | 0=>rfl
 | e+1=>by
  show (zCo n (zAV n cs e)).getD j 0=_
  rw [zRn ho (zBB e) hj,zGW ho hj e]
theorem zOa {a b:List Int} (hl:a.length=b.length) (h:∀ j,j<a.length→a.getD j 0=b.getD j 0):a=b :=
 List.ext_getElem hl fun j h1 h2=>by have:=h j h1;rwa [zAr h1,zAr h2] at this
theorem zMU {n:Nw} {cs:List (Int×Int)} (ho:NwOk n) {e:Nat} (he:n.h.toNat≤e+1):zAV n cs (e+1)=zAV n cs e:=by
 refine zOa (by rw [zBB,zBB]) fun j hj=>?_
 rw [zBB] at hj
 by_cases hr:n.h.toNat*8≤j
 ·rw [zGW ho hr,zGW (n:=n) ho hr e]
 ·have hc:j % 8<8:=Nat.mod_lt _ (by omega)
  have hh:j / 8<n.h.toNat:=by omega
  have hj2:j=j / 8*8+j % 8:=by omega
  have key:∀ v:Int,v≤(zAV n cs (e+1)).getD j 0↔v≤(zAV n cs e).getD j 0:=fun v=>by
   have yE:∀ k h,h<n.h.toNat→(v≤(zAV n cs (k+1)).getD (h*8+j % 8) 0↔v≤(zAV n cs k).getD (h*8+j % 8) 0∨∃ o∈zGN n h n.h.toNat,v≤(zAV n cs k).getD (o*8+j % 8) 0):=fun k h hh=>zU3 ho (zBB k) hh hc
   have ww:∀ h o,o∈zGN n h n.h.toNat→o<n.h.toNat:=fun h o hm=>List.mem_range.1 (List.mem_filter.1 hm).1
   have:=zZj (H:=n.h.toNat) (fun k h=>decide (v≤(zAV n cs k).getD (h*8+j % 8) 0)) (fun k h hh h1=>?_) (fun k h1 h hh=>?_) (fun h1 h hh=>?_) he (j / 8) hh
   ·simp only [decide_eq_decide] at this
    rw [← hj2] at this
    exact this
   ·simp only [decide_eq_true_eq] at h1 ⊢
    exact (yE k h hh).2 (.inl h1)
   ·simp only [decide_eq_decide] at h1 ⊢
    rw [yE (k+1) h hh,yE k h hh]
    constructor
    ·rintro (h2 | ⟨o,h2,h3⟩)
     ·exact h2
     ·exact .inr ⟨o,h2,(h1 o (ww h o h2)).1 h3⟩
    ·exact .inl
   ·simp only [decide_eq_false_iff_not] at h1 ⊢
    rw [yE 0 h hh]
    rintro (h2 | ⟨o,h2,h3⟩)
    ·exact h1 h hh h2
    ·exact h1 o (ww h o h2) h3
  have h1:=(key _).1 (Int.le_refl _)
  have h2:=(key _).2 (Int.le_refl _)
  omega
theorem zIt {n:Nw} {cs:List (Int×Int)} {k:Nat} (h:zAV n cs (k+1)=zAV n cs k):∀ e,k≤e→zAV n cs e=zAV n cs k:=by
 intro e he
 induction he with
 | refl=>rfl
 | step _ ih =>
  rename_i m _
  show zCo n (zAV n cs m)=_
  rw [ih];exact h
theorem zD8 {n:Nw} {cs:List (Int×Int)} (ho:NwOk n):∃ k,k<n.h.toNat∧zAV n cs (k+1)=zAV n cs k∧∀ j,j<k→zAV n cs (j+1)≠zAV n cs j:=by
 have hH:=ho.h
 have wB:∃ k,zAV n cs (k+1)=zAV n cs k:=⟨n.h.toNat-1,zMU ho (by omega)⟩
 have gP:∀ m,(∃ k,k≤m∧zAV n cs (k+1)=zAV n cs k)→∃ k,k≤m∧zAV n cs (k+1)=zAV n cs k∧∀ j,j<k→zAV n cs (j+1)≠zAV n cs j:=by
  intro m
  induction m with
  | zero =>
   rintro ⟨k,h1,h2⟩
   exact ⟨k,h1,h2,fun j hj=>by omega⟩
  | succ m ih =>
   rintro ⟨k,h1,h2⟩
   by_cases hx:∃ k,k≤m∧zAV n cs (k+1)=zAV n cs k
   ·obtain ⟨k,g1,g2,g3⟩:=ih hx
    exact ⟨k,by omega,g2,g3⟩
   ·exact ⟨k,h1,h2,fun j hj he=>hx ⟨j,by omega,he⟩⟩
 obtain ⟨k,h1,h2,h3⟩:=gP (n.h.toNat-1) ⟨n.h.toNat-1,Nat.le_refl _,zMU ho (by omega)⟩
 exact ⟨k,by omega,h2,h3⟩
theorem zPN {n:Nw} {cs:List (Int×Int)} (ho:NwOk n) {k:Nat} (h2:∀ j,j<k→zAV n cs (j+1)≠zAV n cs j) {i:Nat} (hi:i<k):zAV n cs i≠zAV n cs k:=by
 intro he
 refine h2 i hi (zOa (by rw [zBB,zBB]) fun j _=>?_)
 have h3:=zO0 (n:=n) (cs:=cs) ho (e:=i) (k:=i+1) j (by omega)
 have h4:=zO0 (n:=n) (cs:=cs) ho (e:=i+1) (k:=k) j (by omega)
 rw [← he] at h4
 omega
end Go.Eng
namespace Go.Eng
open Go Go.Proofs
theorem zNJ {p q:Nat→Bool} {k:Nat} (h:∀ i,i<k→p i=q i):zEy p k=zEy q k:=by
 unfold zEy
 rw [List.filter_congr fun i hi=>h i (List.mem_range.1 hi)]
theorem zRr {p:Nat→Bool} {k:Nat} {x:Int}:x∈zEy p k↔∃ i:Nat,i<k∧p i=true∧x=i:=by
 simp only [zEy,List.mem_map,List.mem_filter,List.mem_range]
 exact ⟨fun ⟨i,⟨h1,h2⟩,h3⟩=>⟨i,h1,h2,h3.symm⟩,fun ⟨i,h1,h2,h3⟩=>⟨i,⟨h1,h2⟩,h3.symm⟩⟩
def zZl (n:Nw) (A B:List (List Bool)) (h:Nat):Bool:=(List.range n.n.length).all fun i=>zJW n A h i==zJW n B h i
def zSL (n:Nw) (A B:List (List Bool)):Bool:=(List.range n.h.toNat).all fun h=>zZl n A B h
theorem zWX {n:Nw} {A B:List (List Bool)} {w v:List Int} (ho:NwOk n) (hA:RelK n A w) (hB:RelK n B v) (hr:∀ j,n.h.toNat*8≤j→w.getD j 0=v.getD j 0):zSL n A B=decide (w=v):=by
 rw [Bool.eq_iff_iff,decide_eq_true_eq]
 constructor
 ·intro h
  have hh:∀ a i,a<n.h.toNat→i<n.n.length→hld n w a i=hld n v a i:=fun a i ha hi=>by
   have h1:=List.all_eq_true.1 (List.all_eq_true.1 h a (List.mem_range.2 ha)) i (List.mem_range.2 hi)
   rw [beq_iff_eq,zMa ho hA ha hi,zMa ho hB ha hi] at h1
   exact h1
  refine zOa (by rw [hA.wl,hB.wl]) fun j hj=>?_
  by_cases hj2:n.h.toNat*8≤j
  ·exact hr j hj2
  ·have hc:j % 8<8:=Nat.mod_lt _ (by omega)
   have ha:j / 8<n.h.toNat:=by omega
   have he:j / 8*8+j % 8=j:=by omega
   have h1:=hA.at_ (j / 8) (j % 8) ha hc
   have h2:=hB.at_ (j / 8) (j % 8) ha hc
   rw [he] at h1 h2
   rcases h1 with h1 | ⟨i,g1,g2,g3,_⟩
   ·rcases h2 with h2 | ⟨k,f1,f2,f3,_⟩
    ·rw [h1,h2]
    ·have h3:=hh (j / 8) k ha f1
     simp only [hld,f2,Int.toNat_natCast,he,f3,h1,decide_eq_decide,iff_true] at h3
     omega
   ·have h3:=hh (j / 8) i ha g1
    simp only [hld,g2,Int.toNat_natCast,he,g3,decide_eq_decide,true_iff] at h3
    rw [g3,h3]
 ·rintro rfl
  refine List.all_eq_true.2 fun a ha=>List.all_eq_true.2 fun i hi=>?_
  rw [beq_iff_eq,zMa ho hA (List.mem_range.1 ha) (List.mem_range.1 hi),zMa ho hB (List.mem_range.1 ha) (List.mem_range.1 hi)]
theorem zRE {n:Nw} {cs:List (Int×Int)} (ho:CrW n cs) (i k:Nat):zSL n (zCL n cs i) (zCL n cs k)=decide (zAV n cs i=zAV n cs k) :=
 zWX ho.nw (zEv ho i) (zEv ho k) fun j hj=>by rw [zGW ho.nw hj,zGW (n:=n) ho.nw hj k]
def zUE (n:Nw) (cs:List (Int×Int)) (k:Nat):Int:=(List.range k).foldl (fun a i=>if zSL n (zCL n cs i) (zCL n cs 20)=true then a else (i:Int)+1) 0
theorem zJ5 {n:Nw} {cs:List (Int×Int)} {k:Nat}:zUE n cs (k+1)=if zSL n (zCL n cs k) (zCL n cs 20)=true then zUE n cs k else (k:Int)+1:=by
 simp only [zUE,List.range_succ,List.foldl_append,List.foldl_cons,List.foldl_nil]
theorem zVw {n:Nw} {cs:List (Int×Int)} (ho:CrW n cs) {k:Nat} (hk:k≤20) (he:zAV n cs (k+1)=zAV n cs k) (hm:∀ j,j<k→zAV n cs (j+1)≠zAV n cs j):zUE n cs 20=k:=by
 have h20:=zIt he 20 hk
 have h1:∀ j,j≤k→zUE n cs j=j:=by
  intro j
  induction j with
  | zero=>intro _;rfl
  | succ j ih =>
   intro hj
   rw [zJ5,if_neg]
   ·omega
   ·rw [zRE ho,h20,decide_eq_true_eq];exact zPN ho.nw hm (by omega)
 have h2:∀ j,zUE n cs (k+j)=k:=by
  intro j
  induction j with
  | zero=>exact h1 k (Nat.le_refl _)
  | succ j ih =>
   rw [← Nat.add_assoc,zJ5,if_pos]
   ·exact ih
   ·rw [zRE ho,h20,decide_eq_true_eq];exact zIt he _ (by omega)
 have:=h2 (20-k)
 rwa [show k+(20-k)=20 by omega] at this
def zSN (n:Nw) (cs:List (Int×Int)) (k:Nat):Int:=(List.range k).foldl (fun a i=>if (gpN n (zCL n cs i) n.h.toNat).length>0 then (i:Int)+1 else a) 0
theorem zJJ {n:Nw} {cs:List (Int×Int)} {k:Nat}:zSN n cs (k+1)=if (gpN n (zCL n cs k) n.h.toNat).length>0 then (k:Int)+1 else zSN n cs k:=by
 simp only [zSN,List.range_succ,List.foldl_append,List.foldl_cons,List.foldl_nil]
theorem zVa {α:Type} {l:List α}:l.length>0↔¬ l=[]:=by
 cases l<;>simp
theorem zRP {n:Nw} {cs:List (Int×Int)}:∀ k,0≤zSN n cs k∧zSN n cs k≤k
 | 0=>⟨Int.le_refl _,Int.le_refl _⟩
 | k+1=>by
  have:=zRP (n:=n) (cs:=cs) k
  rw [zJJ];split<;>omega
theorem zV5 {n:Nw} {cs:List (Int×Int)} (ho:CrW n cs):zSN n cs 21=if zBl n (zAV n cs 12)=[] then zO2 n cs 12 else 21:=by
 obtain ⟨s,h1,h2,_⟩:=zD8 (n:=n) (cs:=cs) ho.nw
 have hH:=ho.nw.h
 have qH:∀ e,12≤e→zAV n cs e=zAV n cs 12:=fun e he=>by rw [zIt h2 e (by omega),zIt h2 12 (by omega)]
 have hk:∀ k,zSN n cs k=zO2 n cs k:=by
  intro k
  induction k with
  | zero=>rfl
  | succ k ih =>
   rw [zJJ,zFC,ih,zUC ho.nw (zEv ho k)]
   by_cases hg:zBl n (zAV n cs k)=[]
   ·rw [if_pos hg,if_neg (by rw [hg];simp)]
   ·rw [if_neg hg,if_pos (zVa.2 hg)]
 rw [hk]
 split
 ·rename_i hg
  have:∀ j,zO2 n cs (12+j)=zO2 n cs 12:=by
   intro j
   induction j with
   | zero=>rfl
   | succ j ih=>rw [← Nat.add_assoc,zFC,qH _ (by omega),if_pos hg,ih]
  exact this 9
 ·rename_i hg
  rw [show (21:Nat)=20+1 from rfl,zFC,qH _ (by omega),if_neg hg];rfl
def zTm (n:Nw) (G:List (Int×Int)) (h:Nat):Bool:=G.any fun g=>decide (g.1=(h:Int)) && !(n.n.getD g.2.toNat default).2
theorem zPp {x:Int}:∀ (k:Nat) (o:List Int),(List.replicate k x).foldl zLT o=if k=0 then o else zLT o x
 | 0,o=>rfl
 | k + 1,o=>by
  rw [List.replicate_succ,List.foldl_cons,zPp k,if_neg (Nat.succ_ne_zero k)]
  split
  ·rfl
  ·show zLT (zLT o x) x=_
   rw [zLT,if_pos (zMV o x)]
theorem zTL {o:List Int} {x:Int} (h:x∉o):zLT o x=o++[x]:=by
 rw [zLT,if_neg]
 intro he
 exact h (List.mem_of_getLast? he)
theorem zUw {n:Nw} {w:List Int}:∀ k,zFk (msl n (zP3 n w k))=zEy (fun h=>zTm n (zJg n w h n.n.length) h) k
 | 0=>by simp [zP3,msl,zFk,zEy]
 | k + 1=>by
  have ih:=zUw (n:=n) (w:=w) k
  have hO:msl n (zJg n w k n.n.length)=List.replicate (msl n (zJg n w k n.n.length)).length (k:Int):=by
   rw [List.eq_replicate_iff]
   refine ⟨rfl,fun x hx=>?_⟩
   simp only [msl,zJg,List.mem_map,List.mem_filter] at hx
   obtain ⟨g,⟨⟨i,_,rfl⟩,_⟩,rfl⟩:=hx
   rfl
  have jR:(k:Int)∉zEy (fun h=>zTm n (zJg n w h n.n.length) h) k:=by
   rw [zRr]
   rintro ⟨i,h1,_,h2⟩
   omega
  have happ:msl n (zP3 n w (k+1))=msl n (zP3 n w k)++msl n (zJg n w k n.n.length):=by
   simp [msl,zJT,List.filter_append]
  rw [happ,zFk,List.foldl_append,← zFk,ih,hO,zPp,zHK]
  have hb:zTm n (zJg n w k n.n.length) k=true↔¬ (msl n (zJg n w k n.n.length)).length=0:=by
   rw [zTm,List.any_eq_true,List.length_eq_zero_iff,msl,List.map_eq_nil_iff,List.filter_eq_nil_iff]
   constructor
   ·rintro ⟨g,h1,h2⟩ h3
    simp only [Bool.and_eq_true] at h2
    exact h3 g h1 h2.2
   ·intro h3
    apply Classical.byContradiction
    intro h4
    refine h3 fun g hg hb=>h4 ⟨g,hg,?_⟩
    have v6:=hg
    simp only [zJg,List.mem_map] at v6
    obtain ⟨i,_,rfl⟩:=v6
    rw [hb];simp
  split
  ·rename_i h0
   rw [if_neg (fun h=>(hb.1 h) h0)]
  ·rename_i h0
   rw [if_pos (hb.2 h0),zTL jR]
theorem zV4 {n:Nw} {w:List Int}:zFk (msl n (zBl n w))=zEy (zTm n (zBl n w)) n.h.toNat:=by
 rw [zBl,zUw]
 refine zNJ fun h hh=>?_
 rw [Bool.eq_iff_iff]
 simp only [zTm,List.any_eq_true,Bool.and_eq_true,decide_eq_true_eq]
 constructor
 ·rintro ⟨g,h1,h2⟩
  exact ⟨g,List.mem_flatMap.2 ⟨h,List.mem_range.2 hh,h1⟩,h2⟩
 ·rintro ⟨g,h1,h2,h3⟩
  obtain ⟨k,h4,h5⟩:=List.mem_flatMap.1 h1
  have h6:=h5
  simp only [zJg,List.mem_map] at h6
  obtain ⟨i,_,rfl⟩:=h6
  obtain rfl:k=h:=by simp only at h2;omega
  exact ⟨_,h5,h2,h3⟩
end Go.Eng
namespace Go.Eng
open Go Go.Proofs
def zDJ (n:Nw):Int:=if zBt n.h n.l=0 then if zCB n.n=0 then if (!n.s.all fun x=>zIl n.h x)=true then 1 else if (!n.s.all fun x=>zDg x)=true then 4 else 0 else zCB n.n else zBt n.h n.l
theorem zVk {n:Nw} (h1:(!inB n.h 1 10)=false) (h2:¬ (n.l.length:Int)>15) (h3:(!inB n.n.length 1 8)=false) (h4:(!inB n.s.length 1 6)=false):zCP n=zDJ n:=by
 simp only [zCP,h1,h2,h3,h4,if_false];rfl
theorem zJy {α:Type} {p:α→Bool} {l:List α} {i:Nat} {d:α} (h:i<l.length) (hx:p (l.getD i d)=false):(l.all p)=false:=by
 rw [zAr h] at hx
 simp only [List.all_eq_false]
 exact ⟨_,List.getElem_mem h,by simp [hx]⟩
theorem zKq {α:Type} {p:α→Bool} {l:List α} {d:α} (h:∀ i,i<l.length→p (l.getD i d)=true):(l.all p)=true:=by
 simp only [List.all_eq_true]
 intro x hx
 obtain ⟨i,hi,rfl⟩:=List.getElem_of_mem hx
 have:=h i hi
 rwa [zAr hi] at this
theorem zPf {n:Nw} {i:Nat} (hi:i<n.l.length) (h:zGO n.h (n.l.getD i default)=false):zDJ n=1:=by
 have:zBt n.h n.l=1:=by simp only [zBt,zJy hi h];rfl
 simp only [zDJ,this];rfl
theorem zVs {n:Nw} {i:Nat} (ha:(n.l.all fun x=>zGO n.h x)=true) (hi:i<n.l.length) (h:zHM (n.l.getD i default)=false):zDJ n=8:=by
 have:zBt n.h n.l=8:=by simp only [zBt,ha,zJy hi h];rfl
 simp only [zDJ,this];rfl
theorem zVz {n:Nw} {i k:Nat} (ha:(n.l.all fun x=>zGO n.h x)=true) (hb:(n.l.all fun x=>zHM x)=true) (kD:k<i) (hi:i<n.l.length) (h:pr2 (n.l.getD i default)=pr2 (n.l.getD k default)):zDJ n=5:=by
 have hn:¬ (n.l.map pr2).Nodup:=fun yX=>by
  have:=(List.pairwise_iff_getElem.1 yX) k i (by simp;omega) (by simp;omega) kD
  rw [List.getElem_map,List.getElem_map] at this
  rw [zAr hi,zAr (by omega)] at h
  exact this h.symm
 have:zBt n.h n.l=5:=by simp only [zBt,ha,hb,hn,if_true,if_false]
 simp only [zDJ,this];rfl
theorem zV1 {n:Nw} (ha:(n.l.all fun x=>zGO n.h x)=true) (hb:(n.l.all fun x=>zHM x)=true) (h:∀ i,i<n.l.length→∀ k,k<i→pr2 (n.l.getD i default)≠pr2 (n.l.getD k default)):zBt n.h n.l=0:=by
 have hn:(n.l.map pr2).Nodup:=by
  refine List.pairwise_iff_getElem.2 fun k i h1 h2 kD=>?_
  simp only [List.length_map] at h1 h2
  have:=h i h2 k kD
  rw [zAr h2,zAr h1] at this
  simp only [List.getElem_map]
  exact fun e=>this e.symm
 simp only [zBt,ha,hb,hn,if_true]
theorem zVZ {n:Nw} (hl:zBt n.h n.l=0) {i:Nat} (hi:i<n.n.length) (h:inB (n.n.getD i default).1 (-1) ((i:Int)-1)=false):zDJ n=1:=by
 have:zNI n.n=false:=by
  simp only [zNI,List.all_eq_false]
  exact ⟨i,List.mem_range.2 hi,by rw [h];simp⟩
 have:zCB n.n=1:=by simp only [zCB,this];rfl
 simp only [zDJ,hl,this];rfl
theorem zYi {n:Nw} (h:∀ i,i<n.n.length→inB (n.n.getD i default).1 (-1) ((i:Int)-1)=true):zNI n.n=true:=by
 simp only [zNI,List.all_eq_true,List.mem_range];exact h
theorem zUp {l:List (Int×Bool)} {i:Nat} (hi:i<l.length) (hr:inB (l.getD i default).1 (-1) ((i:Int)-1)=true):zLU l i=true↔∃ k,k<i∧0≤(l.getD i default).1∧(l.getD i default).1=(l.getD k default).1:=by
 have hr:=zED hr
 simp only [zLU,Bool.and_eq_true,decide_eq_true_eq,List.any_eq_true]
 constructor
 ·rintro ⟨h1,x,h2,h3⟩
  obtain ⟨k,hk,rfl⟩:=List.getElem_of_mem h2
  rw [List.length_take] at hk
  refine ⟨k,by omega,by omega,?_⟩
  rw [zAr (l:=l) (i:=k) (by omega)]
  rw [List.getElem_take] at h3
  exact h3.symm
 ·rintro ⟨k,h1,h2,h3⟩
  refine ⟨by omega, (l.take i)[k]'(by rw [List.length_take]; omega), List.getElem_mem _, ?_⟩
  rw [List.getElem_take,h3,zAr (l:=l) (i:=k) (by omega)]
theorem zVH {n:Nw} (hl:zBt n.h n.l=0) (hn:zNI n.n=true) {i k:Nat} (kD:k<i) (hi:i<n.n.length) (h1:(n.n.getD i default).1≥0) (h2:(n.n.getD i default).1=(n.n.getD k default).1):zDJ n=5:=by
 have hr:inB (n.n.getD i default).1 (-1) ((i:Int)-1)=true:=by
  simp only [zNI,List.all_eq_true,List.mem_range] at hn;exact hn i hi
 have:(List.range n.n.length).any (zLU n.n)=true:=List.any_eq_true.2 ⟨i,List.mem_range.2 hi,(zUp hi hr).2 ⟨k,kD,h1,h2⟩⟩
 have:zCB n.n=5:=by simp only [zCB,hn,this,if_true]
 simp only [zDJ,hl,this];rfl
theorem zXb {n:Nw} (hn:zNI n.n=true) (h:∀ i,i<n.n.length→∀ k,k<i→¬ ((n.n.getD i default).1≥0∧(n.n.getD i default).1=(n.n.getD k default).1)):zCB n.n=0:=by
 have:(List.range n.n.length).any (zLU n.n)=false:=by
  simp only [List.any_eq_false,List.mem_range]
  intro i hi ht
  have hr:inB (n.n.getD i default).1 (-1) ((i:Int)-1)=true:=by
   simp only [zNI,List.all_eq_true,List.mem_range] at hn;exact hn i hi
  obtain ⟨k,h1,h2,h3⟩:=(zUp hi hr).1 ht
  exact h i hi k h1 ⟨h2,h3⟩
 simp only [zCB,hn,this,if_true];rfl
theorem zV2 {n:Nw} (hl:zBt n.h n.l=0) (hn:zCB n.n=0) {s i:Nat} (hs:s<n.s.length) (hi:i<(n.s.getD s []).length) (h:inB ((n.s.getD s []).getD i 0) 0 (n.h-1)=false):zDJ n=1:=by
 have:(n.s.all fun x=>zIl n.h x)=false:=zJy (d:=[]) hs (zJy (d:=0) hi h)
 simp only [zDJ,hl,hn,this];rfl
theorem zU9 {n:Nw} (hl:zBt n.h n.l=0) (hn:zCB n.n=0) (hs:(n.s.all fun x=>zIl n.h x)=true) {s i:Nat} (jf:s<n.s.length) (hi:i+1<(n.s.getD s []).length) (h:(n.s.getD s []).getD i 0≥(n.s.getD s []).getD (i+1) 0):zDJ n=4:=by
 have h1:zDg (n.s.getD s [])=false:=by
  rw [zHz]
  simp only [zTu,List.all_eq_false,List.mem_range,decide_eq_true_eq]
  exact ⟨i,by omega,by omega⟩
 have:(n.s.all fun x=>zDg x)=false:=zJy (d:=[]) jf h1
 simp only [zDJ,hl,hn,hs,this];rfl
theorem zWT {l:List Int} (h:∀ i,i+1<l.length→l.getD i 0<l.getD (i+1) 0):zDg l=true:=by
 rw [zHz]
 simp only [zTu,List.all_eq_true,List.mem_range,decide_eq_true_eq]
 exact fun i hi=>h i (by omega)
theorem zXs {n:Nw} (hl:zBt n.h n.l=0) (hn:zCB n.n=0) (hs:(n.s.all fun x=>zIl n.h x)=true) (ho:(n.s.all fun x=>zDg x)=true):zDJ n=0:=by
 simp only [zDJ,hl,hn,hs,ho];rfl
end Go.Eng
set_option maxRecDepth 10000
set_option maxHeartbeats 4000000
namespace Go.Eng
open Go Go.Proofs
theorem ntt {a:Bool} (h:(!a)=true):a=false:=by simpa using h
theorem ntf {a:Bool} (h:(!a)=false):a=true:=by simpa using h
theorem zWF {a b:Int×Int} (h:a.1=b.1∧a.2=b.2∨a.1=b.2∧a.2=b.1):pr2 a=pr2 b:=by
 obtain ⟨x,y⟩:=b
 exact zOq.2 h
theorem zVG {a b:Int×Int} (h:¬ (a.1=b.1∧a.2=b.2∨a.1=b.2∧a.2=b.1)):pr2 a≠pr2 b:=by
 obtain ⟨x,y⟩:=b
 exact fun e=>h (zOq.1 e)
theorem zGX {p:Nat→Prop} {i:Nat} (ha:∀ j,j<i→p j) (hi:p i):∀ j,j<i+1→p j:=fun j hj=>by
 rcases Nat.lt_succ_iff_lt_or_eq.1 hj with h | rfl
 ·exact ha j h
 ·exact hi
theorem f117 (n:Nw) (hs:Small n):FG 117 [nwV n] (I (zCP n)):=by
 refine zAf Tryz.f117 ?_
 have h1:=hs.hl
 have h2:=hs.hn
 have h3:=hs.hs
 refine zAb (zAa (zAd 2 (zAc (zAb (zAb (zAa (zAd 2 (S_a [(10,.ret (PV.bool !inB n.h 1 10) ([]))] (ap (f111 (n.h) (1) (10)) an) (zAd 1 (zDV 19 (!inB n.h 1 10) (fun k0=>(zAd 17 (zAc (zBT (zAb (zAa (zAd 1 (zAc (zAl (E_a [] an (I 2) ([]) ?_ rfl)))))))))) (fun k0=>(zAd 2 (S_a [(0,.n (n.l.length))] (ap (lnS prV n.l) an) (zAd 3 (zEw 25 ((↑n.l.length:Int)>15) (fun k1=>(zAd 11 (zAc (zBT (zAb (zAa (zAd 1 (zAc (zAl (E_a [] an (I 2) ([]) ?_ rfl)))))))))) (fun k1=>(zAd 2 (S_a [(0,.n (n.n.length))] (ap (lnS ntV n.n) an) (S_a [(10,.ret (PV.bool !inB (↑n.n.length:Int) 1 8) ([]))] (ap (f111 ((↑n.n.length:Int)) (1) (8)) an) (zAd 2 (zDV 31 (!inB (↑n.n.length:Int) 1 8) (fun k2=>(zAd 5 (zAc (zBT (zAb (zAa (zAd 1 (zAc (zAl (E_a [] an (I 2) ([]) ?_ rfl)))))))))) (fun k2=>(zAd 2 (S_a [(0,.n (n.s.length))] (ap (lnS zAY n.s) an) (S_a [(10,.ret (PV.bool !inB (↑n.s.length:Int) 1 6) ([]))] (ap (f111 ((↑n.s.length:Int)) (1) (6)) an) (zAd 1 (zAc (zD4 (!inB (↑n.s.length:Int) 1 6) (fun k3=>(zAb (zAa (zAd 1 (zAc (zAl (E_a [] an (I 2) ([]) ?_ rfl))))))) (fun k3=>(zAi (zAb (zAb (zAa (zAd 1 (zAc (zAh 0 ?_))))))))))))))))))))))))))))))))))))
 ·simp only [zCP,k0,if_true]
 ·simp only [zCP,k0,k1,if_true];rfl
 ·simp only [zCP,k0,k1,k2,if_true,if_false];rfl
 ·simp only [zCP,k0,k1,k2,k3,if_true,if_false];rfl
 rw [zVk k0 k1 k2 k3]
 have hh:=zED (ntf k0)
 have uH:=zED (ntf k2)
 clear k0 k1 k2 k3
 refine zAo (fun i=>i≤n.l.length∧∀ j,j<i→zGO n.h (n.l.getD j default)=true) (fun (i:Nat)=>[(3,I (i:Nat))]) (fun i=>n.l.length-i) (0:Nat) ⟨Nat.zero_le _,fun j hj=>absurd hj (Nat.not_lt_zero j)⟩ fun i ⟨hi,ha⟩=>?_
 by_cases yC:i<n.l.length
 ·have jT:=zGX ha
  clear ha
  refine zAb (zAb (zAa (zAd 3 (S_a [(0,.n (n.l.length))] (ap (lnS prV n.l) an) (zAd 1 (zAc (zAL ((↑i:Int)<(↑n.l.length:Int)) (by omega) (zAi (zAb (zAh 1 (zAb (zAa (zAd 3 (S_a [(2,.v (PV.agg [I (n.l.getD i default).fst,I (n.l.getD i default).snd]))] (ap (zBA (default) (by omega):(List.map prV n.l)[i]? = some (PV.agg [I (n.l.getD i default).fst,I (n.l.getD i default).snd])) an) (zAd 4 (S_a [(1,.v (I (n.h-1)))] (ap ((zDm rfl (by omega)):I (IntKind.i64.wrap (n.h-1))=I (n.h-1)) an) (S_a [(10,.ret (PV.bool !inB (n.l.getD i default).fst 0 (n.h-1)) ([]))] (ap (f111 ((n.l.getD i default).fst) (0) (n.h-1)) an) (zAd 1 (zDV 54 (!inB (n.l.getD i default).fst 0 (n.h-1)) (fun k0=>(zAd 11 (zAc (zBT (zAb (zAa (zAd 1 (zAc (zAl (E_a [] an (I 1) ([]) ?_ rfl)))))))))) (fun k0=>(zAd 3 (S_a [(2,.v (PV.agg [I (n.l.getD i default).fst,I (n.l.getD i default).snd]))] (ap (zBA (default) (by omega):(List.map prV n.l)[i]? = some (PV.agg [I (n.l.getD i default).fst,I (n.l.getD i default).snd])) an) (zAd 4 (S_a [(1,.v (I (n.h-1)))] (ap ((zDm rfl (by omega)):I (IntKind.i64.wrap (n.h-1))=I (n.h-1)) an) (S_a [(10,.ret (PV.bool !inB (n.l.getD i default).snd 0 (n.h-1)) ([]))] (ap (f111 ((n.l.getD i default).snd) (0) (n.h-1)) an) (zAd 1 (zAc (zD4 (!inB (n.l.getD i default).snd 0 (n.h-1)) (fun k1=>(zAb (zAa (zAd 1 (zAc (zAl (E_a [] an (I 1) ([]) ?_ rfl))))))) (fun k1=>(zAi (zAa (zAd 1 (S_a [(1,.v (I (↑(i+1):Int)))] (ap (wrN i) an) (zAd 1 (zAc ?_)))))))))))))))))))))))))))))))))))
  ·rw [zPf yC (by simp only [zGO,ntt k0,Bool.false_and])]
  ·rw [zPf yC (by simp only [zGO,ntt k1,Bool.and_false])]
  ·exact ⟨i+1,⟨by omega,jT (by simp only [zGO,ntf k0,ntf k1,Bool.true_and])⟩,by omega,by kernel_rfl,by kernel_rfl⟩
 have hA:(n.l.all fun x=>zGO n.h x)=true:=zKq fun i hi=>ha i (by omega)
 clear ha
 refine zAb (zAb (zAa (zAd 3 (S_a [(0,.n (n.l.length))] (ap (lnS prV n.l) an) (zAd 1 (zAc (zAO ((↑i:Int)<(↑n.l.length:Int)) (by omega) (zAv 0 (zAb (zAb (zAa (zAd 1 (zAc (zAh 2 ?_))))))))))))))
 refine zAo (fun i=>i≤n.l.length∧∀ j,j<i→zHM (n.l.getD j default)=true) (fun (i:Nat)=>[(4,I (i:Nat))]) (fun i=>n.l.length-i) (0:Nat) ⟨Nat.zero_le _,fun j hj=>absurd hj (Nat.not_lt_zero j)⟩ fun i ⟨hi,ha⟩=>?_
 by_cases yC:i<n.l.length
 ·have jT:=zGX ha
  clear ha
  refine zAb (zAb (zAa (zAd 3 (S_a [(0,.n (n.l.length))] (ap (lnS prV n.l) an) (zAd 1 (zAc (zAL ((↑i:Int)<(↑n.l.length:Int)) (by omega) (zAi (zAb (zAh 3 (zAb (zAa (zAd 3 (S_a [(2,.v (PV.agg [I (n.l.getD i default).fst,I (n.l.getD i default).snd]))] (ap (zBA (default) (by omega):(List.map prV n.l)[i]? = some (PV.agg [I (n.l.getD i default).fst,I (n.l.getD i default).snd])) an) (zAd 5 (S_a [(2,.v (PV.agg [I (n.l.getD i default).fst,I (n.l.getD i default).snd]))] (ap (zBA (default) (by omega):(List.map prV n.l)[i]? = some (PV.agg [I (n.l.getD i default).fst,I (n.l.getD i default).snd])) an) (zAd 3 (zAc (zBU ((n.l.getD i default).fst=(n.l.getD i default).snd) (fun k0=>(zAb (zAa (zAd 1 (zAc (zAl (E_a [] an (I 8) ([]) ?_ rfl))))))) (fun k0=>(zAi (zAa (zAd 1 (S_a [(1,.v (I (↑(i+1):Int)))] (ap (wrN i) an) (zAd 1 (zAc ?_))))))))))))))))))))))))))
  ·rw [zVs hA yC (by simp only [zHM,decide_eq_false_iff_not];exact fun h=>h k0)]
  ·exact ⟨i+1,⟨by omega,jT (by simp only [zHM,decide_eq_true_eq];exact k0)⟩,by omega,by kernel_rfl,by kernel_rfl⟩
 have hB:(n.l.all fun x=>zHM x)=true:=zKq fun i hi=>ha i (by omega)
 clear ha
 refine zAb (zAb (zAa (zAd 3 (S_a [(0,.n (n.l.length))] (ap (lnS prV n.l) an) (zAd 1 (zAc (zAO ((↑i:Int)<(↑n.l.length:Int)) (by omega) (zAv 2 (zAb (zAb (zAa (zAd 1 (zAc (zAh 4 ?_))))))))))))))
 refine zAo (fun i=>i≤n.l.length∧∀ j,j<i→∀ k,k<j→pr2 (n.l.getD j default)≠pr2 (n.l.getD k default)) (fun (i:Nat)=>[(5,I (i:Nat))]) (fun i=>n.l.length-i) (0:Nat) ⟨Nat.zero_le _,fun j hj=>absurd hj (Nat.not_lt_zero j)⟩ fun i ⟨hi,ha⟩=>?_
 by_cases yC:i<n.l.length
 ·have jT:=zGX ha
  clear ha
  refine zAb (zAb (zAa (zAd 3 (S_a [(0,.n (n.l.length))] (ap (lnS prV n.l) an) (zAd 1 (zAc (zAL ((↑i:Int)<(↑n.l.length:Int)) (by omega) (zAi (zAb (zAh 5 (zAb (zAa (zAd 1 (zAc (zAh 6 ?_)))))))))))))))
  refine zAo (fun k=>k≤i∧∀ j,j<k→pr2 (n.l.getD i default)≠pr2 (n.l.getD j default)) (fun (k:Nat)=>[(6,I (k:Nat))]) (fun k=>i-k) (0:Nat) ⟨Nat.zero_le _,fun j hj=>absurd hj (Nat.not_lt_zero j)⟩ fun k ⟨hk,hb⟩=>?_
  by_cases kD:k<i
  ·have kX:=zGX hb
   clear hb jT
   refine zAb (zAb (zAa (zAd 3 (zAc (zAL ((↑k:Int)<(↑i:Int)) (by omega) (zAi (zAb (zAh 7 (zAb (zAa (zAd 3 (S_a [(2,.v (PV.agg [I (n.l.getD i default).fst,I (n.l.getD i default).snd]))] (ap (zBA (default) (by omega):(List.map prV n.l)[i]? = some (PV.agg [I (n.l.getD i default).fst,I (n.l.getD i default).snd])) an) (zAd 4 (S_a [(2,.v (PV.agg [I (n.l.getD k default).fst,I (n.l.getD k default).snd]))] (ap (zBA (default) (by omega):(List.map prV n.l)[k]? = some (PV.agg [I (n.l.getD k default).fst,I (n.l.getD k default).snd])) an) (zAd 5 (zAc (zAb (zAa (zAd 1 (zAd 1 (zAd 1 (zAd 3 (zEw 113 ((n.l.getD i default).fst=(n.l.getD k default).fst) (fun k1=>(zAd 1 (zAd 1 (zAd 1 (zAd 4 (zEw 120 ((n.l.getD i default).snd=(n.l.getD k default).snd) (fun k2=>(zAd 13 (zAc (zBT (zAb (zAa (zAd 1 (zAc (zAl (E_a [] an (I 5) ([]) ?_ rfl)))))))))) (fun k2=>(zAd 1 (zAd 1 (zAd 1 (zAd 3 (zEw 126 ((n.l.getD i default).fst=(n.l.getD k default).snd) (fun k3=>(zAd 1 (zAd 1 (zAd 1 (zAd 4 (zAc (zAO ((n.l.getD i default).snd=(n.l.getD k default).fst) (by omega) (zAi (zAa (zAd 1 (S_a [(1,.v (I (↑(k+1):Int)))] (ap (wrN k) an) (zAd 1 (zAc ?_))))))))))))) (fun k3=>(zAd 7 (zAc (zAU (zAi (zAa (zAd 1 (S_a [(1,.v (I (↑(k+1):Int)))] (ap (wrN k) an) (zAd 1 (zAc ?_)))))))))))))))))))))) (fun k1=>(zAd 7 (zAd 1 (zAd 1 (zAd 1 (zAd 3 (zEw 126 ((n.l.getD i default).fst=(n.l.getD k default).snd) (fun k4=>(zAd 1 (zAd 1 (zAd 1 (zAd 4 (zAc (zBU ((n.l.getD i default).snd=(n.l.getD k default).fst) (fun k5=>(zAb (zAa (zAd 1 (zAc (zAl (E_a [] an (I 5) ([]) ?_ rfl))))))) (fun k5=>(zAi (zAa (zAd 1 (S_a [(1,.v (I (↑(k+1):Int)))] (ap (wrN k) an) (zAd 1 (zAc ?_)))))))))))))) (fun k4=>(zAd 7 (zAc (zAU (zAi (zAa (zAd 1 (S_a [(1,.v (I (↑(k+1):Int)))] (ap (wrN k) an) (zAd 1 (zAc ?_))))))))))))))))))))))))))))))))))))))))
   all_goals first
    | exact ⟨k+1,⟨by omega,kX (zVG (by omega))⟩,by omega,by kernel_rfl,by kernel_rfl⟩
    | (have h5:=zVz hA hB kD yC (zWF (by omega));rw [h5])
  ·have yR:=jT fun j hj=>hb j (by omega)
   clear hb jT
   refine zAb (zAb (zAa (zAd 3 (zAc (zAO ((↑k:Int)<(↑i:Int)) (by omega) (zAv 6 (zAa (zAd 1 (S_a [(1,.v (I (↑(i+1):Int)))] (ap (wrN i) an) (zAd 1 (zAc ?_)))))))))))
   exact ⟨i+1,⟨by omega,yR⟩,by omega,by kernel_rfl,by kernel_rfl⟩
 have hC:=zV1 hA hB fun i hi=>ha i (by omega)
 clear ha hA hB
 refine zAb (zAb (zAa (zAd 3 (S_a [(0,.n (n.l.length))] (ap (lnS prV n.l) an) (zAd 1 (zAc (zAO ((↑i:Int)<(↑n.l.length:Int)) (by omega) (zAv 4 (zAb (zAb (zAa (zAd 1 (zAc (zAh 8 ?_))))))))))))))
 refine zAo (fun i=>i≤n.n.length∧∀ j,j<i→inB (n.n.getD j default).1 (-1) ((j:Int)-1)=true) (fun (i:Nat)=>[(9,I (i:Nat))]) (fun i=>n.n.length-i) (0:Nat) ⟨Nat.zero_le _,fun j hj=>absurd hj (Nat.not_lt_zero j)⟩ fun i ⟨hi,ha⟩=>?_
 by_cases yC:i<n.n.length
 ·have jT:=zGX ha
  clear ha
  refine zAb (zAb (zAa (zAd 3 (S_a [(0,.n (n.n.length))] (ap (lnS ntV n.n) an) (zAd 1 (zAc (zAL ((↑i:Int)<(↑n.n.length:Int)) (by omega) (zAi (zAb (zAh 9 (zAb (zAa (zAd 3 (S_a [(2,.v (PV.agg [I (n.n.getD i default).fst,PV.bool (n.n.getD i default).snd]))] (ap (zBA (default) (by omega):(List.map ntV n.n)[i]? = some (PV.agg [I (n.n.getD i default).fst,PV.bool (n.n.getD i default).snd])) an) (zAd 3 (S_a [(1,.v (I ((↑i:Int)-1)))] (ap ((zDm rfl (by omega)):I (IntKind.i64.wrap ((↑i:Int)-1))=I ((↑i:Int)-1)) an) (S_a [(10,.ret (PV.bool !inB (n.n.getD i default).fst (-1) ((↑i:Int)-1)) ([]))] (ap (f111 ((n.n.getD i default).fst) (-1) ((↑i:Int)-1)) an) (zAc (zD4 (!inB (n.n.getD i default).fst (-1) ((↑i:Int)-1)) (fun k0=>(zAb (zAa (zAd 1 (zAc (zAl (E_a [] an (I 1) ([]) ?_ rfl))))))) (fun k0=>(zAi (zAa (zAd 1 (S_a [(1,.v (I (↑(i+1):Int)))] (ap (wrN i) an) (zAd 1 (zAc ?_))))))))))))))))))))))))))
  ·rw [zVZ hC yC (ntt k0)]
  ·exact ⟨i+1,⟨by omega,jT (ntf k0)⟩,by omega,by kernel_rfl,by kernel_rfl⟩
 have hD:=zYi (n:=n) fun i hi=>ha i (by omega)
 clear ha
 refine zAb (zAb (zAa (zAd 3 (S_a [(0,.n (n.n.length))] (ap (lnS ntV n.n) an) (zAd 1 (zAc (zAO ((↑i:Int)<(↑n.n.length:Int)) (by omega) (zAv 8 (zAb (zAb (zAa (zAd 1 (zAc (zAh 10 ?_))))))))))))))
 refine zAo (fun i=>i≤n.n.length∧∀ j,j<i→∀ k,k<j→¬ ((n.n.getD j default).1≥0∧(n.n.getD j default).1=(n.n.getD k default).1)) (fun (i:Nat)=>[(10,I (i:Nat))]) (fun i=>n.n.length-i) (0:Nat) ⟨Nat.zero_le _,fun j hj=>absurd hj (Nat.not_lt_zero j)⟩ fun i ⟨hi,ha⟩=>?_
 by_cases yC:i<n.n.length
 ·have jT:=zGX ha
  clear ha
  refine zAb (zAb (zAa (zAd 3 (S_a [(0,.n (n.n.length))] (ap (lnS ntV n.n) an) (zAd 1 (zAc (zAL ((↑i:Int)<(↑n.n.length:Int)) (by omega) (zAi (zAb (zAh 11 (zAb (zAa (zAd 1 (zAc (zAh 12 ?_)))))))))))))))
  refine zAo (fun k=>k≤i∧∀ j,j<k→¬ ((n.n.getD i default).1≥0∧(n.n.getD i default).1=(n.n.getD j default).1)) (fun (k:Nat)=>[(11,I (k:Nat))]) (fun k=>i-k) (0:Nat) ⟨Nat.zero_le _,fun j hj=>absurd hj (Nat.not_lt_zero j)⟩ fun k ⟨hk,hb⟩=>?_
  by_cases kD:k<i
  ·have kX:=zGX hb
   clear hb jT
   refine zAb (zAb (zAa (zAd 3 (zAc (zAL ((↑k:Int)<(↑i:Int)) (by omega) (zAi (zAb (zAh 13 (zAb (zAa (zAd 3 (S_a [(2,.v (PV.agg [I (n.n.getD i default).fst,PV.bool (n.n.getD i default).snd]))] (ap (zBA (default) (by omega):(List.map ntV n.n)[i]? = some (PV.agg [I (n.n.getD i default).fst,PV.bool (n.n.getD i default).snd])) an) (zAd 4 (zEw 169 ((n.n.getD i default).fst≥0) (fun k1=>(zAd 3 (S_a [(2,.v (PV.agg [I (n.n.getD i default).fst,PV.bool (n.n.getD i default).snd]))] (ap (zBA (default) (by omega):(List.map ntV n.n)[i]? = some (PV.agg [I (n.n.getD i default).fst,PV.bool (n.n.getD i default).snd])) an) (zAd 5 (S_a [(2,.v (PV.agg [I (n.n.getD k default).fst,PV.bool (n.n.getD k default).snd]))] (ap (zBA (default) (by omega):(List.map ntV n.n)[k]? = some (PV.agg [I (n.n.getD k default).fst,PV.bool (n.n.getD k default).snd])) an) (zAd 4 (zAc (zBU ((n.n.getD i default).fst=(n.n.getD k default).fst) (fun k2=>(zAb (zAa (zAd 1 (zAc (zAl (E_a [] an (I 5) ([]) ?_ rfl))))))) (fun k2=>(zAi (zAa (zAd 1 (S_a [(1,.v (I (↑(k+1):Int)))] (ap (wrN k) an) (zAd 1 (zAc ?_))))))))))))))) (fun k1=>(zAd 14 (zAc (zAU (zAi (zAa (zAd 1 (S_a [(1,.v (I (↑(k+1):Int)))] (ap (wrN k) an) (zAd 1 (zAc ?_))))))))))))))))))))))))
   all_goals first
    | exact ⟨k+1,⟨by omega,kX (by omega)⟩,by omega,by kernel_rfl,by kernel_rfl⟩
    | (have h5:=zVH hC hD kD yC (by assumption) (by assumption);rw [h5])
  ·have yR:=jT fun j hj=>hb j (by omega)
   clear hb jT
   refine zAb (zAb (zAa (zAd 3 (zAc (zAO ((↑k:Int)<(↑i:Int)) (by omega) (zAv 12 (zAa (zAd 1 (S_a [(1,.v (I (↑(i+1):Int)))] (ap (wrN i) an) (zAd 1 (zAc ?_)))))))))))
   exact ⟨i+1,⟨by omega,yR⟩,by omega,by kernel_rfl,by kernel_rfl⟩
 have hE:=zXb hD fun i hi=>ha i (by omega)
 clear ha
 refine zAb (zAb (zAa (zAd 3 (S_a [(0,.n (n.n.length))] (ap (lnS ntV n.n) an) (zAd 1 (zAc (zAO ((↑i:Int)<(↑n.n.length:Int)) (by omega) (zAv 10 (zAb (zAb (zAa (zAd 1 (zAc (zAh 14 ?_))))))))))))))
 refine zAo (fun s=>s≤n.s.length∧∀ j,j<s→zIl n.h (n.s.getD j [])=true) (fun (s:Nat)=>[(12,I (s:Nat))]) (fun s=>n.s.length-s) (0:Nat) ⟨Nat.zero_le _,fun j hj=>absurd hj (Nat.not_lt_zero j)⟩ fun s ⟨hi,ha⟩=>?_
 by_cases yC:s<n.s.length
 ·have jT:=zGX ha
  have wG:=zBC (d:=[]) hs.hr s yC
  clear ha
  refine zAb (zAb (zAa (zAd 3 (S_a [(0,.n (n.s.length))] (ap (lnS zAY n.s) an) (zAd 1 (zAc (zAL ((↑s:Int)<(↑n.s.length:Int)) (by omega) (zAi (zAb (zAh 15 (zAb (zAa (zAd 1 (zAc (zAh 16 ?_)))))))))))))))
  refine zAo (fun k=>k≤(n.s.getD s []).length∧∀ j,j<k→inB ((n.s.getD s []).getD j 0) 0 (n.h-1)=true) (fun (k:Nat)=>[(13,I (k:Nat))]) (fun k=>(n.s.getD s []).length-k) (0:Nat) ⟨Nat.zero_le _,fun j hj=>absurd hj (Nat.not_lt_zero j)⟩ fun k ⟨hk,hb⟩=>?_
  by_cases kD:k<(n.s.getD s []).length
  ·have kX:=zGX hb
   clear hb jT
   refine zAb (zAb (zAa (zAd 4 (S_a [(2,.v (PV.sl (List.map I (n.s.getD s []))))] (ap (zBA ([]) (by omega):(List.map zAY n.s)[s]? = some (PV.sl (List.map I (n.s.getD s [])))) an) (zAd 1 (S_a [(0,.n ((n.s.getD s []).length))] (ap (lnS I (n.s.getD s [])) an) (zAd 1 (zAc (zAL ((↑k:Int)<(↑(n.s.getD s []).length:Int)) (by omega) (zAi (zAb (zAh 17 (zAb (zAa (zAd 3 (S_a [(2,.v (PV.sl (List.map I (n.s.getD s []))))] (ap (zBA ([]) (by omega):(List.map zAY n.s)[s]? = some (PV.sl (List.map I (n.s.getD s [])))) an) (zAd 2 (S_a [(2,.v (I ((n.s.getD s []).getD k 0)))] (ap (zBA (0) (by omega):(List.map I (n.s.getD s []))[k]? = some (I ((n.s.getD s []).getD k 0))) an) (zAd 3 (S_a [(1,.v (I (n.h-1)))] (ap ((zDm rfl (by omega)):I (IntKind.i64.wrap (n.h-1))=I (n.h-1)) an) (S_a [(10,.ret (PV.bool !inB ((n.s.getD s []).getD k 0) 0 (n.h-1)) ([]))] (ap (f111 ((n.s.getD s []).getD k 0) (0) (n.h-1)) an) (zAc (zD4 (!inB ((n.s.getD s []).getD k 0) 0 (n.h-1)) (fun k1=>(zAb (zAa (zAd 1 (zAc (zAl (E_a [] an (I 1) ([]) ?_ rfl))))))) (fun k1=>(zAi (zAa (zAd 1 (S_a [(1,.v (I (↑(k+1):Int)))] (ap (wrN k) an) (zAd 1 (zAc ?_))))))))))))))))))))))))))))))
   ·rw [zV2 hC hE yC kD (ntt k1)]
   ·exact ⟨k+1,⟨by omega,kX (ntf k1)⟩,by omega,by kernel_rfl,by kernel_rfl⟩
  ·have yR:=jT (zKq (d:=0) fun j hj=>hb j (by omega))
   clear hb jT
   refine zAb (zAb (zAa (zAd 4 (S_a [(2,.v (PV.sl (List.map I (n.s.getD s []))))] (ap (zBA ([]) (by omega):(List.map zAY n.s)[s]? = some (PV.sl (List.map I (n.s.getD s [])))) an) (zAd 1 (S_a [(0,.n ((n.s.getD s []).length))] (ap (lnS I (n.s.getD s [])) an) (zAd 1 (zAc (zAO ((↑k:Int)<(↑(n.s.getD s []).length:Int)) (by omega) (zAv 16 (zAa (zAd 1 (S_a [(1,.v (I (↑(s+1):Int)))] (ap (wrN s) an) (zAd 1 (zAc ?_)))))))))))))))
   exact ⟨s+1,⟨by omega,yR⟩,by omega,by kernel_rfl,by kernel_rfl⟩
 have hF:(n.s.all fun x=>zIl n.h x)=true:=zKq (d:=[]) fun i hi=>ha i (by omega)
 clear ha
 refine zAb (zAb (zAa (zAd 3 (S_a [(0,.n (n.s.length))] (ap (lnS zAY n.s) an) (zAd 1 (zAc (zAO ((↑s:Int)<(↑n.s.length:Int)) (by omega) (zAv 14 (zAb (zAb (zAa (zAd 1 (zAc (zAh 18 ?_))))))))))))))
 refine zAo (fun s=>s≤n.s.length∧∀ j,j<s→zDg (n.s.getD j [])=true) (fun (s:Nat)=>[(14,I (s:Nat))]) (fun s=>n.s.length-s) (0:Nat) ⟨Nat.zero_le _,fun j hj=>absurd hj (Nat.not_lt_zero j)⟩ fun s ⟨hi,ha⟩=>?_
 by_cases yC:s<n.s.length
 ·have jT:=zGX ha
  have wG:=zBC (d:=[]) hs.hr s yC
  clear ha
  refine zAb (zAb (zAa (zAd 3 (S_a [(0,.n (n.s.length))] (ap (lnS zAY n.s) an) (zAd 1 (zAc (zAL ((↑s:Int)<(↑n.s.length:Int)) (by omega) (zAi (zAb (zAh 19 (zAb (zAa (zAd 1 (zAc (zAh 20 ?_)))))))))))))))
  refine zAo (fun m=>(m=0∨m+1≤(n.s.getD s []).length)∧∀ j,j<m→(n.s.getD s []).getD j 0<(n.s.getD s []).getD (j+1) 0) (fun (m:Nat)=>[(15,I ((m+1:Nat):Int))]) (fun m=>(n.s.getD s []).length-m) (0:Nat) ⟨.inl rfl,fun j hj=>absurd hj (Nat.not_lt_zero j)⟩ fun m ⟨hk,hb⟩=>?_
  by_cases kD:m+1<(n.s.getD s []).length
  ·have kX:=zGX hb
   clear hb jT
   refine zAb (zAb (zAa (zAd 4 (S_a [(2,.v (PV.sl (List.map I (n.s.getD s []))))] (ap (zBA ([]) (by omega):(List.map zAY n.s)[s]? = some (PV.sl (List.map I (n.s.getD s [])))) an) (zAd 1 (S_a [(0,.n ((n.s.getD s []).length))] (ap (lnS I (n.s.getD s [])) an) (zAd 1 (zAc (zAL ((↑(m+1):Int)<(↑(n.s.getD s []).length:Int)) (by omega) (zAi (zAb (zAh 21 (zAb (zAa (zAd 3 (S_a [(2,.v (PV.sl (List.map I (n.s.getD s []))))] (ap (zBA ([]) (by omega):(List.map zAY n.s)[s]? = some (PV.sl (List.map I (n.s.getD s [])))) an) (zAd 2 (S_a [(1,.v (I (↑(m+1-1):Int)))] (ap ((zDm (by omega) (by omega)):I (IntKind.i64.wrap ((↑(m+1):Int)-1))=I (↑(m+1-1):Int)) an) (S_a [(2,.v (I ((n.s.getD s []).getD m 0)))] (ap (zBA (0) (by omega):(List.map I (n.s.getD s []))[m]? = some (I ((n.s.getD s []).getD m 0))) an) (zAd 4 (S_a [(2,.v (PV.sl (List.map I (n.s.getD s []))))] (ap (zBA ([]) (by omega):(List.map zAY n.s)[s]? = some (PV.sl (List.map I (n.s.getD s [])))) an) (zAd 2 (S_a [(2,.v (I ((n.s.getD s []).getD (m+1) 0)))] (ap (zBA (0) (by omega):(List.map I (n.s.getD s []))[m+1]? = some (I ((n.s.getD s []).getD (m+1) 0))) an) (zAd 2 (zAc (zBU ((n.s.getD s []).getD m 0≥(n.s.getD s []).getD (m+1) 0) (fun k0=>(zAb (zAa (zAd 1 (zAc (zAl (E_a [] an (I 4) ([]) ?_ rfl))))))) (fun k0=>(zAi (zAa (zAd 1 (S_a [(1,.v (I (↑(m+1+1):Int)))] (ap ((zDm (by omega) (by omega)):I (IntKind.i64.wrap ((↑(m+1):Int)+1))=I (↑(m+1+1):Int)) an) (zAd 1 (zAc ?_)))))))))))))))))))))))))))))))))
   ·rw [zU9 hC hE hF yC kD k0]
   ·exact ⟨m+1,⟨.inr (by omega),kX (by omega)⟩,by omega,by kernel_rfl,by kernel_rfl⟩
  ·have yR:=jT (zWT fun j hj=>hb j (by omega))
   clear hb jT
   refine zAb (zAb (zAa (zAd 4 (S_a [(2,.v (PV.sl (List.map I (n.s.getD s []))))] (ap (zBA ([]) (by omega):(List.map zAY n.s)[s]? = some (PV.sl (List.map I (n.s.getD s [])))) an) (zAd 1 (S_a [(0,.n ((n.s.getD s []).length))] (ap (lnS I (n.s.getD s [])) an) (zAd 1 (zAc (zAO ((↑(m+1):Int)<(↑(n.s.getD s []).length:Int)) (by omega) (zAv 20 (zAa (zAd 1 (S_a [(1,.v (I (↑(s+1):Int)))] (ap (wrN s) an) (zAd 1 (zAc ?_)))))))))))))))
   exact ⟨s+1,⟨by omega,yR⟩,by omega,by kernel_rfl,by kernel_rfl⟩
 have hG:(n.s.all fun x=>zDg x)=true:=zKq (d:=[]) fun i hi=>ha i (by omega)
 have hR:=zXs hC hE hF hG
 clear ha
 refine zAb (zAb (zAa (zAd 3 (S_a [(0,.n (n.s.length))] (ap (lnS zAY n.s) an) (zAd 1 (zAc (zAO ((↑s:Int)<(↑n.s.length:Int)) (by omega) (zAv 18 (zAb (zAa (zAd 1 (zAc (zAl (E_a [] an (I 0) ([]) (by simp [*]) rfl))))))))))))))
end Go.Eng
set_option maxRecDepth 10000
set_option maxHeartbeats 4000000
namespace Go.Eng
open Go Go.Proofs
theorem f39 (n:Nw) (cs:List (Int×Int)) (hs:Small n) (hl:cs.length<1000000):FG 39 [nwV n,prs cs] (I (zBw n cs)):=by
 have h2:=hs.hn
 have h3:=hs.hs
 refine zAf Tryz.f39 ?_
 by_cases he:zCP n=0
 ·have hn:=zS8 he
  refine zAb (zAa (zAd 2 (zAc (zAb (zAb (zAa (zAd 1 (S_a [(6,.ret (I (zCP n)) ([]))] (ap (f117 (n) (by omega)) an) (zAd 1 (zAc (zAb (zAa (zAd 2 (zAc (zEc (zCP n=0) (by omega) (zAi (zAb (zAb (zAa (zAd 1 (S_a [(0,.n (cs.length))] (ap (lnS prV cs) an) (zAd 1 (zAc (zBU ((↑cs.length:Int)>16) (fun k0=>(zAb (zAa (zAd 1 (zAc (zAl (E_a [] an (I 2) ([]) ?_ rfl))))))) (fun k0=>(zAi (zAb (zAb (zAa (zAd 1 (zAc (zAh 0 ?_))))))))))))))))))))))))))))))))
  ·simp only [zBw,he,k0,if_true]
  have hx:zBw n cs=if (!cs.all fun c=>zGQ n c)=true then 1 else 0:=by simp only [zBw,he,k0,if_true,if_false]
  rw [hx]
  refine zAo (fun i=>i≤cs.length∧∀ j,j<i→zGQ n (cs.getD j default)=true) (fun (i:Nat)=>[(6,I (i:Nat))]) (fun i=>cs.length-i) (0:Nat) ⟨Nat.zero_le _,fun j hj=>absurd hj (Nat.not_lt_zero j)⟩ fun i ⟨hi,ha⟩=>?_
  by_cases yC:i<cs.length
  ·have jT:=zGX ha
   clear ha
   refine zAb (zAb (zAa (zAd 2 (S_a [(0,.n (cs.length))] (ap (lnS prV cs) an) (zAd 1 (zAc (zAL ((↑i:Int)<(↑cs.length:Int)) (by omega) (zAi (zAb (zAh 1 (zAb (zAa (zAd 2 (S_a [(2,.v (PV.agg [I (cs.getD i default).fst,I (cs.getD i default).snd]))] (ap (zBA (default) (by omega):(List.map prV cs)[i]? = some (PV.agg [I (cs.getD i default).fst,I (cs.getD i default).snd])) an) (zAd 4 (S_a [(0,.n (n.n.length))] (ap (lnS ntV n.n) an) (S_a [(1,.v (I ((↑n.n.length:Int)-1)))] (ap ((zDm rfl (by omega)):I (IntKind.i64.wrap ((↑n.n.length:Int)-1))=I ((↑n.n.length:Int)-1)) an) (S_a [(10,.ret (PV.bool !inB (cs.getD i default).fst 0 ((↑n.n.length:Int)-1)) ([]))] (ap (f111 ((cs.getD i default).fst) (0) ((↑n.n.length:Int)-1)) an) (zAd 1 (zDV 31 (!inB (cs.getD i default).fst 0 ((↑n.n.length:Int)-1)) (fun k1=>(zAd 11 (zAc (zBT (zAb (zAa (zAd 1 (zAc (zAl (E_a [] an (I 1) ([]) ?_ rfl)))))))))) (fun k1=>(zAd 2 (S_a [(2,.v (PV.agg [I (cs.getD i default).fst,I (cs.getD i default).snd]))] (ap (zBA (default) (by omega):(List.map prV cs)[i]? = some (PV.agg [I (cs.getD i default).fst,I (cs.getD i default).snd])) an) (zAd 4 (S_a [(0,.n (n.s.length))] (ap (lnS zAY n.s) an) (S_a [(1,.v (I ((↑n.s.length:Int)-1)))] (ap ((zDm rfl (by omega)):I (IntKind.i64.wrap ((↑n.s.length:Int)-1))=I ((↑n.s.length:Int)-1)) an) (S_a [(10,.ret (PV.bool !inB (cs.getD i default).snd 0 ((↑n.s.length:Int)-1)) ([]))] (ap (f111 ((cs.getD i default).snd) (0) ((↑n.s.length:Int)-1)) an) (zAd 1 (zAc (zD4 (!inB (cs.getD i default).snd 0 ((↑n.s.length:Int)-1)) (fun k2=>(zAb (zAa (zAd 1 (zAc (zAl (E_a [] an (I 1) ([]) ?_ rfl))))))) (fun k2=>(zAi (zAa (zAd 1 (S_a [(1,.v (I (↑(i+1):Int)))] (ap (wrN i) an) (zAd 1 (zAc ?_)))))))))))))))))))))))))))))))))))))
   ·rw [zJy (d:=default) yC (by simp only [zGQ,ntt k1,Bool.false_and])];rfl
   ·rw [zJy (d:=default) yC (by simp only [zGQ,ntt k2,Bool.and_false])];rfl
   ·exact ⟨i+1,⟨by omega,jT (by simp only [zGQ,ntf k1,ntf k2,Bool.true_and])⟩,by omega,by kernel_rfl,by kernel_rfl⟩
  have hA:(cs.all fun c=>zGQ n c)=true:=zKq fun i hi=>ha i (by omega)
  clear ha
  rw [hA]
  refine zAb (zAb (zAa (zAd 2 (S_a [(0,.n (cs.length))] (ap (lnS prV cs) an) (zAd 1 (zAc (zAO ((↑i:Int)<(↑cs.length:Int)) (by omega) (zAv 0 (zAb (zAa (zAd 1 (zAc (zAl (E_a [] an (I 0) ([]) rfl rfl))))))))))))))
 ·refine zAb (zAa (zAd 2 (zAc (zAb (zAb (zAa (zAd 1 (S_a [(6,.ret (I (zCP n)) ([]))] (ap (f117 (n) (by omega)) an) (zAd 1 (zAc (zAb (zAa (zAd 2 (zAc (zCj (zCP n=0) (by omega) (zAb (zAa (zAd 2 (zAc (zAl (E_a [] an (I (zCP n)) ([]) ?_ rfl)))))))))))))))))))))
  simp only [zBw,he,if_false]
theorem f93 (n:Nw) (cs:List (Int×Int)) (e:Int) (hs:Small n) (hl:cs.length<1000000):FG 93 [nwV n,prs cs,I e] (I (zB7 n cs e)):=by
 refine zAf Tryz.f93 ?_
 by_cases he:zBw n cs=0
 ·refine zAb (zAa (zAd 2 (zAc (zAb (zAb (zAa (zAd 2 (S_a [(8,.ret (I (zBw n cs)) ([]))] (ap (f39 (n) (cs) (by omega) (by omega)) an) (zAd 1 (zAc (zAb (zAa (zAd 2 (zAc (zEc (zBw n cs=0) (by omega) (zAi (zAb (zAb (zAa (zAd 1 (S_a [(10,.ret (PV.bool !inB e 0 12) ([]))] (ap (f111 (e) (0) (12)) an) (zAc (zD4 (!inB e 0 12) (fun k0=>(zAb (zAa (zAd 1 (zAc (zAl (E_a [] an (I 3) ([]) ?_ rfl))))))) (fun k0=>(zAi (zAb (zAa (zAd 1 (zAc (zAl (E_a [] an (I 0) ([]) ?_ rfl)))))))))))))))))))))))))))))))
  ·simp only [zB7,he,ntt k0,if_true];rfl
  ·simp only [zB7,he,ntf k0,if_true]
 ·refine zAb (zAa (zAd 2 (zAc (zAb (zAb (zAa (zAd 2 (S_a [(8,.ret (I (zBw n cs)) ([]))] (ap (f39 (n) (cs) (by omega) (by omega)) an) (zAd 1 (zAc (zAb (zAa (zAd 2 (zAc (zCj (zBw n cs=0) (by omega) (zAb (zAa (zAd 2 (zAc (zAl (E_a [] an (I (zBw n cs)) ([]) ?_ rfl)))))))))))))))))))))
  simp only [zB7,he,if_false]
theorem zXQ {n:Nw} {A B:List (List Bool)} {h i:Nat} (hh:h<n.h.toNat) (hi:i<n.n.length) (hx:zJW n A h i≠zJW n B h i):zSL n A B=false:=by
 simp only [zSL,List.all_eq_false]
 refine ⟨h,List.mem_range.2 hh,?_⟩
 simp only [zZl,List.all_eq_true]
 intro h2
 exact hx (beq_iff_eq.1 (h2 i (List.mem_range.2 hi)))
theorem f102 (n:Nw) (A B:List (List Bool)) (ho:NwOk n) (hA:∃ w,RelK n A w) (hB:∃ w,RelK n B w):FG 102 [nwV n,knV A,knV B] (.bool (zSL n A B)):=by
 have hb:=ho.h
 have uH:=ho.nl
 refine zAf Tryz.f102 ?_
 refine zAb (zAa (zAd 2 (zAc (zAb (zAb (zAa (zAd 1 (zAc (zAh 0 ?_)))))))))
 refine zAo (fun h=>h≤n.h.toNat∧∀ j,j<h→zZl n A B j=true) (fun (h:Nat)=>[(7,I (h:Nat))]) (fun h=>n.h.toNat-h) (0:Nat) ⟨Nat.zero_le _,fun j hj=>absurd hj (Nat.not_lt_zero j)⟩ fun h ⟨hh,ha⟩=>?_
 by_cases qC:(h:Int)<n.h
 ·have jT:=zGX ha
  clear ha
  refine zAb (zAb (zAa (zAd 4 (zAc (zAL ((↑h:Int)<n.h) (by omega) (zAi (zAb (zAh 1 (zAb (zAa (zAd 1 (zAc (zAh 2 ?_)))))))))))))
  refine zAo (fun i=>i≤n.n.length∧∀ j,j<i→(zJW n A h j==zJW n B h j)=true) (fun (i:Nat)=>[(8,I (i:Nat))]) (fun i=>n.n.length-i) (0:Nat) ⟨Nat.zero_le _,fun j hj=>absurd hj (Nat.not_lt_zero j)⟩ fun i ⟨hi,ha⟩=>?_
  by_cases yC:(i:Int)<n.n.length
  ·have kX:=zGX ha
   clear ha jT
   refine zAb (zAb (zAa (zAd 3 (S_a [(0,.n (n.n.length))] (ap (lnS ntV n.n) an) (zAd 1 (zAc (zAL ((↑i:Int)<(↑n.n.length:Int)) (by omega) (zAi (zAb (zAh 3 (zAb (zAa (zAd 4 (S_a [(12,.ret (PV.bool (zJW n A h i)) ([]))] (ap (f113 (n) (A) (h) (i) (by omega) (by omega) (by first | omega | (simp<;>omega)) (by first | omega | (simp<;>omega))) an) (zAd 4 (S_a [(12,.ret (PV.bool (zJW n B h i)) ([]))] (ap (f113 (n) (B) (h) (i) (by omega) (by omega) (by first | omega | (simp<;>omega)) (by first | omega | (simp<;>omega))) an) (zAd 1 (zAc (zD4 (!zJW n A h i==zJW n B h i) (fun k0=>(zAb (zAa (zAd 1 (zAc (zAl (E_a [] an (PV.bool false) ([]) ?_ rfl))))))) (fun k0=>(zAi (zAa (zAd 1 (S_a [(1,.v (I (↑(i+1):Int)))] (ap (wrN i) an) (zAd 1 (zAc ?_))))))))))))))))))))))))))
   ·rw [zXQ (by omega) (by omega) (beq_eq_false_iff_ne.1 (ntt k0))]
   ·exact ⟨i+1,⟨by omega,kX (ntf k0)⟩,by omega,by kernel_rfl,by kernel_rfl⟩
  ·have yR:=jT (List.all_eq_true.2 fun j hj=>ha j (by have:=List.mem_range.1 hj;omega))
   clear ha jT
   refine zAb (zAb (zAa (zAd 3 (S_a [(0,.n (n.n.length))] (ap (lnS ntV n.n) an) (zAd 1 (zAc (zAO ((↑i:Int)<(↑n.n.length:Int)) (by omega) (zAv 2 (zAa (zAd 1 (S_a [(1,.v (I (↑(h+1):Int)))] (ap (wrN h) an) (zAd 1 (zAc ?_)))))))))))))
   exact ⟨h+1,⟨by omega,yR⟩,by omega,by kernel_rfl,by kernel_rfl⟩
 have hx:zSL n A B=true:=List.all_eq_true.2 fun j hj=>ha j (by have:=List.mem_range.1 hj;omega)
 clear ha
 refine zAb (zAb (zAa (zAd 4 (zAc (zAO ((↑h:Int)<n.h) (by omega) (zAv 0 (zAb (zAa (zAd 1 (zAc (zAl (E_a [] an (PV.bool true) ([]) (by simp [*]) rfl))))))))))))
theorem f23_1 (n:Nw) (cs:List (Int×Int)) (e:Int) (ho:EvOk n cs e):FG 23 [nwV n,prs cs,I e] (.tup [.own 2 ((zBl n (zAV n cs e.toNat)).map prV),I 0]):=by
 have hc:=ho.cr
 have kj:=hc.w
 have hn:=hc.nw
 have jh:=hn.small
 have he:=ho.ev
 have yu:=ho.err
 have hX:=hc.len
 have wG:∃ w,RelK n (zCL n cs e.toNat) w:=⟨_,zEv kj _⟩
 rw [← zUC hn (zEv kj e.toNat)]
 refine zAf Tryz.f23 ?_
 refine zAb (zAa (zAd 3 (zAc (zAb (zAb (zAa (zAd 3 (S_a [(10,.ret (I (zB7 n cs e)) ([]))] (ap (f93 (n) (cs) (e) (by omega) (by omega)) an) (zAd 1 (zAc (zAb (zAa (zAd 2 (zAc (zEc (zB7 n cs e=0) (by omega) (zAi (zAb (zAa (zAd 4 (S_a [(10,.ret (PV.own 1 (List.map lsB (zCL n cs e.toNat))) ([]))] (ap (f95 (n) (cs) (e) (by omega) (by omega)) an) (S_a [(5,.ob),(0,.v (PV.sl (List.map bls (zCL n cs e.toNat)))),(2,.ret (PV.own 2 (List.map prV (gpN n (zCL n cs e.toNat) n.h.toNat))) ([])),(1,.yes)] (ap (blz (List.map lsB (zCL n cs e.toNat))) (ap (frC lsB bls (zCL n cs e.toNat)) (ap (f94 (n) (zCL n cs e.toNat) (by omega) (by omega)) (ap ((by exact zDE _):(PV.own 2 (List.map prV (gpN n (zCL n cs e.toNat) n.h.toNat))).free=true) an)))) (zAd 2 (zAc (zAl (E_a [(1,.yes),(1,.v (PV.own 2 (List.map prV (gpN n (zCL n cs e.toNat) n.h.toNat))))] (ap (blz (List.map prV (gpN n (zCL n cs e.toNat) n.h.toNat))) (ap ((zAR zAK):PV.own 2 (List.take (List.map prV (gpN n (zCL n cs e.toNat) n.h.toNat)).length (List.drop 0 (List.map prV (gpN n (zCL n cs e.toNat) n.h.toNat))))=PV.own 2 (List.map prV (gpN n (zCL n cs e.toNat) n.h.toNat))) an)) (PV.tup [PV.own 2 (List.map prV (gpN n (zCL n cs e.toNat) n.h.toNat)),I 0]) ([]) rfl rfl)))))))))))))))))))))))))
theorem f23_2 (n:Nw) (cs:List (Int×Int)) (e:Int) (hs:Small n) (hl:cs.length<1000000) (ho:¬ zB7 n cs e=0):FG 23 [nwV n,prs cs,I e] (.tup [.own 2 [],I (zB7 n cs e)]):=by
 refine zAf Tryz.f23 ?_
 refine zAb (zAa (zAd 3 (zAc (zAb (zAb (zAa (zAd 3 (S_a [(10,.ret (I (zB7 n cs e)) ([]))] (ap (f93 (n) (cs) (e) (by omega) (by omega)) an) (zAd 1 (zAc (zAb (zAa (zAd 2 (zAc (zCj (zB7 n cs e=0) (by omega) (zAb (zAa (zAd 3 (zAc (zAl (E_a [] an (PV.tup [PV.own 2 [],I (zB7 n cs e)]) ([]) rfl rfl)))))))))))))))))))))
end Go.Eng
set_option maxRecDepth 10000
set_option maxHeartbeats 4000000
namespace Go.Eng
open Go Go.Proofs
theorem zTG {α:Type} {p:α→Bool} {l:List α} {i:Nat} {d:α} (h:i<l.length):(l.take (i+1)).any p=((l.take i).any p||p (l.getD i d)):=by
 rw [zBO (d:=d) h,List.any_append,List.any_cons,List.any_nil,Bool.or_false]
def msB (n:Nw) (h:Nat) (g:Int×Int):Bool:=decide (g.1=(h:Int)) && !(n.n.getD g.2.toNat default).2
theorem f27_1 (n:Nw) (cs:List (Int×Int)) (e:Int) (ho:EvOk n cs e):FG 27 [nwV n,prs cs,I e] (.tup [.own 1 ((zFk (msl n (zBl n (zAV n cs e.toNat)))).map I),I 0]):=by
 have hn:=ho.cr.nw
 have hb:=hn.h
 have uH:=hn.nl
 have hX:=zEU (w:=zAV n cs e.toNat) hn
 have y1:∀ g∈zBl n (zAV n cs e.toNat),0≤g.2∧g.2<n.n.length:=fun g hg=>by
  obtain ⟨h,i,h1,h2,rfl,_⟩:=zRd hg
  simp only;omega
 have h1:=f23_1 n cs e ho
 rw [zV4]
 generalize zBl n (zAV n cs e.toNat)=G at *
 refine zAf Tryz.f27 ?_
 refine zAb (zAa (zAd 3 (zAc (zAb (zAa (zAd 3 (S_a [(10,.ret (PV.tup [PV.own 2 (List.map prV G),I 0]) ([]))] (ap (h1) an) (zAd 5 (zAc (zAb (zAb (zAa (zAd 2 (zAc (zAU (zAi (zAb (zAa (zAd 1 (zAc (zAb (zAb (zAa (zAd 1 (zAc (zAh 0 ?_))))))))))))))))))))))))))
 clear h1
 refine zAo (fun (h,L)=>h≤n.h.toNat∧L=zEy (zTm n G) h) (fun (h,L)=>[(10,.own 1 (L.map I)),(11,I (h:Nat))]) (fun (h,_)=>n.h.toNat-h) ((0:Nat),([]:List Int)) ⟨Nat.zero_le _,rfl⟩ fun (h,L) ⟨hh,hL⟩=>?_
 have hLl:L.length≤h:=by rw [hL];exact zMe
 by_cases qC:(h:Int)<n.h
 ·have yg:=zHK (p:=zTm n G) (k:=h)
  rw [← hL] at yg
  clear hL
  refine zAb (zAb (zAa (zAd 4 (zAc (zAL ((↑h:Int)<n.h) (by omega) (zAi (zAb (zAh 1 (zAb (zAa (zAd 1 (zAc (zAb (zAb (zAa (zAd 1 (zAc (zAh 2 ?_))))))))))))))))))
  refine zAo (fun (i,b)=>i≤G.length∧b=(G.take i).any (msB n h)) (fun (i,b)=>[(12,.bool b),(13,I (i:Nat))]) (fun (i,_)=>G.length-i) ((0:Nat),false) ⟨Nat.zero_le _,rfl⟩ fun (i,b) ⟨hi,qY⟩=>?_
  by_cases yC:i<G.length
  ·have yR:=zTG (p:=msB n h) (d:=default) yC
   rw [← qY] at yR
   have hgi:=zBC (d:=default) y1 i yC
   clear qY yg y1
   refine zAb (zAb (zAa (zAd 2 (S_a [(0,.n (G.length))] (ap (lnS prV G) an) (zAd 1 (zAc (zAL ((↑i:Int)<(↑G.length:Int)) (by omega) (zAi (zAb (zAh 3 (zAa (zAd 2 (zDV 37 (b) (fun k0=>(zAd 22 (zAc (zAa (zAd 1 (S_a [(1,.v (I (↑(i+1):Int)))] (ap (wrN i) an) (zAd 1 (zAc ?_)))))))) (fun k0=>(zAd 2 (S_a [(2,.ob),(1,.n (i))] (ap ((by exact zAp (by simp only [List.length_map,zzLn]<;>omega)):decide (i<(List.map prV G).length)=true) (ap ((by simp):some (0+i)=some i) an)) (zAd 1 (S_a [(0,.cs true ([I (G.getD i default).fst]))] (ap (zDk (q:=PV.own 2 (List.map prV G)) (xs:=List.map prV G) (x:=PV.agg [I (G.getD i default).fst,I (G.getD i default).snd]) rfl (zBA (default) (by omega)):zAt 8 (PV.own 2 (List.map prV G)) [] i 0 1=some (true,[I (G.getD i default).fst])) an) (zAd 3 (zEw 45 ((G.getD i default).fst=(↑h:Int)) (fun k1=>(zAd 4 (S_a [(2,.ob),(1,.n (i))] (ap ((by exact zAp (by simp only [List.length_map,zzLn]<;>omega)):decide (i<(List.map prV G).length)=true) (ap ((by simp):some (0+i)=some i) an)) (zAd 1 (S_a [(0,.cs true ([I (G.getD i default).snd]))] (ap (zDk (q:=PV.own 2 (List.map prV G)) (xs:=List.map prV G) (x:=PV.agg [I (G.getD i default).fst,I (G.getD i default).snd]) rfl (zBA (default) (by omega)):zAt 8 (PV.own 2 (List.map prV G)) [] i 1 1=some (true,[I (G.getD i default).snd])) an) (S_a [(0,.ob),(1,.v (PV.agg [I (n.n.getD (G.getD i default).snd.toNat default).fst,PV.bool (n.n.getD (G.getD i default).snd.toNat default).snd]))] (ap ((by exact zAp (by omega)):decide (0≤(G.getD i default).snd)=true) (ap (zBA (default) (by omega):(List.map ntV n.n)[(G.getD i default).snd.toNat]? = some (PV.agg [I (n.n.getD (G.getD i default).snd.toNat default).fst,PV.bool (n.n.getD (G.getD i default).snd.toNat default).snd])) an)) (zAd 6 (zAc (zAa (zAd 1 (S_a [(1,.v (I (↑(i+1):Int)))] (ap (wrN i) an) (zAd 1 (zAc ?_))))))))))))) (fun k1=>(zAd 14 (zAc (zAa (zAd 1 (S_a [(1,.v (I (↑(i+1):Int)))] (ap (wrN i) an) (zAd 1 (zAc ?_))))))))))))))))))))))))))))
   ·exact ⟨(i+1,true),⟨by omega,by rw [yR,k0];rfl⟩,by simp only;omega,by kernel_rfl,by kernel_rfl⟩
   ·exact ⟨(i+1,!(n.n.getD (G.getD i default).2.toNat default).2),⟨by omega,by rw [yR,k0,msB,decide_eq_true k1];rfl⟩,by simp only;omega,by kernel_rfl,by kernel_rfl⟩
   ·exact ⟨(i+1,false),⟨by omega,by rw [yR,k0,msB,decide_eq_false k1];rfl⟩,by simp only;omega,by kernel_rfl,by kernel_rfl⟩
  ·have hm:zTm n G h=b:=by rw [qY,List.take_of_length_le (by omega)];rfl
   rw [hm] at yg
   clear qY y1
   refine zAb (zAb (zAa (zAd 2 (S_a [(0,.n (G.length))] (ap (lnS prV G) an) (zAd 1 (zAc (zAO ((↑i:Int)<(↑G.length:Int)) (by omega) (zAv 2 (zAb (zAa (zAd 1 (zAc (zD4 (b) (fun k0=>(zAa (zAd 3 (S_a [(4,.ob),(0,.ob),(0,.yes),(2,.v (PV.own 1 (List.map I (L++[(↑h:Int)]))))] (ap (blz (List.map I L)) (ap ((by exact zBs (by simp only [List.length_map,zzLn,zA1]<;>omega)):((List.map I L).length + [I (↑h:Int)].length).ble zA1=true) (ap ((by exact zBr (by simp<;>omega)):(0+(List.map I L).length).beq (List.map I L).length=true) (ap ((zAR (zCv (by kernel_rfl))):PV.own 1 (List.map I L++[I (↑h:Int)])=PV.own 1 (List.map I (L++[(↑h:Int)]))) an)))) (zAd 1 (zAc (zAa (zAd 1 (S_a [(1,.v (I (↑(h+1):Int)))] (ap (wrN h) an) (zAd 1 (zAc ?_))))))))))) (fun k0=>(zAi (zAa (zAd 1 (S_a [(1,.v (I (↑(h+1):Int)))] (ap (wrN h) an) (zAd 1 (zAc ?_))))))))))))))))))))
   ·exact ⟨(h+1,L++[(h:Int)]),⟨by omega,by rw [yg,if_pos k0]⟩,by simp only;omega,by kernel_rfl,by kernel_rfl⟩
   ·exact ⟨(h+1,L),⟨by omega,by rw [yg,if_neg (by rw [k0];simp)]⟩,by simp only;omega,by kernel_rfl,by kernel_rfl⟩
 ·have e2:h=n.h.toNat:=by omega
  subst e2
  rw [← hL]
  clear hL y1
  refine zAb (zAb (zAa (zAd 4 (zAc (zAO ((↑n.h.toNat:Int)<n.h) (by omega) (zAv 0 (zAb (zAa (zAd 1 (S_a [(2,.yes)] (ap ((by exact zBr (by simp<;>omega)):(Nat.beq 0 0&&(List.map I L).length.beq (List.map I L).length)=true) an) (zAd 1 (zAc (zAl (E_a [(1,.yes),(1,.v (PV.own 1 (List.map I L)))] (ap (blz (List.map I L)) (ap ((zAR zAK):PV.own 1 (List.take (List.map I L).length (List.drop 0 (List.map I L)))=PV.own 1 (List.map I L)) an)) (PV.tup [PV.own 1 (List.map I L),I 0]) ([]) rfl rfl))))))))))))))
theorem f27_2 (n:Nw) (cs:List (Int×Int)) (e:Int) (hs:Small n) (hl:cs.length<1000000) (ho:¬ zB7 n cs e=0):FG 27 [nwV n,prs cs,I e] (.tup [.own 1 [],I (zB7 n cs e)]):=by
 refine zAf Tryz.f27 ?_
 refine zAb (zAa (zAd 3 (zAc (zAb (zAa (zAd 3 (S_a [(10,.ret (PV.tup [PV.own 2 [],I (zB7 n cs e)]) ([]))] (ap (f23_2 (n) (cs) (e) (by omega) (by omega) (by omega)) an) (zAd 5 (zAc (zAb (zAb (zAa (zAd 2 (zAc (zCj (zB7 n cs e=0) (by omega) (zAb (zAa (zAd 3 (zAc (zAl (E_a [] an (PV.tup [PV.own 1 [],I (zB7 n cs e)]) ([]) rfl rfl)))))))))))))))))))))
theorem f30_1 (n:Nw) (cs:List (Int×Int)) (k:Nat) (ho:CrOk n cs) (hk:k≤20) (he:zAV n cs (k+1)=zAV n cs k) (hm:∀ j,j<k→zAV n cs (j+1)≠zAV n cs j):FG 30 [nwV n,prs cs] (.tup [I k,I 0]):=by
 have kj:=ho.w
 have hn:=ho.nw
 have jh:=hn.small
 have yu:=ho.err
 have hX:=ho.len
 have yE:=zVw kj hk he hm
 have hr20:∃ w,RelK n (zCL n cs 20) w:=⟨_,zEv kj _⟩
 clear he hm
 refine zAf Tryz.f30 ?_
 refine zAb (zAa (zAd 3 (zAc (zAb (zAb (zAa (zAd 2 (S_a [(8,.ret (I (zBw n cs)) ([]))] (ap (f39 (n) (cs) (by omega) (by omega)) an) (zAd 1 (zAc (zAb (zAa (zAd 2 (zAc (zEc (zBw n cs=0) (by omega) (zAi (zAb (zAa (zAd 1 (zAc (zAb (zAa (zAd 2 (S_a [(10,.ret (PV.own 1 (List.map lsB (zCL n cs (Int.toNat 20)))) ([]))] (ap (f95 (n) (cs) (20) (by omega) (by omega)) an) (zAd 1 (zAc (zAb (zAb (zAa (zAd 1 (zAc (zAh 0 ?_))))))))))))))))))))))))))))))))
 refine zAo (fun i=>i≤20) (fun (i:Nat)=>[(7,I (zUE n cs i)),(9,I (i:Nat))]) (fun i=>20-i) (0:Nat) (by omega) fun i hi=>?_
 have ql:∃ w,RelK n (zCL n cs i) w:=⟨_,zEv kj _⟩
 by_cases yC:i<20
 ·have yR:=zJ5 (n:=n) (cs:=cs) (k:=i)
  refine zAb (zAb (zAa (zAd 2 (zAc (zAL ((↑i:Int)<20) (by omega) (zAi (zAb (zAh 1 (zAb (zAa (zAd 4 (S_a [(10,.ret (PV.own 1 (List.map lsB (zCL n cs (↑i:Int).toNat))) ([]))] (ap (f95 (n) (cs) ((↑i:Int)) (by omega) (by omega)) an) (zAd 1 (S_a [(5,.ob),(0,.v (PV.sl (List.map bls (zCL n cs (↑i:Int).toNat)))),(1,.ob),(0,.v (PV.sl (List.map bls (zCL n cs (Int.toNat 20))))),(2,.ret (PV.bool (zSL n (zCL n cs (↑i:Int).toNat) (zCL n cs (Int.toNat 20)))) ([]))] (ap (blz (List.map lsB (zCL n cs (↑i:Int).toNat))) (ap (frC lsB bls (zCL n cs (↑i:Int).toNat)) (ap (blz (List.map lsB (zCL n cs (Int.toNat 20)))) (ap (frC lsB bls (zCL n cs (Int.toNat 20))) (ap (f102 (n) (zCL n cs (↑i:Int).toNat) (zCL n cs (Int.toNat 20)) (by omega) (by assumption) (by assumption)) an))))) (zAd 1 (zAc (zD4 (!zSL n (zCL n cs (↑i:Int).toNat) (zCL n cs (Int.toNat 20))) (fun k1=>(zAa (zAd 1 (S_a [(1,.v (I (↑(i+1):Int)))] (ap (wrN i) an) (zAd 1 (zAc (zAa (zAd 1 (S_a [(1,.v (I (↑(i+1):Int)))] (ap (wrN i) an) (zAd 1 (zAc ?_))))))))))) (fun k1=>(zAi (zAa (zAd 1 (S_a [(1,.v (I (↑(i+1):Int)))] (ap (wrN i) an) (zAd 1 (zAc ?_))))))))))))))))))))))))
  ·rw [if_neg (by have:=ntt k1;simpa using this)] at yR
   exact ⟨i+1,by omega,by omega,by rw [yR];kernel_rfl,by kernel_rfl⟩
  ·rw [if_pos (by have:=ntf k1;simpa using this)] at yR
   exact ⟨i+1,by omega,by omega,by rw [yR];kernel_rfl,by kernel_rfl⟩
 ·have e2:i=20:=by omega
  subst e2
  rw [← yE]
  refine zAb (zAb (zAa (zAd 2 (zAc (zAU (zAv 0 (zAb (zAa (zAd 3 (zAc (zAl (E_a [] an (PV.tup [I (zUE n cs 20),I 0]) ([]) rfl rfl))))))))))))
theorem f30_2 (n:Nw) (cs:List (Int×Int)) (hs:Small n) (hl:cs.length<1000000) (ho:¬ zBw n cs=0):FG 30 [nwV n,prs cs] (.tup [I 0,I (zBw n cs)]):=by
 refine zAf Tryz.f30 ?_
 refine zAb (zAa (zAd 3 (zAc (zAb (zAb (zAa (zAd 2 (S_a [(8,.ret (I (zBw n cs)) ([]))] (ap (f39 (n) (cs) (by omega) (by omega)) an) (zAd 1 (zAc (zAb (zAa (zAd 2 (zAc (zCj (zBw n cs=0) (by omega) (zAb (zAa (zAd 3 (zAc (zAl (E_a [] an (PV.tup [I 0,I (zBw n cs)]) ([]) rfl rfl)))))))))))))))))))))
theorem zSq {n:Nw} {cs:List (Int×Int)}:∀ k,0≤zO2 n cs k∧zO2 n cs k≤k
 | 0=>⟨Int.le_refl _,Int.le_refl _⟩
 | k+1=>by
  have:=zSq (n:=n) (cs:=cs) k
  rw [zFC];split<;>omega
theorem f32_1 (n:Nw) (cs:List (Int×Int)) (ho:CrOk n cs):FG 32 [nwV n,prs cs] (.tup [if zBl n (zAV n cs 12)=[] then I (zO2 n cs 12) else I 0,if zBl n (zAV n cs 12)=[] then I 0 else I 6]):=by
 have kj:=ho.w
 have hn:=ho.nw
 have jh:=hn.small
 have yu:=ho.err
 have hX:=ho.len
 have yE:=zV5 kj
 have hb12:=zRP (n:=n) (cs:=cs) 12
 refine zAf Tryz.f32 ?_
 refine zAb (zAa (zAd 3 (zAc (zAb (zAb (zAa (zAd 2 (S_a [(8,.ret (I (zBw n cs)) ([]))] (ap (f39 (n) (cs) (by omega) (by omega)) an) (zAd 1 (zAc (zAb (zAa (zAd 2 (zAc (zEc (zBw n cs=0) (by omega) (zAi (zAb (zAa (zAd 1 (zAc (zAb (zAb (zAa (zAd 1 (zAc (zAh 0 ?_))))))))))))))))))))))))))
 refine zAo (fun i=>i≤21) (fun (i:Nat)=>[(7,I (zSN n cs i)),(8,I (i:Nat))]) (fun i=>21-i) (0:Nat) (by omega) fun i hi=>?_
 have ql:∃ w,RelK n (zCL n cs i) w:=⟨_,zEv kj _⟩
 by_cases yC:i<21
 ·have yR:=zJJ (n:=n) (cs:=cs) (k:=i)
  have qD:=zN4 (K:=zCL n cs i) hn (h:=n.h.toNat)
  have hH:=hn.h
  clear yE
  refine zAb (zAb (zAa (zAd 2 (zAc (zAL ((↑i:Int)≤20) (by omega) (zAi (zAb (zAh 1 (zAb (zAa (zAd 4 (S_a [(10,.ret (PV.own 1 (List.map lsB (zCL n cs (↑i:Int).toNat))) ([]))] (ap (f95 (n) (cs) ((↑i:Int)) (by omega) (by omega)) an) (S_a [(5,.ob),(0,.v (PV.sl (List.map bls (zCL n cs (↑i:Int).toNat)))),(2,.ret (PV.own 2 (List.map prV (gpN n (zCL n cs (↑i:Int).toNat) n.h.toNat))) ([])),(1,.yes)] (ap (blz (List.map lsB (zCL n cs (↑i:Int).toNat))) (ap (frC lsB bls (zCL n cs (↑i:Int).toNat)) (ap (f94 (n) (zCL n cs (↑i:Int).toNat) (by omega) (by assumption)) (ap ((by exact zDE _):(PV.own 2 (List.map prV (gpN n (zCL n cs (↑i:Int).toNat) n.h.toNat))).free=true) an)))) (S_a [(0,.n ((gpN n (zCL n cs (↑i:Int).toNat) n.h.toNat).length))] (ap (lnS prV (gpN n (zCL n cs (↑i:Int).toNat) n.h.toNat)) an) (zAd 1 (zAc (zBU ((↑(gpN n (zCL n cs (↑i:Int).toNat) n.h.toNat).length:Int)>0) (fun k0=>(zAa (zAd 1 (S_a [(1,.v (I (↑(i+1):Int)))] (ap (wrN i) an) (zAd 1 (zAc (zAa (zAd 1 (S_a [(1,.v (I (↑(i+1):Int)))] (ap (wrN i) an) (zAd 1 (zAc ?_))))))))))) (fun k0=>(zAi (zAa (zAd 1 (S_a [(1,.v (I (↑(i+1):Int)))] (ap (wrN i) an) (zAd 1 (zAc ?_))))))))))))))))))))))))
  ·rw [if_pos (by have:=k0;simp only [Int.toNat_natCast] at this;omega)] at yR
   exact ⟨i+1,by omega,by omega,by rw [yR];kernel_rfl,by kernel_rfl⟩
  ·rw [if_neg (by have:=k0;simp only [Int.toNat_natCast] at this;omega)] at yR
   exact ⟨i+1,by omega,by omega,by rw [yR];kernel_rfl,by kernel_rfl⟩
 ·have e2:i=21:=by omega
  subst e2
  have hb21:=zRP (n:=n) (cs:=cs) 21
  refine zAb (zAb (zAa (zAd 2 (zAc (zAU (zAv 0 (zAb (zAb (zAa (zAd 2 (zAc (zBU (zSN n cs 21>20) (fun k0=>(zAb (zAa (zAd 2 (zAc (zAl (E_a [] an (PV.tup [I 0,I 6]) ([]) ?_ rfl))))))) (fun k0=>(zAi (zAb (zAa (zAd 3 (zAc (zAl (E_a [] an (PV.tup [I (zSN n cs 21),I 0]) ([]) ?_ rfl))))))))))))))))))))
  ·have hg:¬ zBl n (zAV n cs 12)=[]:=fun h=>by
    rw [if_pos h] at yE
    have:=zSq (n:=n) (cs:=cs) 12
    omega
   rw [if_neg hg,if_neg hg]
  ·by_cases hg:zBl n (zAV n cs 12)=[]
   ·rw [if_pos hg,if_pos hg]
    rw [if_pos hg] at yE
    rw [yE]
   ·rw [if_neg hg] at yE
    omega
theorem f32_2 (n:Nw) (cs:List (Int×Int)) (hs:Small n) (hl:cs.length<1000000) (ho:¬ zBw n cs=0):FG 32 [nwV n,prs cs] (.tup [I 0,I (zBw n cs)]):=by
 refine zAf Tryz.f32 ?_
 refine zAb (zAa (zAd 3 (zAc (zAb (zAb (zAa (zAd 2 (S_a [(8,.ret (I (zBw n cs)) ([]))] (ap (f39 (n) (cs) (by omega) (by omega)) an) (zAd 1 (zAc (zAb (zAa (zAd 2 (zAc (zCj (zBw n cs=0) (by omega) (zAb (zAa (zAd 3 (zAc (zAl (E_a [] an (PV.tup [I 0,I (zBw n cs)]) ([]) rfl rfl)))))))))))))))))))))
end Go.Eng
set_option maxRecDepth 10000
set_option maxHeartbeats 4000000
namespace Go.Eng
open Go Go.Proofs
theorem zVT {n:Nw} {cs:List (Int×Int)} (h:zGt n cs=false):cs.length≤24∧Small n:=by
 simp only [zGt,Bool.or_eq_false_iff,decide_eq_false_iff_not,List.any_eq_false,decide_eq_true_eq] at h
 exact ⟨by omega,by omega,by omega,by omega,fun r hr=>by have:=h.2.2.2.2 r hr;omega⟩
theorem zRm (n:Nw) (cs:List (Int×Int)) (e:Int) (hs:Small n) (hl:cs.length≤24):∃ (l:List (Int×Int)) (x:Int),FG 22 [nwV n,prs cs,I e] (.tup [.own 2 (l.map prV),I x])∧FG 23 [nwV n,prs cs,I e] (.tup [.own 2 (l.map prV),I x])∧l.length≤80:=by
 by_cases ja:zB7 n cs e=0
 ·have gc:=zR9 ja
  exact ⟨_,_,f22_1 n cs e gc,f23_1 n cs e gc,zEU gc.cr.nw⟩
 ·exact ⟨[],_,f22_2 n cs e hs (by omega) ja,f23_2 n cs e hs (by omega) ja,by simp⟩
theorem zOb (n:Nw) (cs:List (Int×Int)) (e:Int) (hs:Small n) (hl:cs.length≤24):∃ (l:List Int) (x:Int),FG 26 [nwV n,prs cs,I e] (.tup [.own 1 (l.map I),I x])∧FG 27 [nwV n,prs cs,I e] (.tup [.own 1 (l.map I),I x])∧l.length≤80:=by
 by_cases ja:zB7 n cs e=0
 ·have gc:=zR9 ja
  have qD:=zEU (w:=zAV n cs e.toNat) gc.cr.nw
  have hml:=zTe (msl n (zBl n (zAV n cs e.toNat)))
  have hml2:(msl n (zBl n (zAV n cs e.toNat))).length≤80:=by
   unfold msl;rw [List.length_map]
   exact Nat.le_trans (List.length_filter_le _ _) qD
  exact ⟨_,_,f26_1 n cs e gc,f27_1 n cs e gc,by omega⟩
 ·exact ⟨[],_,f26_2 n cs e hs (by omega) ja,f27_2 n cs e hs (by omega) ja,by simp⟩
theorem zNa (n:Nw) (cs:List (Int×Int)) (hs:Small n) (hl:cs.length≤24):∃ (k x:Int),FG 29 [nwV n,prs cs] (.tup [I k,I x])∧FG 30 [nwV n,prs cs] (.tup [I k,I x]):=by
 by_cases wY:zBw n cs=0
 ·have uV:=zQQ wY
  have hH:=uV.nw.h
  obtain ⟨k,hk,jD,kf⟩:=zD8 (n:=n) (cs:=cs) uV.nw
  exact ⟨_,_,f29_1 n cs k uV (by omega) jD kf,f30_1 n cs k uV (by omega) jD kf⟩
 ·exact ⟨_,_,f29_2 n cs hs (by omega) wY,f30_2 n cs hs (by omega) wY⟩
theorem zQq (n:Nw) (cs:List (Int×Int)) (hs:Small n) (hl:cs.length≤24):∃ (k x:Int),FG 31 [nwV n,prs cs] (.tup [I k,I x])∧FG 32 [nwV n,prs cs] (.tup [I k,I x]):=by
 by_cases wY:zBw n cs=0
 ·have uV:=zQQ wY
  have h1:=f31_1 n cs uV
  have h2:=f32_1 n cs uV
  by_cases qD:zBl n (zAV n cs 12)=[]
  ·rw [if_pos qD,if_pos qD] at h1 h2
   exact ⟨_,_,h1,h2⟩
  ·rw [if_neg qD,if_neg qD] at h1 h2
   exact ⟨_,_,h1,h2⟩
 ·exact ⟨_,_,f31_2 n cs hs (by omega) wY,f32_2 n cs hs (by omega) wY⟩
theorem f3 (n:Nw) (cs:List (Int×Int)) (e:Int):FG 3 [nwV n,prs cs,I e] (.bool true):=by
 cases hg:zGt n cs with
 | true =>
  have vj:FG 16 [nwV n,prs cs] (.bool true):=hg▸f16 n cs
  refine zAf Tryz.f3 ?_
  refine zAb (zAa (zAd 2 (zAc (zAb (zAb (zAa (zAd 2 (S_a [(8,.ret (PV.bool true) ([]))] (ap (vj) an) (zAc (zBT (zAb (zAa (S_a [(4,.ret (PV.bool true) ([]))] (ap (f17) an) (zAd 1 (zAc (zAl (E_a [] an (PV.bool true) ([]) rfl rfl)))))))))))))))))
 | false =>
  have vj:FG 16 [nwV n,prs cs] (.bool false):=hg▸f16 n cs
  obtain ⟨yN,hs⟩:=zVT hg
  clear hg
  obtain ⟨G,x1,a1,b1,g1⟩:=zRm n cs e hs yN
  obtain ⟨M,x2,a2,b2,g2⟩:=zOb n cs e hs yN
  obtain ⟨k3,x3,a3,b3⟩:=zNa n cs hs yN
  obtain ⟨k4,x4,a4,b4⟩:=zQq n cs hs yN
  refine zAf Tryz.f3 ?_
  refine zAb (zAa (zAd 2 (zAc (zAb (zAb (zAa (zAd 2 (S_a [(8,.ret (PV.bool false) ([]))] (ap (vj) an) (zAc (zAU (zAi (zAb (zAa (zAd 1 (S_a [(6,.ret (nwO n) ([]))] (ap (f18 (n) (by omega)) an) (zAd 1 (S_a [(6,.ret (nwO n) ([]))] (ap (f19 (n) (by omega)) an) (zAd 1 (S_a [(6,.ret (PV.own 2 (List.map prV cs)) ([]))] (ap (f20 (cs) (by omega)) an) (zAd 5 (zAc (zAb (zAa (zAd 1 (S_a [(6,.ret (PV.own 2 (List.map prV cs)) ([]))] (ap (f21 (cs) (by omega)) an) (zAd 1 (zAc (zAb (zAa (zAd 3 (S_a [(6,.ob),(0,.v (PV.sl (List.map prV n.l))),(1,.ob),(0,.v (PV.sl (List.map ntV n.n))),(1,.ob),(0,.v (PV.sl (List.map zAY n.s))),(1,.ob),(0,.v (PV.sl (List.map prV cs))),(4,.ret (PV.tup [PV.own 2 (List.map prV G),I x1]) ([])),(1,.yes)] (ap (blz (List.map prV n.l)) (ap (frT prV n.l) (ap (blz (List.map ntV n.n)) (ap (frT ntV n.n) (ap (blz (List.map zDK n.s)) (ap (frC zDK zAY n.s) (ap (blz (List.map prV cs)) (ap (frT prV cs) (ap (a1) (ap ((by exact zPm (zDE _) rfl):(PV.tup [PV.own 2 (List.map prV G),I x1]).free=true) an)))))))))) (zAd 5 (zAc (zAb (zAa (zAd 3 (S_a [(6,.ob),(0,.v (PV.sl (List.map prV n.l))),(1,.ob),(0,.v (PV.sl (List.map ntV n.n))),(1,.ob),(0,.v (PV.sl (List.map zAY n.s))),(1,.ob),(0,.v (PV.sl (List.map prV cs))),(4,.ret (PV.tup [PV.own 2 (List.map prV G),I x1]) ([])),(1,.yes)] (ap (blz (List.map prV n.l)) (ap (frT prV n.l) (ap (blz (List.map ntV n.n)) (ap (frT ntV n.n) (ap (blz (List.map zDK n.s)) (ap (frC zDK zAY n.s) (ap (blz (List.map prV cs)) (ap (frT prV cs) (ap (b1) (ap ((by exact zPm (zDE _) rfl):(PV.tup [PV.own 2 (List.map prV G),I x1]).free=true) an)))))))))) (zAd 5 (zAc (zAb (zAb (zAa (zAd 4 (zOh 48 (x1=x1) (by omega) (zAd 1 (S_a [(3,.ob),(0,.v (PV.sl (List.map prV G))),(2,.ret (PV.own 2 (List.map prV G)) ([])),(1,.yes)] (ap (blz (List.map prV G)) (ap (frT prV G) (ap (f25 (G) (by omega)) (ap ((by exact zDE _):(PV.own 2 (List.map prV G)).free=true) an)))) (zAd 1 (S_a [(3,.ob),(0,.v (PV.sl (List.map prV G))),(1,.ob),(0,.v (PV.sl (List.map prV G))),(2,.ret (PV.bool (decide (G=G))) ([]))] (ap (blz (List.map prV G)) (ap (frT prV G) (ap (blz (List.map prV G)) (ap (frT prV G) (ap (f24 (G) (G) (by omega)) an))))) (zAd 2 (zAc (zEc (G=G) (by (simp;done)) (zAi (zAb (zAa (zAd 3 (S_a [(6,.ob),(0,.v (PV.sl (List.map prV n.l))),(1,.ob),(0,.v (PV.sl (List.map ntV n.n))),(1,.ob),(0,.v (PV.sl (List.map zAY n.s))),(1,.ob),(0,.v (PV.sl (List.map prV cs))),(4,.ret (PV.tup [PV.own 1 (List.map I M),I x2]) ([])),(1,.yes)] (ap (blz (List.map prV n.l)) (ap (frT prV n.l) (ap (blz (List.map ntV n.n)) (ap (frT ntV n.n) (ap (blz (List.map zDK n.s)) (ap (frC zDK zAY n.s) (ap (blz (List.map prV cs)) (ap (frT prV cs) (ap (a2) (ap ((by exact zPm (zDE _) rfl):(PV.tup [PV.own 1 (List.map I M),I x2]).free=true) an)))))))))) (zAd 5 (zAc (zAb (zAa (zAd 3 (S_a [(6,.ob),(0,.v (PV.sl (List.map prV n.l))),(1,.ob),(0,.v (PV.sl (List.map ntV n.n))),(1,.ob),(0,.v (PV.sl (List.map zAY n.s))),(1,.ob),(0,.v (PV.sl (List.map prV cs))),(4,.ret (PV.tup [PV.own 1 (List.map I M),I x2]) ([])),(1,.yes)] (ap (blz (List.map prV n.l)) (ap (frT prV n.l) (ap (blz (List.map ntV n.n)) (ap (frT ntV n.n) (ap (blz (List.map zDK n.s)) (ap (frC zDK zAY n.s) (ap (blz (List.map prV cs)) (ap (frT prV cs) (ap (b2) (ap ((by exact zPm (zDE _) rfl):(PV.tup [PV.own 1 (List.map I M),I x2]).free=true) an)))))))))) (zAd 5 (zAc (zAb (zAb (zAa (zAd 4 (zOh 72 (x2=x2) (by omega) (zAd 2 (S_a [(3,.ob),(0,.v (PV.sl (List.map I M))),(1,.ob),(0,.v (PV.sl (List.map I M))),(2,.ret (PV.bool (decide (M=M))) ([]))] (ap (blz (List.map I M)) (ap (frT I M) (ap (blz (List.map I M)) (ap (frT I M) (ap (f28 (M) (M) (by omega)) an))))) (zAd 2 (zAc (zEc (M=M) (by (simp;done)) (zAi (zAb (zAa (zAd 2 (S_a [(6,.ob),(0,.v (PV.sl (List.map prV n.l))),(1,.ob),(0,.v (PV.sl (List.map ntV n.n))),(1,.ob),(0,.v (PV.sl (List.map zAY n.s))),(1,.ob),(0,.v (PV.sl (List.map prV cs))),(2,.ret (PV.tup [I k3,I x3]) ([]))] (ap (blz (List.map prV n.l)) (ap (frT prV n.l) (ap (blz (List.map ntV n.n)) (ap (frT ntV n.n) (ap (blz (List.map zDK n.s)) (ap (frC zDK zAY n.s) (ap (blz (List.map prV cs)) (ap (frT prV cs) (ap (a3) an))))))))) (zAd 5 (zAc (zAb (zAa (zAd 2 (S_a [(6,.ob),(0,.v (PV.sl (List.map prV n.l))),(1,.ob),(0,.v (PV.sl (List.map ntV n.n))),(1,.ob),(0,.v (PV.sl (List.map zAY n.s))),(1,.ob),(0,.v (PV.sl (List.map prV cs))),(2,.ret (PV.tup [I k3,I x3]) ([]))] (ap (blz (List.map prV n.l)) (ap (frT prV n.l) (ap (blz (List.map ntV n.n)) (ap (frT ntV n.n) (ap (blz (List.map zDK n.s)) (ap (frC zDK zAY n.s) (ap (blz (List.map prV cs)) (ap (frT prV cs) (ap (b3) an))))))))) (zAd 5 (zAc (zAb (zAb (zAa (zAd 4 (zOh 93 (k3=k3) (by omega) (zAd 4 (zAc (zEc (x3=x3) (by omega) (zAi (zAb (zAa (zAd 2 (S_a [(6,.ob),(0,.v (PV.sl (List.map prV n.l))),(1,.ob),(0,.v (PV.sl (List.map ntV n.n))),(1,.ob),(0,.v (PV.sl (List.map zAY n.s))),(1,.ob),(0,.v (PV.sl (List.map prV cs))),(2,.ret (PV.tup [I k4,I x4]) ([]))] (ap (blz (List.map prV n.l)) (ap (frT prV n.l) (ap (blz (List.map ntV n.n)) (ap (frT ntV n.n) (ap (blz (List.map zDK n.s)) (ap (frC zDK zAY n.s) (ap (blz (List.map prV cs)) (ap (frT prV cs) (ap (a4) an))))))))) (zAd 5 (zAc (zAb (zAa (zAd 2 (S_a [(6,.ob),(0,.v (PV.sl (List.map prV n.l))),(1,.ob),(0,.v (PV.sl (List.map ntV n.n))),(1,.ob),(0,.v (PV.sl (List.map zAY n.s))),(1,.ob),(0,.v (PV.sl (List.map prV cs))),(2,.ret (PV.tup [I k4,I x4]) ([]))] (ap (blz (List.map prV n.l)) (ap (frT prV n.l) (ap (blz (List.map ntV n.n)) (ap (frT ntV n.n) (ap (blz (List.map zDK n.s)) (ap (frC zDK zAY n.s) (ap (blz (List.map prV cs)) (ap (frT prV cs) (ap (b4) an))))))))) (zAd 5 (zAc (zAb (zAa (zAd 4 (zJ3 113 (k4=k4) (by omega) (zAd 5 (zJ3 118 (x4=x4) (by omega) (zAd 2 (S_a [(6,.ob),(0,.v (PV.sl (List.map prV n.l))),(1,.ob),(0,.v (PV.sl (List.map ntV n.n))),(1,.ob),(0,.v (PV.sl (List.map zAY n.s))),(4,.ret (PV.bool true) ([]))] (ap (blz (List.map prV n.l)) (ap (frT prV n.l) (ap (blz (List.map ntV n.n)) (ap (frT ntV n.n) (ap (blz (List.map zDK n.s)) (ap (frC zDK zAY n.s) (ap (f33 (n) (by omega)) an))))))) (zAd 4 (S_a [(3,.ob),(0,.v (PV.sl (List.map prV cs))),(4,.ret (PV.bool (decide (cs=cs))) ([]))] (ap (blz (List.map prV cs)) (ap (frT prV cs) (ap (f34 (cs) (cs) (by omega)) an))) (zAd 2 (zJ3 128 (cs=cs) (by (simp;done)) (S_a [(4,.ret (PV.bool true) ([]))] (ap (f17) an) (zAd 2 (zAc (zAl (E_a [] an (PV.bool true) ([]) rfl rfl)))))))))))))))))))))))))))))))))))))))))))))))))))))))))))))))))))))))))))))))))))))))))))))))))))))))))))))))))))))))))))))
end Go.Eng
set_option maxRecDepth 100000
namespace Go.Proofs.YtppbomajegnkeaaGreat
open Go.ChangeShapes Go.WideShapes Go.ChangeAt Go.RowKit Go.Eng
theorem newsLeft_gives (ss:List (Bool×List Sh)) (wS:zFi Tryz.prog Tryz.f3.params.toList=some ss) (qs:List PV) (hq:zLP ss qs):@zDj (yo1 Tryz.prog zKX) Tryz.prog zKX 3 qs [] (.bool true) []:=by
 have he:zFi Tryz.prog Tryz.f3.params.toList=some [(true,[.num .i64,.list true [.num .i64,.num .i64],.list true [.num .i64,.bool],.list false [.list false [.num .i64]]]),(false,[.list true [.num .i64,.num .i64]]),(false,[.num .i64])]:=by kernel_rfl
 rw [he] at wS
 cases wS
 obtain ⟨p0,qs0,rfl,h0,hq0⟩:=hq
 obtain ⟨p1,qs1,rfl,h1,uL⟩:=hq0
 obtain ⟨p2,qs2,rfl,h2,ui⟩:=uL
 simp only [zLP] at ui
 subst ui
 obtain ⟨x0,rfl⟩:=zU1 h0
 obtain ⟨x1,rfl⟩:=zTp h1
 obtain ⟨x2,rfl,b2⟩:=zWK h2
 simp only [IntKind.min,IntKind.max,IntKind.signed,IntKind.bits] at b2
 simp at b2
 exact f3 x0 x1 x2
theorem newsLeft_lifted (os:Os) (started:os.Started) (H:Type) (enc:TypeId×Value→H) :
  ReturnsInHanded {} Tryz.checked os 3 .any (Rows.newsLeftSpec.pre6 enc Tryz.prog Tryz.f3 Rows.newsLeftRow.domain false) (Rows.newsLeftSpec.post enc Tryz.prog Tryz.f3 false true false false):=by
 refine returnsInHanded_of_change (C:=Tryz.checked) Tryz.own started (by kernel_rfl) Tryz.func3
  (ChangeSpec.witness6 (enc:=enc) (C:=Tryz.checked) false ⟨#[],#[.agg #[.int .i64 0,.slice none 0 0,.slice none 0 0,.slice none 0 0],.slice none 0 0,.int .i64 0],[]⟩ 8 (by kernel_rfl) (by kernel_rfl) (by kernel_rfl) (by kernel_rfl)) ?_
 intro W base args ds gs before hval0 hW hcnd _
 obtain ⟨p,q,hA0,hV,_,_,_⟩:=id hW
 obtain ⟨rfl,rfl⟩:=trodVars_none hV
 obtain ⟨ss,wS⟩:∃ ss,zFi Tryz.prog Tryz.f3.params.toList=some ss:=Option.isSome_iff_exists.1 (by kernel_rfl)
 have hX:ss.length≤1000:=by
  have h:((zFi Tryz.prog Tryz.f3.params.toList).map fun s=>Nat.ble s.length 1000)=some true:=by kernel_rfl
  rw [wS] at h
  simpa using h
 exact zVg zEW hnm zMz hin Tryz.laidOut rfl Tryz.underlying4 (by kernel_rfl) (by kernel_rfl) (fun ds hd=>by match ds,hd with | [d0,d1,d2],_=>rfl) wS hX (newsLeft_gives ss wS) hval0 hW
theorem newsLeft_holds:Rows.NewsLeftSaid :=
 OpenClaim.holds_of_wide 3 Tryz.f3 rfl rfl rfl rfl rfl rfl rfl ⟨rfl,rfl,rfl,rfl,rfl⟩ rfl rfl rfl rfl rfl (by kernel_rfl) Tryz.func3 (by kernel_rfl)
  (of_decide_eq_true (by kernel_rfl)) (by unfold Func.isWrapper;first | (rw [if_pos (by decide +kernel)];kernel_rfl) | (rw [if_neg (by decide +kernel)];exact ⟨rfl,rfl⟩))
  (fun os started H enc _=>newsLeft_lifted os started H enc)
end Go.Proofs.YtppbomajegnkeaaGreat
