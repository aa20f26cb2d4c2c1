/- For any news, cries, evenings and yV the law NewsHolds ends in true: what a yV j1 and what it j2 are as specified; without conditions. -/
import Derived.Test.YtppbomajegnkeaaGreatPh
import Derived.Test.YtppbomajegnkeaaGreatPd
import Derived.Test.YtppbomajegnkeaaGreatPe
set_option linter.unusedVariables false
set_option linter.unusedSimpArgs false
set_option linter.unusedSectionVars false
set_option maxRecDepth 10000
set_option maxHeartbeats 4000000
namespace Go.Eng
open Go Go.Proofs
theorem ntt {a:Bool} (h:(!a)=true):a=false:=by simpa using h
theorem ntf {a:Bool} (h:(!a)=false):a=true:=by simpa using h
theorem zWN {a b:Int×Int} (h:a.1=b.1∧a.2=b.2∨a.1=b.2∧a.2=b.1):pr2 a=pr2 b:=by
 obtain ⟨x,y⟩:=b
 exact zOt.2 h
theorem zVu {a b:Int×Int} (h:¬ (a.1=b.1∧a.2=b.2∨a.1=b.2∧a.2=b.1)):pr2 a≠pr2 b:=by
 obtain ⟨x,y⟩:=b
 exact fun e=>h (zOt.1 e)
theorem zH6 {p:Nat→Prop} {i:Nat} (ha:∀ j,j<i→p j) (hi:p i):∀ j,j<i+1→p j:=fun j hj=>by
 rcases Nat.lt_succ_iff_lt_or_eq.1 hj with h | rfl
 ·exact ha j h
 ·exact hi
theorem f117 (n:Nw) (hs:Small n):FG 117 [nwV n] (I (zCT n)):=by
 refine zAe Tryz.f117 ?_
 have h1:=hs.hl
 have h2:=hs.hn
 have h3:=hs.hs
 refine zAc 2<|zAa<|zAh<|zAc 2<|S_a [(10,.ret (PV.bool !inB n.h 1 10) [])] (ap (f111 n.h (1) (10)) an)<|zAd 1<|zEl 19 (!inB n.h 1 10) (fun k0=>(zAd 17<|zAa<|zBR<|zAc 1<|zAa<|zAm<|E_a [] an (I 2) [] ?_ rfl)) (fun k0=>(zAd 2<|S_a [(0,.n n.l.length)] (ap (lnS prV n.l) an)<|zAd 3<|zET 25 ((↑n.l.length:Int)>15) (fun k1=>(zAd 11<|zAa<|zBR<|zAc 1<|zAa<|zAm<|E_a [] an (I 2) [] ?_ rfl)) (fun k1=>(zAd 2<|S_a [(0,.n n.n.length)] (ap (lnS ntV n.n) an)<|S_a [(10,.ret (PV.bool !inB (↑n.n.length:Int) 1 8) [])] (ap (f111 ((↑n.n.length:Int)) (1) (8)) an)<|zAd 2<|zEl 31 (!inB (↑n.n.length:Int) 1 8) (fun k2=>(zAd 5<|zAa<|zBR<|zAc 1<|zAa<|zAm<|E_a [] an (I 2) [] ?_ rfl)) (fun k2=>(zAd 2<|S_a [(0,.n n.s.length)] (ap (lnS zAP n.s) an)<|S_a [(10,.ret (PV.bool !inB (↑n.s.length:Int) 1 6) [])] (ap (f111 ((↑n.s.length:Int)) (1) (6)) an)<|zAd 1<|zAa<|zDr (!inB (↑n.s.length:Int) 1 6) (fun k3=>(zAc 1<|zAa<|zAm<|E_a [] an (I 2) [] ?_ rfl)) (fun k3=>(zAj<|zAh<|zAc 1<|zAa<|zAi 0 ?_))))))))
 ·simp only [zCT,k0,if_true]
 ·simp only [zCT,k0,k1,if_true];rfl
 ·simp only [zCT,k0,k1,k2,if_true,if_false];rfl
 ·simp only [zCT,k0,k1,k2,k3,if_true,if_false];rfl
 rw [zVL k0 k1 k2 k3]
 have hh:=zEc (ntf k0)
 have uH:=zEc (ntf k2)
 clear k0 k1 k2 k3
 refine zAp (fun i=>i≤n.l.length∧∀ j,j<i→zGK n.h (n.l.getD j default)=true) (fun (i:Nat)=>[(3,I (i:Nat))]) (fun i=>n.l.length-i) (0:Nat) ⟨Nat.zero_le _,fun j hj=>absurd hj (Nat.not_lt_zero j)⟩ fun i ⟨hi,ha⟩=>?_
 by_cases yG:i<n.l.length
 ·have jd:=zH6 ha
  clear ha
  refine zAh<|zAc 3<|S_a [(0,.n n.l.length)] (ap (lnS prV n.l) an)<|zAd 1<|zAa<|zAU ((↑i:Int)<(↑n.l.length:Int)) (by omega)<|zAj<|zAh<|zAi 1<|zAc 3<|S_a [(2,.v (PV.agg [I (n.l.getD i default).fst,I (n.l.getD i default).snd]))] (ap (zBG default (by omega):(List.map prV n.l)[i]? = some (PV.agg [I (n.l.getD i default).fst,I (n.l.getD i default).snd])) an)<|zAd 4<|S_a [(1,.v (I (n.h-1)))] (ap ((zCV rfl (by omega)):I (IntKind.i64.wrap (n.h-1))=I (n.h-1)) an)<|S_a [(10,.ret (PV.bool !inB (n.l.getD i default).fst 0 (n.h-1)) [])] (ap (f111 ((n.l.getD i default).fst) (0) (n.h-1)) an)<|zAd 1<|zEl 54 (!inB (n.l.getD i default).fst 0 (n.h-1)) (fun k0=>(zAd 11<|zAa<|zBR<|zAc 1<|zAa<|zAm<|E_a [] an (I 1) [] ?_ rfl)) (fun k0=>(zAd 3<|S_a [(2,.v (PV.agg [I (n.l.getD i default).fst,I (n.l.getD i default).snd]))] (ap (zBG default (by omega):(List.map prV n.l)[i]? = some (PV.agg [I (n.l.getD i default).fst,I (n.l.getD i default).snd])) an)<|zAd 4<|S_a [(1,.v (I (n.h-1)))] (ap ((zCV rfl (by omega)):I (IntKind.i64.wrap (n.h-1))=I (n.h-1)) an)<|S_a [(10,.ret (PV.bool !inB (n.l.getD i default).snd 0 (n.h-1)) [])] (ap (f111 ((n.l.getD i default).snd) (0) (n.h-1)) an)<|zAd 1<|zAa<|zDr (!inB (n.l.getD i default).snd 0 (n.h-1)) (fun k1=>(zAc 1<|zAa<|zAm<|E_a [] an (I 1) [] ?_ rfl)) (fun k1=>(zAj<|zAf<|zAd 1<|S_a [(1,.v (I (↑(i+1):Int)))] (ap (wrN i) an)<|zAd 1<|zAa ?_))))
  ·rw [zOl yG (by simp only [zGK,ntt k0,Bool.false_and])]
  ·rw [zOl yG (by simp only [zGK,ntt k1,Bool.and_false])]
  ·exact ⟨i+1,⟨by omega,jd (by simp only [zGK,ntf k0,ntf k1,Bool.true_and])⟩,by omega,by kernel_rfl,by kernel_rfl⟩
 have hA:(n.l.all fun x=>zGK n.h x)=true:=zKc fun i hi=>ha i (by omega)
 clear ha
 refine zAh<|zAc 3<|S_a [(0,.n n.l.length)] (ap (lnS prV n.l) an)<|zAd 1<|zAa<|zAT ((↑i:Int)<(↑n.l.length:Int)) (by omega)<|zAz 0<|zAh<|zAc 1<|zAa<|zAi 2 ?_
 refine zAp (fun i=>i≤n.l.length∧∀ j,j<i→zHo (n.l.getD j default)=true) (fun (i:Nat)=>[(4,I (i:Nat))]) (fun i=>n.l.length-i) (0:Nat) ⟨Nat.zero_le _,fun j hj=>absurd hj (Nat.not_lt_zero j)⟩ fun i ⟨hi,ha⟩=>?_
 by_cases yG:i<n.l.length
 ·have jd:=zH6 ha
  clear ha
  refine zAh<|zAc 3<|S_a [(0,.n n.l.length)] (ap (lnS prV n.l) an)<|zAd 1<|zAa<|zAU ((↑i:Int)<(↑n.l.length:Int)) (by omega)<|zAj<|zAh<|zAi 3<|zAc 3<|S_a [(2,.v (PV.agg [I (n.l.getD i default).fst,I (n.l.getD i default).snd]))] (ap (zBG default (by omega):(List.map prV n.l)[i]? = some (PV.agg [I (n.l.getD i default).fst,I (n.l.getD i default).snd])) an)<|zAd 5<|S_a [(2,.v (PV.agg [I (n.l.getD i default).fst,I (n.l.getD i default).snd]))] (ap (zBG default (by omega):(List.map prV n.l)[i]? = some (PV.agg [I (n.l.getD i default).fst,I (n.l.getD i default).snd])) an)<|zAd 3<|zAa<|zCb ((n.l.getD i default).fst=(n.l.getD i default).snd) (fun k0=>(zAc 1<|zAa<|zAm<|E_a [] an (I 8) [] ?_ rfl)) (fun k0=>(zAj<|zAf<|zAd 1<|S_a [(1,.v (I (↑(i+1):Int)))] (ap (wrN i) an)<|zAd 1<|zAa ?_))
  ·rw [zVF hA yG (by simp only [zHo,decide_eq_false_iff_not];exact fun h=>h k0)]
  ·exact ⟨i+1,⟨by omega,jd (by simp only [zHo,decide_eq_true_eq];exact k0)⟩,by omega,by kernel_rfl,by kernel_rfl⟩
 have hB:(n.l.all fun x=>zHo x)=true:=zKc fun i hi=>ha i (by omega)
 clear ha
 refine zAh<|zAc 3<|S_a [(0,.n n.l.length)] (ap (lnS prV n.l) an)<|zAd 1<|zAa<|zAT ((↑i:Int)<(↑n.l.length:Int)) (by omega)<|zAz 2<|zAh<|zAc 1<|zAa<|zAi 4 ?_
 refine zAp (fun i=>i≤n.l.length∧∀ j,j<i→∀ k,k<j→pr2 (n.l.getD j default)≠pr2 (n.l.getD k default)) (fun (i:Nat)=>[(5,I (i:Nat))]) (fun i=>n.l.length-i) (0:Nat) ⟨Nat.zero_le _,fun j hj=>absurd hj (Nat.not_lt_zero j)⟩ fun i ⟨hi,ha⟩=>?_
 by_cases yG:i<n.l.length
 ·have jd:=zH6 ha
  clear ha
  refine zAh<|zAc 3<|S_a [(0,.n n.l.length)] (ap (lnS prV n.l) an)<|zAd 1<|zAa<|zAU ((↑i:Int)<(↑n.l.length:Int)) (by omega)<|zAj<|zAh<|zAi 5<|zAc 1<|zAa<|zAi 6 ?_
  refine zAp (fun k=>k≤i∧∀ j,j<k→pr2 (n.l.getD i default)≠pr2 (n.l.getD j default)) (fun (k:Nat)=>[(6,I (k:Nat))]) (fun k=>i-k) (0:Nat) ⟨Nat.zero_le _,fun j hj=>absurd hj (Nat.not_lt_zero j)⟩ fun k ⟨hk,hb⟩=>?_
  by_cases kG:k<i
  ·have uf:=zH6 hb
   clear hb jd
   refine zAh<|zAc 3<|zAa<|zAU ((↑k:Int)<(↑i:Int)) (by omega)<|zAj<|zAh<|zAi 7<|zAc 3<|S_a [(2,.v (PV.agg [I (n.l.getD i default).fst,I (n.l.getD i default).snd]))] (ap (zBG default (by omega):(List.map prV n.l)[i]? = some (PV.agg [I (n.l.getD i default).fst,I (n.l.getD i default).snd])) an)<|zAd 4<|S_a [(2,.v (PV.agg [I (n.l.getD k default).fst,I (n.l.getD k default).snd]))] (ap (zBG default (by omega):(List.map prV n.l)[k]? = some (PV.agg [I (n.l.getD k default).fst,I (n.l.getD k default).snd])) an)<|zAd 5<|zAa<|zAc 1<|zAd 1<|zAd 1<|zAd 3<|zET 113 ((n.l.getD i default).fst=(n.l.getD k default).fst) (fun k1=>(zAd 1<|zAd 1<|zAd 1<|zAd 4<|zET 120 ((n.l.getD i default).snd=(n.l.getD k default).snd) (fun k2=>(zAd 13<|zAa<|zBR<|zAc 1<|zAa<|zAm<|E_a [] an (I 5) [] ?_ rfl)) (fun k2=>(zAd 1<|zAd 1<|zAd 1<|zAd 3<|zET 126 ((n.l.getD i default).fst=(n.l.getD k default).snd) (fun k3=>(zAd 1<|zAd 1<|zAd 1<|zAd 4<|zAa<|zAT ((n.l.getD i default).snd=(n.l.getD k default).fst) (by omega)<|zAj<|zAf<|zAd 1<|S_a [(1,.v (I (↑(k+1):Int)))] (ap (wrN k) an)<|zAd 1<|zAa ?_)) (fun k3=>(zAd 7<|zAa<|zAW<|zAj<|zAf<|zAd 1<|S_a [(1,.v (I (↑(k+1):Int)))] (ap (wrN k) an)<|zAd 1<|zAa ?_)))))) (fun k1=>(zAd 7<|zAd 1<|zAd 1<|zAd 1<|zAd 3<|zET 126 ((n.l.getD i default).fst=(n.l.getD k default).snd) (fun k4=>(zAd 1<|zAd 1<|zAd 1<|zAd 4<|zAa<|zCb ((n.l.getD i default).snd=(n.l.getD k default).fst) (fun k5=>(zAc 1<|zAa<|zAm<|E_a [] an (I 5) [] ?_ rfl)) (fun k5=>(zAj<|zAf<|zAd 1<|S_a [(1,.v (I (↑(k+1):Int)))] (ap (wrN k) an)<|zAd 1<|zAa ?_)))) (fun k4=>(zAd 7<|zAa<|zAW<|zAj<|zAf<|zAd 1<|S_a [(1,.v (I (↑(k+1):Int)))] (ap (wrN k) an)<|zAd 1<|zAa ?_))))
   all_goals first
    | exact ⟨k+1,⟨by omega,uf (zVu (by omega))⟩,by omega,by kernel_rfl,by kernel_rfl⟩
    | (have h5:=zVh hA hB kG yG (zWN (by omega));rw [h5])
  ·have yq:=jd fun j hj=>hb j (by omega)
   clear hb jd
   refine zAh<|zAc 3<|zAa<|zAT ((↑k:Int)<(↑i:Int)) (by omega)<|zAz 6<|zAf<|zAd 1<|S_a [(1,.v (I (↑(i+1):Int)))] (ap (wrN i) an)<|zAd 1<|zAa ?_
   exact ⟨i+1,⟨by omega,yq⟩,by omega,by kernel_rfl,by kernel_rfl⟩
 have hC:=zUP hA hB fun i hi=>ha i (by omega)
 clear ha hA hB
 refine zAh<|zAc 3<|S_a [(0,.n n.l.length)] (ap (lnS prV n.l) an)<|zAd 1<|zAa<|zAT ((↑i:Int)<(↑n.l.length:Int)) (by omega)<|zAz 4<|zAh<|zAc 1<|zAa<|zAi 8 ?_
 refine zAp (fun i=>i≤n.n.length∧∀ j,j<i→inB (n.n.getD j default).1 (-1) ((j:Int)-1)=true) (fun (i:Nat)=>[(9,I (i:Nat))]) (fun i=>n.n.length-i) (0:Nat) ⟨Nat.zero_le _,fun j hj=>absurd hj (Nat.not_lt_zero j)⟩ fun i ⟨hi,ha⟩=>?_
 by_cases yG:i<n.n.length
 ·have jd:=zH6 ha
  clear ha
  refine zAh<|zAc 3<|S_a [(0,.n n.n.length)] (ap (lnS ntV n.n) an)<|zAd 1<|zAa<|zAU ((↑i:Int)<(↑n.n.length:Int)) (by omega)<|zAj<|zAh<|zAi 9<|zAc 3<|S_a [(2,.v (PV.agg [I (n.n.getD i default).fst,PV.bool (n.n.getD i default).snd]))] (ap (zBG default (by omega):(List.map ntV n.n)[i]? = some (PV.agg [I (n.n.getD i default).fst,PV.bool (n.n.getD i default).snd])) an)<|zAd 3<|S_a [(1,.v (I ((↑i:Int)-1)))] (ap ((zCV rfl (by omega)):I (IntKind.i64.wrap ((↑i:Int)-1))=I ((↑i:Int)-1)) an)<|S_a [(10,.ret (PV.bool !inB (n.n.getD i default).fst (-1) ((↑i:Int)-1)) [])] (ap (f111 ((n.n.getD i default).fst) (-1) ((↑i:Int)-1)) an)<|zAa<|zDr (!inB (n.n.getD i default).fst (-1) ((↑i:Int)-1)) (fun k0=>(zAc 1<|zAa<|zAm<|E_a [] an (I 1) [] ?_ rfl)) (fun k0=>(zAj<|zAf<|zAd 1<|S_a [(1,.v (I (↑(i+1):Int)))] (ap (wrN i) an)<|zAd 1<|zAa ?_))
  ·rw [zUX hC yG (ntt k0)]
  ·exact ⟨i+1,⟨by omega,jd (ntf k0)⟩,by omega,by kernel_rfl,by kernel_rfl⟩
 have hD:=zXV (n:=n) fun i hi=>ha i (by omega)
 clear ha
 refine zAh<|zAc 3<|S_a [(0,.n n.n.length)] (ap (lnS ntV n.n) an)<|zAd 1<|zAa<|zAT ((↑i:Int)<(↑n.n.length:Int)) (by omega)<|zAz 8<|zAh<|zAc 1<|zAa<|zAi 10 ?_
 refine zAp (fun i=>i≤n.n.length∧∀ j,j<i→∀ k,k<j→¬ ((n.n.getD j default).1≥0∧(n.n.getD j default).1=(n.n.getD k default).1)) (fun (i:Nat)=>[(10,I (i:Nat))]) (fun i=>n.n.length-i) (0:Nat) ⟨Nat.zero_le _,fun j hj=>absurd hj (Nat.not_lt_zero j)⟩ fun i ⟨hi,ha⟩=>?_
 by_cases yG:i<n.n.length
 ·have jd:=zH6 ha
  clear ha
  refine zAh<|zAc 3<|S_a [(0,.n n.n.length)] (ap (lnS ntV n.n) an)<|zAd 1<|zAa<|zAU ((↑i:Int)<(↑n.n.length:Int)) (by omega)<|zAj<|zAh<|zAi 11<|zAc 1<|zAa<|zAi 12 ?_
  refine zAp (fun k=>k≤i∧∀ j,j<k→¬ ((n.n.getD i default).1≥0∧(n.n.getD i default).1=(n.n.getD j default).1)) (fun (k:Nat)=>[(11,I (k:Nat))]) (fun k=>i-k) (0:Nat) ⟨Nat.zero_le _,fun j hj=>absurd hj (Nat.not_lt_zero j)⟩ fun k ⟨hk,hb⟩=>?_
  by_cases kG:k<i
  ·have uf:=zH6 hb
   clear hb jd
   refine zAh<|zAc 3<|zAa<|zAU ((↑k:Int)<(↑i:Int)) (by omega)<|zAj<|zAh<|zAi 13<|zAc 3<|S_a [(2,.v (PV.agg [I (n.n.getD i default).fst,PV.bool (n.n.getD i default).snd]))] (ap (zBG default (by omega):(List.map ntV n.n)[i]? = some (PV.agg [I (n.n.getD i default).fst,PV.bool (n.n.getD i default).snd])) an)<|zAd 4<|zET 169 ((n.n.getD i default).fst≥0) (fun k1=>(zAd 3<|S_a [(2,.v (PV.agg [I (n.n.getD i default).fst,PV.bool (n.n.getD i default).snd]))] (ap (zBG default (by omega):(List.map ntV n.n)[i]? = some (PV.agg [I (n.n.getD i default).fst,PV.bool (n.n.getD i default).snd])) an)<|zAd 5<|S_a [(2,.v (PV.agg [I (n.n.getD k default).fst,PV.bool (n.n.getD k default).snd]))] (ap (zBG default (by omega):(List.map ntV n.n)[k]? = some (PV.agg [I (n.n.getD k default).fst,PV.bool (n.n.getD k default).snd])) an)<|zAd 4<|zAa<|zCb ((n.n.getD i default).fst=(n.n.getD k default).fst) (fun k2=>(zAc 1<|zAa<|zAm<|E_a [] an (I 5) [] ?_ rfl)) (fun k2=>(zAj<|zAf<|zAd 1<|S_a [(1,.v (I (↑(k+1):Int)))] (ap (wrN k) an)<|zAd 1<|zAa ?_)))) (fun k1=>(zAd 14<|zAa<|zAW<|zAj<|zAf<|zAd 1<|S_a [(1,.v (I (↑(k+1):Int)))] (ap (wrN k) an)<|zAd 1<|zAa ?_))
   all_goals first
    | exact ⟨k+1,⟨by omega,uf (by omega)⟩,by omega,by kernel_rfl,by kernel_rfl⟩
    | (have h5:=zVo hC hD kG yG (by assumption) (by assumption);rw [h5])
  ·have yq:=jd fun j hj=>hb j (by omega)
   clear hb jd
   refine zAh<|zAc 3<|zAa<|zAT ((↑k:Int)<(↑i:Int)) (by omega)<|zAz 12<|zAf<|zAd 1<|S_a [(1,.v (I (↑(i+1):Int)))] (ap (wrN i) an)<|zAd 1<|zAa ?_
   exact ⟨i+1,⟨by omega,yq⟩,by omega,by kernel_rfl,by kernel_rfl⟩
 have hE:=zWB hD fun i hi=>ha i (by omega)
 clear ha
 refine zAh<|zAc 3<|S_a [(0,.n n.n.length)] (ap (lnS ntV n.n) an)<|zAd 1<|zAa<|zAT ((↑i:Int)<(↑n.n.length:Int)) (by omega)<|zAz 10<|zAh<|zAc 1<|zAa<|zAi 14 ?_
 refine zAp (fun s=>s≤n.s.length∧∀ j,j<s→zIv n.h (n.s.getD j [])=true) (fun (s:Nat)=>[(12,I (s:Nat))]) (fun s=>n.s.length-s) (0:Nat) ⟨Nat.zero_le _,fun j hj=>absurd hj (Nat.not_lt_zero j)⟩ fun s ⟨hi,ha⟩=>?_
 by_cases yG:s<n.s.length
 ·have jd:=zH6 ha
  have vV:=zBA (d:=[]) hs.hr s yG
  clear ha
  refine zAh<|zAc 3<|S_a [(0,.n n.s.length)] (ap (lnS zAP n.s) an)<|zAd 1<|zAa<|zAU ((↑s:Int)<(↑n.s.length:Int)) (by omega)<|zAj<|zAh<|zAi 15<|zAc 1<|zAa<|zAi 16 ?_
  refine zAp (fun k=>k≤(n.s.getD s []).length∧∀ j,j<k→inB ((n.s.getD s []).getD j 0) 0 (n.h-1)=true) (fun (k:Nat)=>[(13,I (k:Nat))]) (fun k=>(n.s.getD s []).length-k) (0:Nat) ⟨Nat.zero_le _,fun j hj=>absurd hj (Nat.not_lt_zero j)⟩ fun k ⟨hk,hb⟩=>?_
  by_cases kG:k<(n.s.getD s []).length
  ·have uf:=zH6 hb
   clear hb jd
   refine zAh<|zAc 4<|S_a [(2,.v (zAP (n.s.getD s [])))] (ap (zBG [] (by omega):(List.map zAP n.s)[s]? = some (zAP (n.s.getD s []))) an)<|zAd 1<|S_a [(0,.n ((n.s.getD s []).length))] (ap (lnS I (n.s.getD s [])) an)<|zAd 1<|zAa<|zAU ((↑k:Int)<(↑(n.s.getD s []).length:Int)) (by omega)<|zAj<|zAh<|zAi 17<|zAc 3<|S_a [(2,.v (zAP (n.s.getD s [])))] (ap (zBG [] (by omega):(List.map zAP n.s)[s]? = some (zAP (n.s.getD s []))) an)<|zAd 2<|S_a [(2,.v (I ((n.s.getD s []).getD k 0)))] (ap (zBG (0) (by omega):(List.map I (n.s.getD s []))[k]? = some (I ((n.s.getD s []).getD k 0))) an)<|zAd 3<|S_a [(1,.v (I (n.h-1)))] (ap ((zCV rfl (by omega)):I (IntKind.i64.wrap (n.h-1))=I (n.h-1)) an)<|S_a [(10,.ret (PV.bool !inB ((n.s.getD s []).getD k 0) 0 (n.h-1)) [])] (ap (f111 ((n.s.getD s []).getD k 0) (0) (n.h-1)) an)<|zAa<|zDr (!inB ((n.s.getD s []).getD k 0) 0 (n.h-1)) (fun k1=>(zAc 1<|zAa<|zAm<|E_a [] an (I 1) [] ?_ rfl)) (fun k1=>(zAj<|zAf<|zAd 1<|S_a [(1,.v (I (↑(k+1):Int)))] (ap (wrN k) an)<|zAd 1<|zAa ?_))
   ·rw [zU1 hC hE yG kG (ntt k1)]
   ·exact ⟨k+1,⟨by omega,uf (ntf k1)⟩,by omega,by kernel_rfl,by kernel_rfl⟩
  ·have yq:=jd (zKc (d:=0) fun j hj=>hb j (by omega))
   clear hb jd
   refine zAh<|zAc 4<|S_a [(2,.v (zAP (n.s.getD s [])))] (ap (zBG [] (by omega):(List.map zAP n.s)[s]? = some (zAP (n.s.getD s []))) an)<|zAd 1<|S_a [(0,.n ((n.s.getD s []).length))] (ap (lnS I (n.s.getD s [])) an)<|zAd 1<|zAa<|zAT ((↑k:Int)<(↑(n.s.getD s []).length:Int)) (by omega)<|zAz 16<|zAf<|zAd 1<|S_a [(1,.v (I (↑(s+1):Int)))] (ap (wrN s) an)<|zAd 1<|zAa ?_
   exact ⟨s+1,⟨by omega,yq⟩,by omega,by kernel_rfl,by kernel_rfl⟩
 have hF:(n.s.all fun x=>zIv n.h x)=true:=zKc (d:=[]) fun i hi=>ha i (by omega)
 clear ha
 refine zAh<|zAc 3<|S_a [(0,.n n.s.length)] (ap (lnS zAP n.s) an)<|zAd 1<|zAa<|zAT ((↑s:Int)<(↑n.s.length:Int)) (by omega)<|zAz 14<|zAh<|zAc 1<|zAa<|zAi 18 ?_
 refine zAp (fun s=>s≤n.s.length∧∀ j,j<s→zDc (n.s.getD j [])=true) (fun (s:Nat)=>[(14,I (s:Nat))]) (fun s=>n.s.length-s) (0:Nat) ⟨Nat.zero_le _,fun j hj=>absurd hj (Nat.not_lt_zero j)⟩ fun s ⟨hi,ha⟩=>?_
 by_cases yG:s<n.s.length
 ·have jd:=zH6 ha
  have vV:=zBA (d:=[]) hs.hr s yG
  clear ha
  refine zAh<|zAc 3<|S_a [(0,.n n.s.length)] (ap (lnS zAP n.s) an)<|zAd 1<|zAa<|zAU ((↑s:Int)<(↑n.s.length:Int)) (by omega)<|zAj<|zAh<|zAi 19<|zAc 1<|zAa<|zAi 20 ?_
  refine zAp (fun m=>(m=0∨m+1≤(n.s.getD s []).length)∧∀ j,j<m→(n.s.getD s []).getD j 0<(n.s.getD s []).getD (j+1) 0) (fun (m:Nat)=>[(15,I ((m+1:Nat):Int))]) (fun m=>(n.s.getD s []).length-m) (0:Nat) ⟨.inl rfl,fun j hj=>absurd hj (Nat.not_lt_zero j)⟩ fun m ⟨hk,hb⟩=>?_
  by_cases kG:m+1<(n.s.getD s []).length
  ·have uf:=zH6 hb
   clear hb jd
   refine zAh<|zAc 4<|S_a [(2,.v (zAP (n.s.getD s [])))] (ap (zBG [] (by omega):(List.map zAP n.s)[s]? = some (zAP (n.s.getD s []))) an)<|zAd 1<|S_a [(0,.n ((n.s.getD s []).length))] (ap (lnS I (n.s.getD s [])) an)<|zAd 1<|zAa<|zAU ((↑(m+1):Int)<(↑(n.s.getD s []).length:Int)) (by omega)<|zAj<|zAh<|zAi 21<|zAc 3<|S_a [(2,.v (zAP (n.s.getD s [])))] (ap (zBG [] (by omega):(List.map zAP n.s)[s]? = some (zAP (n.s.getD s []))) an)<|zAd 2<|S_a [(1,.v (I (↑(m+1-1):Int)))] (ap ((zCV (by omega) (by omega)):I (IntKind.i64.wrap ((↑(m+1):Int)-1))=I (↑(m+1-1):Int)) an)<|S_a [(2,.v (I ((n.s.getD s []).getD m 0)))] (ap (zBG (0) (by omega):(List.map I (n.s.getD s []))[m]? = some (I ((n.s.getD s []).getD m 0))) an)<|zAd 4<|S_a [(2,.v (zAP (n.s.getD s [])))] (ap (zBG [] (by omega):(List.map zAP n.s)[s]? = some (zAP (n.s.getD s []))) an)<|zAd 2<|S_a [(2,.v (I ((n.s.getD s []).getD (m+1) 0)))] (ap (zBG (0) (by omega):(List.map I (n.s.getD s []))[m+1]? = some (I ((n.s.getD s []).getD (m+1) 0))) an)<|zAd 2<|zAa<|zCb ((n.s.getD s []).getD m 0≥(n.s.getD s []).getD (m+1) 0) (fun k0=>(zAc 1<|zAa<|zAm<|E_a [] an (I 4) [] ?_ rfl)) (fun k0=>(zAj<|zAf<|zAd 1<|S_a [(1,.v (I (↑(m+1+1):Int)))] (ap ((zCV (by omega) (by omega)):I (IntKind.i64.wrap ((↑(m+1):Int)+1))=I (↑(m+1+1):Int)) an)<|zAd 1<|zAa ?_))
   ·rw [zVK hC hE hF yG kG k0]
   ·exact ⟨m+1,⟨.inr (by omega),uf (by omega)⟩,by omega,by kernel_rfl,by kernel_rfl⟩
  ·have yq:=jd (zWw fun j hj=>hb j (by omega))
   clear hb jd
   refine zAh<|zAc 4<|S_a [(2,.v (zAP (n.s.getD s [])))] (ap (zBG [] (by omega):(List.map zAP n.s)[s]? = some (zAP (n.s.getD s []))) an)<|zAd 1<|S_a [(0,.n ((n.s.getD s []).length))] (ap (lnS I (n.s.getD s [])) an)<|zAd 1<|zAa<|zAT ((↑(m+1):Int)<(↑(n.s.getD s []).length:Int)) (by omega)<|zAz 20<|zAf<|zAd 1<|S_a [(1,.v (I (↑(s+1):Int)))] (ap (wrN s) an)<|zAd 1<|zAa ?_
   exact ⟨s+1,⟨by omega,yq⟩,by omega,by kernel_rfl,by kernel_rfl⟩
 have hG:(n.s.all fun x=>zDc x)=true:=zKc (d:=[]) fun i hi=>ha i (by omega)
 have hR:=zWR hC hE hF hG
 clear ha
 refine zAh<|zAc 3<|S_a [(0,.n n.s.length)] (ap (lnS zAP n.s) an)<|zAd 1<|zAa<|zAT ((↑s:Int)<(↑n.s.length:Int)) (by omega)<|zAz 18<|zAc 1<|zAa<|zAm<|E_a [] an (I 0) [] (by simp [*]) rfl
end Go.Eng
set_option maxRecDepth 10000
set_option maxHeartbeats 4000000
namespace Go.Eng
open Go Go.Proofs
theorem f39 (n:Nw) (cs:List (Int×Int)) (hs:Small n) (hl:cs.length<1000000):FG 39 [nwV n,prs cs] (I (zBT n cs)):=by
 have h2:=hs.hn
 have h3:=hs.hs
 refine zAe Tryz.f39 ?_
 by_cases he:zCT n=0
 ·have hn:=zSJ he
  refine zAc 2<|zAa<|zAh<|zAc 1<|S_a [(6,.ret (I (zCT n)) [])] (ap (f117 n (by omega)) an)<|zAd 1<|zAa<|zAc 2<|zAa<|zEt (zCT n=0) (by omega)<|zAj<|zAh<|zAc 1<|S_a [(0,.n cs.length)] (ap (lnS prV cs) an)<|zAd 1<|zAa<|zCb ((↑cs.length:Int)>16) (fun k0=>(zAc 1<|zAa<|zAm<|E_a [] an (I 2) [] ?_ rfl)) (fun k0=>(zAj<|zAh<|zAc 1<|zAa<|zAi 0 ?_))
  ·simp only [zBT,he,k0,if_true]
  have hx:zBT n cs=if (!cs.all fun c=>zGL n c)=true then 1 else 0:=by simp only [zBT,he,k0,if_true,if_false]
  rw [hx]
  refine zAp (fun i=>i≤cs.length∧∀ j,j<i→zGL n (cs.getD j default)=true) (fun (i:Nat)=>[(6,I (i:Nat))]) (fun i=>cs.length-i) (0:Nat) ⟨Nat.zero_le _,fun j hj=>absurd hj (Nat.not_lt_zero j)⟩ fun i ⟨hi,ha⟩=>?_
  by_cases yG:i<cs.length
  ·have jd:=zH6 ha
   clear ha
   refine zAh<|zAc 2<|S_a [(0,.n cs.length)] (ap (lnS prV cs) an)<|zAd 1<|zAa<|zAU ((↑i:Int)<(↑cs.length:Int)) (by omega)<|zAj<|zAh<|zAi 1<|zAc 2<|S_a [(2,.v (PV.agg [I (cs.getD i default).fst,I (cs.getD i default).snd]))] (ap (zBG default (by omega):(List.map prV cs)[i]? = some (PV.agg [I (cs.getD i default).fst,I (cs.getD i default).snd])) an)<|zAd 4<|S_a [(0,.n n.n.length)] (ap (lnS ntV n.n) an)<|S_a [(1,.v (I ((↑n.n.length:Int)-1)))] (ap ((zCV rfl (by omega)):I (IntKind.i64.wrap ((↑n.n.length:Int)-1))=I ((↑n.n.length:Int)-1)) an)<|S_a [(10,.ret (PV.bool !inB (cs.getD i default).fst 0 ((↑n.n.length:Int)-1)) [])] (ap (f111 ((cs.getD i default).fst) (0) ((↑n.n.length:Int)-1)) an)<|zAd 1<|zEl 31 (!inB (cs.getD i default).fst 0 ((↑n.n.length:Int)-1)) (fun k1=>(zAd 11<|zAa<|zBR<|zAc 1<|zAa<|zAm<|E_a [] an (I 1) [] ?_ rfl)) (fun k1=>(zAd 2<|S_a [(2,.v (PV.agg [I (cs.getD i default).fst,I (cs.getD i default).snd]))] (ap (zBG default (by omega):(List.map prV cs)[i]? = some (PV.agg [I (cs.getD i default).fst,I (cs.getD i default).snd])) an)<|zAd 4<|S_a [(0,.n n.s.length)] (ap (lnS zAP n.s) an)<|S_a [(1,.v (I ((↑n.s.length:Int)-1)))] (ap ((zCV rfl (by omega)):I (IntKind.i64.wrap ((↑n.s.length:Int)-1))=I ((↑n.s.length:Int)-1)) an)<|S_a [(10,.ret (PV.bool !inB (cs.getD i default).snd 0 ((↑n.s.length:Int)-1)) [])] (ap (f111 ((cs.getD i default).snd) (0) ((↑n.s.length:Int)-1)) an)<|zAd 1<|zAa<|zDr (!inB (cs.getD i default).snd 0 ((↑n.s.length:Int)-1)) (fun k2=>(zAc 1<|zAa<|zAm<|E_a [] an (I 1) [] ?_ rfl)) (fun k2=>(zAj<|zAf<|zAd 1<|S_a [(1,.v (I (↑(i+1):Int)))] (ap (wrN i) an)<|zAd 1<|zAa ?_))))
   ·rw [zJk (d:=default) yG (by simp only [zGL,ntt k1,Bool.false_and])];rfl
   ·rw [zJk (d:=default) yG (by simp only [zGL,ntt k2,Bool.and_false])];rfl
   ·exact ⟨i+1,⟨by omega,jd (by simp only [zGL,ntf k1,ntf k2,Bool.true_and])⟩,by omega,by kernel_rfl,by kernel_rfl⟩
  have hA:(cs.all fun c=>zGL n c)=true:=zKc fun i hi=>ha i (by omega)
  clear ha
  rw [hA]
  refine zAh<|zAc 2<|S_a [(0,.n cs.length)] (ap (lnS prV cs) an)<|zAd 1<|zAa<|zAT ((↑i:Int)<(↑cs.length:Int)) (by omega)<|zAz 0<|zAc 1<|zAa<|zAm<|E_a [] an (I 0) [] rfl rfl
 ·refine zAc 2<|zAa<|zAh<|zAc 1<|S_a [(6,.ret (I (zCT n)) [])] (ap (f117 n (by omega)) an)<|zAd 1<|zAa<|zAc 2<|zAa<|zDm (zCT n=0) (by omega)<|zAc 2<|zAa<|zAm<|E_a [] an (I (zCT n)) [] ?_ rfl
  simp only [zBT,he,if_false]
theorem f93 (n:Nw) (cs:List (Int×Int)) (e:Int) (hs:Small n) (hl:cs.length<1000000):FG 93 [nwV n,prs cs,I e] (I (zDa n cs e)):=by
 refine zAe Tryz.f93 ?_
 by_cases he:zBT n cs=0
 ·refine zAc 2<|zAa<|zAh<|zAc 2<|S_a [(8,.ret (I (zBT n cs)) [])] (ap (f39 n cs (by omega) (by omega)) an)<|zAd 1<|zAa<|zAc 2<|zAa<|zEt (zBT n cs=0) (by omega)<|zAj<|zAh<|zAc 1<|S_a [(10,.ret (PV.bool !inB e 0 12) [])] (ap (f111 e (0) (12)) an)<|zAa<|zDr (!inB e 0 12) (fun k0=>(zAc 1<|zAa<|zAm<|E_a [] an (I 3) [] ?_ rfl)) (fun k0=>(zAj<|zAc 1<|zAa<|zAm<|E_a [] an (I 0) [] ?_ rfl))
  ·simp only [zDa,he,ntt k0,if_true];rfl
  ·simp only [zDa,he,ntf k0,if_true]
 ·refine zAc 2<|zAa<|zAh<|zAc 2<|S_a [(8,.ret (I (zBT n cs)) [])] (ap (f39 n cs (by omega) (by omega)) an)<|zAd 1<|zAa<|zAc 2<|zAa<|zDm (zBT n cs=0) (by omega)<|zAc 2<|zAa<|zAm<|E_a [] an (I (zBT n cs)) [] ?_ rfl
  simp only [zDa,he,if_false]
end Go.Eng
set_option maxRecDepth 10000
set_option maxHeartbeats 4000000
namespace Go.Eng
open Go Go.Proofs
end Go.Eng
set_option maxRecDepth 10000
set_option maxHeartbeats 4000000
namespace Go.Eng
open Go Go.Proofs
theorem zUE {n:Nw} {cs:List (Int×Int)} (h:zGj n cs=false):cs.length≤24∧Small n:=by
 simp only [zGj,Bool.or_eq_false_iff,decide_eq_false_iff_not,List.any_eq_false,decide_eq_true_eq] at h
 exact ⟨by omega,by omega,by omega,by omega,fun r hr=>by have:=h.2.2.2.2 r hr;omega⟩
end Go.Eng
set_option maxHeartbeats 1000000
namespace Go.Eng
open Go
theorem zNf:∀ {a b:List Int},a.Pairwise (· < ·)→b.Pairwise (· < ·)→(∀ x,x∈a↔x∈b)→a=b
 | [],[],_,_,_=>rfl
 | [],y::b,_,_,h=>absurd ((h y).2 (by simp)) (by simp)
 | x::a,[],_,_,h=>absurd ((h x).1 (by simp)) (by simp)
 | x :: a,y::b,ha,hb,h=>by
  rw [List.pairwise_cons] at ha hb
  have e:x=y:=by
   have h1:=(h x).1 (by simp)
   have h2:=(h y).2 (by simp)
   rcases List.mem_cons.1 h1 with h1 | h1
   ·exact h1
   rcases List.mem_cons.1 h2 with h2 | h2
   ·exact h2.symm
   have:=ha.1 y h2
   have:=hb.1 x h1
   omega
  subst e
  rw [zNf ha.2 hb.2 fun z=>?_]
  constructor
  ·intro hz
   rcases List.mem_cons.1 ((h z).1 (List.mem_cons_of_mem _ hz)) with rfl | h1
   ·exact absurd (ha.1 z hz) (by omega)
   ·exact h1
  ·intro hz
   rcases List.mem_cons.1 ((h z).2 (List.mem_cons_of_mem _ hz)) with rfl | h1
   ·exact absurd (hb.1 z hz) (by omega)
   ·exact h1
theorem zJy {p:Nat→Bool} {k:Nat} {x:Int}:x∈zB3 p k↔∃ i:Nat,i<k∧p i=true∧x=i:=by
 simp only [zB3,List.mem_map,List.mem_filter,List.mem_range]
 constructor
 ·rintro ⟨i,⟨h1,h2⟩,rfl⟩;exact ⟨i,h1,h2,rfl⟩
 ·rintro ⟨i,h1,h2,rfl⟩;exact ⟨i,⟨h1,h2⟩,rfl⟩
theorem zG5 {p:Nat→Bool}:∀ k,(zB3 p k).Pairwise (· < ·)
 | 0=>by simp [zB3]
 | k + 1=>by
  rw [zFZ]
  split
  ·rw [List.pairwise_append]
   refine ⟨zG5 k,by simp,fun a ha b hb=>?_⟩
   have:=zJy.1 ha
   obtain ⟨i,hi,_,rfl⟩:=this
   have:=List.mem_singleton.1 hb
   omega
  ·exact zG5 k
theorem zOU {l:List Int} {x:Int}:x∈zDC l↔x∈l:=by simp [zDC]
theorem zOd {l:List Int}:(zDC l).length=l.length:=by simp [zDC]
theorem zQl (l:List Int):(zDC l).Pairwise (· ≤ ·):=by
 have:=List.pairwise_mergeSort (le:=fun (x y:Int)=>decide (x≤y)) (fun a b c h1 h2=>by simp at *;omega) (fun a b=>by simp;omega) l
 exact this.imp (by simp)
theorem zTU {l:List Int} (h:l.Nodup):(zDC l).Pairwise (· < ·):=by
 have h1:=zQl l
 have h2:(zDC l).Nodup:=(List.mergeSort_perm l _).nodup_iff.2 h
 have:=h1.and h2
 exact this.imp (fun ⟨a,b⟩=>by omega)
theorem zTw {l:List Int} {p:Nat→Bool} {k:Nat} (yU:l.Nodup) (hm:∀ x,x∈l↔∃ i:Nat,i<k∧p i=true∧x=i):zDC l=zB3 p k :=
 zNf (zTU yU) (zG5 k) fun x=>by rw [zOU,hm,zJy]
theorem zVm {l:List Int} (h:l.Pairwise (· ≤ ·)):(zEy l).Pairwise (· < ·)∧∀ x,x∈zEy l↔x∈l:=by
 have key:∀ (l o:List Int),o.Pairwise (· < ·)→l.Pairwise (· ≤ ·)→(∀ x∈o,∀ y∈l,x≤y)→(l.foldl zPT o).Pairwise (· < ·)∧∀ x,x∈l.foldl zPT o↔x∈o∨x∈l:=by
  intro l
  induction l with
  | nil=>intro o ho _ _;simpa using ho
  | cons y l ih =>
   intro o ho hl ql
   rw [List.pairwise_cons] at hl
   rw [List.foldl_cons]
   by_cases hy:o.getLast? = some y
   ·have e:zPT o y=o:=by rw [zPT,if_pos hy]
    rw [e]
    have wa:=List.mem_of_getLast? hy
    obtain ⟨a,b⟩:=ih o ho hl.2 fun x hx z hz=>ql x hx z (List.mem_cons_of_mem _ hz)
    refine ⟨a,fun x=>?_⟩
    rw [b,List.mem_cons]
    constructor
    ·rintro (h | h);exact .inl h;exact .inr (.inr h)
    ·rintro (h | rfl | h);exact .inl h;exact .inl wa;exact .inr h
   ·have e:zPT o y=o++[y]:=by rw [zPT,if_neg hy]
    rw [e]
    have yD:∀ x∈o,x<y:=by
     intro x hx
     have h1:=ql x hx y (by simp)
     rcases Int.lt_or_eq_of_le h1 with h2 | rfl
     ·exact h2
     exfalso
     have hI:o≠[]:=List.ne_nil_of_mem hx
     have hz:o.getLast? = some (o.getLast hI):=List.getLast?_eq_some_getLast hI
     have hzm:=List.getLast_mem hI
     have hzx:=ql _ hzm x (by simp)
     rcases Int.lt_or_eq_of_le hzx with h3 | h3
     ·obtain ⟨o',ho'⟩:∃ o',o=o'++[o.getLast hI]:=⟨_,(List.dropLast_concat_getLast hI).symm⟩
      rw [ho',List.pairwise_append] at ho
      rw [ho'] at hx
      rcases List.mem_append.1 hx with h4 | h4
      ·have:=ho.2.2 x h4 _ (List.mem_singleton.2 rfl);omega
      ·have:=List.mem_singleton.1 h4;omega
     ·rw [h3] at hz;exact hy hz
    obtain ⟨a,b⟩:=ih (o++[y]) (by
     rw [List.pairwise_append]
     exact ⟨ho,by simp,fun x hx z hz=>by rw [List.mem_singleton.1 hz];exact yD x hx⟩) hl.2 fun x hx z hz=>by
      rcases List.mem_append.1 hx with h1 | h1
      ·exact ql x h1 z (List.mem_cons_of_mem _ hz)
      ·rw [List.mem_singleton.1 h1];exact hl.1 z hz
    refine ⟨a,fun x=>?_⟩
    rw [b,List.mem_append,List.mem_singleton,List.mem_cons]
    constructor
    ·rintro ((h | h) | h);exact .inl h;exact .inr (.inl h);exact .inr (.inr h)
    ·rintro (h | h | h);exact .inl (.inl h);exact .inl (.inr h);exact .inr h
 have:=key l [] (by simp) h (by simp)
 exact ⟨this.1,fun x=>by rw [zEy,this.2];simp⟩
theorem zTA {l:List Int} {p:Nat→Bool} {k:Nat} (hm:∀ x,x∈l↔∃ i:Nat,i<k∧p i=true∧x=i):zEy (zDC l)=zB3 p k:=by
 obtain ⟨a,b⟩:=zVm (zQl l)
 exact zNf a (zG5 k) fun x=>by rw [b,zOU,hm,zJy]
def zS1 (n:Nw) (h:Int) (cs:List (Int×Int)):List Int:=(cs.filter fun c=>has (n.s.getD c.2.toNat []) h).map (·.1)
theorem zSE {n:Nw} {h:Int} {cs:List (Int×Int)} (hc:∀ c∈cs,(0≤c.1∧c.1<n.n.length)∧(0≤c.2∧c.2<n.s.length)):zEy (zDC (zS1 n h cs))=zB3 (fun i=>zDR n cs h i) n.n.length:=by
 refine zTA fun x=>?_
 simp only [zS1,List.mem_map,List.mem_filter,zDR,hrB,List.any_eq_true,Bool.and_eq_true,decide_eq_true_eq]
 constructor
 ·rintro ⟨c,⟨h1,h2⟩,rfl⟩
  have:=hc c h1
  exact ⟨c.1.toNat,by omega,⟨c,h1,by omega,h2⟩,by omega⟩
 ·rintro ⟨i,hi,⟨c,h1,h2,h3⟩,rfl⟩
  exact ⟨c,⟨h1,h3⟩,h2⟩
def zSs (w:List Int) (h:Nat):List Int:=(w.drop (h*8)).take 8
def zXj (w:List Int) (h:Nat):List Int:=(zSs w h).filter fun x=>decide (x≠-1)
theorem zTl {n:Nw} {K:List (List Bool)} {w:List Int} {h:Nat} (ho:NwOk n) (hr:RelK n K w) (hh:h<n.h.toNat):zDC (zXj w h)=zB3 (hld n w h) n.n.length:=by
 have hH:=ho.h
 have gi:=hr.wl
 have vV:(zSs w h).length=8:=by simp [zSs];omega
 have j7:∀ c,c<8→(zSs w h).getD c 0=w.getD (h*8+c) 0:=fun c hc=>zOO hc
 refine zTw ?_ fun x=>?_
 ·unfold zXj
  rw [List.Nodup,List.pairwise_filter,List.pairwise_iff_getElem]
  intro i j hi hj qH h1 h2
  have e1:=j7 i (by omega)
  have e2:=j7 j (by omega)
  rw [zAs hi] at e1
  rw [zAs hj] at e2
  rw [e1] at h1 ⊢
  rw [e2] at h2 ⊢
  simp only [decide_eq_true_eq] at h1 h2
  intro he
  rcases hr.at_ h i hh (by omega) with h3 | ⟨a,_,h4,h5,_⟩
  ·exact h1 h3
  rcases hr.at_ h j hh (by omega) with h6 | ⟨b,_,h7,h8,_⟩
  ·exact h2 h6
  have:a=b:=by omega
  subst this
  omega
 ·simp only [zXj,List.mem_filter,decide_eq_true_eq,hld]
  constructor
  ·rintro ⟨h1,h2⟩
   obtain ⟨c,hc,rfl⟩:=List.getElem_of_mem h1
   have e1:=j7 c (by omega)
   rw [zAs hc] at e1
   rw [e1] at h2 ⊢
   rcases hr.at_ h c hh (by omega) with h3 | ⟨a,ha,h4,h5,_⟩
   ·exact absurd h3 h2
   refine ⟨a,ha,?_,h5⟩
   rw [h4]
   simpa using h5
  ·rintro ⟨i,hi,h1,rfl⟩
   have hf:=zB4 ho i hi
   have uH:=ho.nl
   refine ⟨?_,by omega⟩
   have e1:=j7 ((zAl n).getD i 0).toNat (by omega)
   rw [h1] at e1
   have yD:((zAl n).getD i 0).toNat<(zSs w h).length:=by omega
   rw [zAs yD] at e1
   rw [← e1]
   exact List.getElem_mem yD
end Go.Eng
set_option maxRecDepth 10000
set_option maxHeartbeats 4000000
namespace Go.Eng
open Go Go.Proofs
section
variable [Yo]
theorem f56 (l:List Int) (hl:l.length≤4294967296):zC4 Tryz.prog zJW 56 [.bor 50000000 [] 1 0 l.length] [.own 1 (l.map I)] (.tup []) [.own 1 ((zDC l).map I)]:=zQa (fn:=Tryz.f56) l hl
end
theorem zRp {n:Nw} {h:Int} {cs:List (Int×Int)} {i:Nat} (hi:i<cs.length):zS1 n h (cs.take (i+1))=if has (n.s.getD (cs.getD i default).2.toNat []) h=true then zS1 n h (cs.take i)++[(cs.getD i default).1] else zS1 n h (cs.take i):=by
 rw [zBP (d:=default) hi]
 unfold zS1
 rw [List.filter_append,List.map_append]
 by_cases hp:has (n.s.getD (cs.getD i default).2.toNat []) h=true
 ·rw [if_pos hp];simp only [List.filter_cons,hp,if_true,List.filter_nil,List.map_cons,List.map_nil]
 ·rw [if_neg hp];simp only [List.filter_cons,hp,List.filter_nil,List.map_nil,List.append_nil];simp
theorem zTy {n:Nw} {h:Int} {cs:List (Int×Int)}:(zS1 n h cs).length≤cs.length:=by
 unfold zS1;rw [List.length_map];exact List.length_filter_le _ _
theorem f68_1 (n:Nw) (cs:List (Int×Int)) (h:Int) (ho:CrOk n cs) (hh:0≤h∧h<n.h):FG 68 [nwV n,prs cs,I h] (.tup [.own 1 ((zB3 (fun i=>zDR n cs h i) n.n.length).map I),I 0]):=by
 have hn:=ho.nw
 have uV:=ho.w
 have yN:=ho.len
 have hH:=hn.h
 have hin:inB h 0 (n.h-1)=true:=by simp only [inB,Bool.and_eq_true,decide_eq_true_eq];omega
 rw [← zSE ho.cs]
 refine zAe Tryz.f68 ?_
 refine zAc 3<|zAa<|zAc 2<|S_a [(8,.ret (PV.tup [zDv n cs,I 0]) [])] (ap (f99_1 n cs (by omega)) an)<|zAd 5<|zAa<|zAh<|zAi 0<|zAc 3<|zAa<|zAW<|zAc 2<|S_a [(8,.ret (PV.bool (inB h 0 (n.h-1))) [])] (ap (f109 n h (by omega)) an)<|zAd 2<|zAa<|zDr (!inB h 0 (n.h-1)) (fun k0=>(zAc 2<|zAa<|zAm<|E_a [] an (PV.tup [PV.own 1 [],I 1]) [] ?_ rfl)) (fun k0=>(zAj<|zAc 1<|zAa<|zAh<|zAc 1<|S_a [(0,.n cs.length)] (ap (lnS prV cs) an)<|zAd 1<|zAa<|zAi 1 ?_))
 ·rw [hin] at k0;cases k0
 refine zAp (fun (i,l)=>i≤cs.length∧l=zS1 n h (cs.take i)) (fun (i,l)=>[(10,.own 1 (l.map I)),(30,I (i:Nat))]) (fun (i,_)=>cs.length-i) ((0:Nat),([]:List Int)) ⟨by omega,rfl⟩ fun (i,l) ⟨hi,hl⟩=>?_
 have vg:l.length≤i:=by rw [hl];exact Nat.le_trans zTy (by simp;omega)
 by_cases yG:i<cs.length
 ·have gz:=zBA (d:=default) ho.cs i yG
  have yT:=zRp (n:=n) (h:=h) yG
  rw [← hl] at yT
  clear hl
  have jA:=gz.2
  refine zAc 1<|zAa<|zAh<|zAU ((↑i:Int)<(↑cs.length:Int)) (by omega)<|zAj<|zAh<|zAi 2<|zAh<|zAf<|S_a [(2,.v (PV.agg [I (cs.getD i default).fst,I (cs.getD i default).snd]))] (ap (zBG default (by omega):(List.map prV cs)[i]? = some (PV.agg [I (cs.getD i default).fst,I (cs.getD i default).snd])) an)<|zAd 3<|zAa<|zAc 4<|S_a [(9,.ret (PV.bool (has (n.s.getD (cs.getD i default).snd.toNat []) h)) [])] (ap (f140 n (prs cs) (List.map pr2 n.l) (zAl n) (zA6 n) (by omega) h ((cs.getD i default).snd) (by omega)) an)<|zAa<|zDr (has (n.s.getD (cs.getD i default).snd.toNat []) h) (fun k1=>(zAf<|zAd 4<|S_a [(4,.ob),(0,.ob),(0,.yes),(2,.v (PV.own 1 (List.map I (l++[(cs.getD i default).fst]))))] (ap (blz (List.map I l))<|ap ((by exact zBp (by simp only [List.length_map,zzLn,zAZ]<;>omega)):((List.map I l).length + [I (cs.getD i default).fst].length).ble zAZ=true)<|ap ((by exact zBs (by simp<;>omega)):(0+(List.map I l).length).beq (List.map I l).length=true)<|ap ((zAM (zCh (by kernel_rfl))):PV.own 1 (List.map I l++[I (cs.getD i default).fst])=PV.own 1 (List.map I (l++[(cs.getD i default).fst]))) an)<|zAd 1<|zAa<|zAf<|S_a [(1,.v (I (↑(i+1):Int)))] (ap (wrN i) an)<|zAd 1<|zAa ?_)) (fun k1=>(zAj<|zAf<|S_a [(1,.v (I (↑(i+1):Int)))] (ap (wrN i) an)<|zAd 1<|zAa ?_))
  ·rw [if_pos k1] at yT
   exact ⟨(i+1,l++[(cs.getD i default).1]),⟨by omega,yT.symm⟩,by simp only;omega,by kernel_rfl,by kernel_rfl⟩
  ·rw [if_neg (by rw [k1];simp)] at yT
   exact ⟨(i+1,l),⟨by omega,yT.symm⟩,by simp only;omega,by kernel_rfl,by kernel_rfl⟩
 ·rw [List.take_of_length_le (by omega)] at hl
  have jS:(zDC l).length=l.length:=zOd
  rw [← hl]
  clear hl
  refine zAc 1<|zAa<|zAh<|zAT ((↑i:Int)<(↑cs.length:Int)) (by omega)<|zAz 1<|zAc 1<|S_a [(3,.vs ([PV.bor 50000000 [] 1 0 l.length])),(0,.ret (PV.tup []) ([PV.own 1 (List.map I (zDC l))]))] (ap ((by simp) : [PV.bor 50000000 [] 1 0 (List.map I l).length]=[PV.bor 50000000 [] 1 0 l.length])<|ap (f56 l (by omega)) an)<|zAa<|zAc 1<|S_a [(3,.ob),(1,.v (PV.own 1 (List.map I (zDC l)))),(2,.ret (PV.own 1 (List.map I (zEy (zDC l)))) [])] (ap ((by exact zBp (by simp only [List.length_map,zzLn,zAZ]<;>omega)):(List.map I (zDC l)).length.ble (List.map I (zDC l)).length=true)<|ap ((zAM zAG):PV.own 1 (List.take (List.map I (zDC l)).length (List.drop 0 (List.map I (zDC l))))=PV.own 1 (List.map I (zDC l)))<|ap (f97 (zDC l) (by omega)) an)<|zAd 2<|zAa<|zAm<|E_a [(1,.yes),(1,.v (PV.own 1 (List.map I (zEy (zDC l)))))] (ap (blz (List.map I (zEy (zDC l))))<|ap ((zAM zAG):PV.own 1 (List.take (List.map I (zEy (zDC l))).length (List.drop 0 (List.map I (zEy (zDC l)))))=PV.own 1 (List.map I (zEy (zDC l)))) an) (PV.tup [PV.own 1 (List.map I (zEy (zDC l))),I 0]) [] rfl rfl
theorem f68_2 (n:Nw) (cs:List (Int×Int)) (h:Int) (ho:CrOk n cs) (hh:inB h 0 (n.h-1)=false):FG 68 [nwV n,prs cs,I h] (.tup [.own 1 [],I 1]):=by
 have hn:=ho.nw
 have hH:=hn.h
 refine zAe Tryz.f68 ?_
 refine zAc 3<|zAa<|zAc 2<|S_a [(8,.ret (PV.tup [zDv n cs,I 0]) [])] (ap (f99_1 n cs (by omega)) an)<|zAd 5<|zAa<|zAh<|zAi 0<|zAc 3<|zAa<|zAW<|zAc 2<|S_a [(8,.ret (PV.bool (inB h 0 (n.h-1))) [])] (ap (f109 n h (by omega)) an)<|zAd 2<|zAa<|zDr (!inB h 0 (n.h-1)) (fun k0=>(zAc 2<|zAa<|zAm<|E_a [] an (PV.tup [PV.own 1 [],I 1]) [] rfl rfl)) (fun k0=>(zAj<|zAc 1<|zAa<|zAh<|zAc 1<|S_a [(0,.n cs.length)] (ap (lnS prV cs) an)<|zAd 1<|zAa<|zAi 1 ?_))
 rw [hh] at k0;cases k0
theorem f68_3 (n:Nw) (cs:List (Int×Int)) (h:Int) (hs:Small n) (hl:cs.length<1000000) (ho:¬ zBT n cs=0):FG 68 [nwV n,prs cs,I h] (.tup [.own 1 [],I (zBT n cs)]):=by
 refine zAe Tryz.f68 ?_
 refine zAc 3<|zAa<|zAc 2<|S_a [(8,.ret (PV.tup [PV.nilp,I (zBT n cs)]) [])] (ap (f99_2 n cs (by omega) (by omega) (by omega)) an)<|zAd 5<|zAa<|zAh<|zAi 0<|zAc 3<|zAa<|zDm (zBT n cs=0) (by omega)<|zAc 3<|zAa<|zAm<|E_a [] an (PV.tup [PV.own 1 [],I (zBT n cs)]) [] rfl rfl
def zXo (x:Int):Bool:=decide (x≠-1)
theorem zRC {p:Int→Bool} {l:List Int} {i:Nat} (hi:i<l.length):(l.take (i+1)).filter p=if p (l.getD i 0)=true then (l.take i).filter p++[l.getD i 0] else (l.take i).filter p:=by
 rw [zBP (d:=0) hi,List.filter_append]
 by_cases hp:p (l.getD i 0)=true
 ·rw [if_pos hp];simp only [List.filter_cons,hp,if_true,List.filter_nil]
 ·rw [if_neg hp];simp only [List.filter_cons,hp,List.filter_nil,List.append_nil];simp
theorem f51_1 (n:Nw) (cs:List (Int×Int)) (e:Int) (h:Nat) (ho:EvOk n cs e) (hh:(h:Int)<n.h):FG 51 [nwV n,prs cs,I e,I h] (.tup [.own 1 ((zB3 (hld n (zBl n cs e.toNat) h) n.n.length).map I),I 0]):=by
 have hc:=ho.cr
 have uV:=hc.w
 have hn:=hc.nw
 have he:=ho.ev
 have hH:=hn.h
 have hin:inB h 0 (n.h-1)=true:=by simp only [inB,Bool.and_eq_true,decide_eq_true_eq];omega
 rw [← zTl hn (zIG uV e.toNat) (by omega)]
 have gi:=zCJ (n:=n) (cs:=cs) e.toNat
 refine zAe Tryz.f51 ?_
 refine zAc 3<|zAa<|zAc 3<|S_a [(10,.ret (PV.tup [zDv n cs,I 0]) [])] (ap (f90_1 n cs e (by omega)) an)<|zAd 5<|zAa<|zAh<|zAi 0<|zAc 3<|zAa<|zAW<|zAc 2<|S_a [(8,.ret (PV.bool (inB (↑h:Int) 0 (n.h-1))) [])] (ap (f109 n ((↑h:Int)) (by omega)) an)<|zAd 2<|zAa<|zDr (!inB (↑h:Int) 0 (n.h-1)) (fun k0=>(zAc 2<|zAa<|zAm<|E_a [] an (PV.tup [PV.own 1 [],I 1]) [] ?_ rfl)) (fun k0=>(zAj<|zAc 1<|zAa<|zAh<|zAc 2<|S_a [(7,.ret (hdV (zBl n cs e.toNat)) [])] (ap (f92 n cs e (by omega) (by omega)) an)<|zAd 1<|S_a [(2,.ob),(0,.v (PV.agg (zAS (List.take 8 (List.drop (h*8) (zBl n cs e.toNat))) 8)))] (ap ((by exact zAq (by omega)):decide (h<10)=true)<|ap (zOE (K:=8) (c:=h*8) (by omega) (by first | rfl | exact zC6 (by kernel_rfl) | (simp;done)) (by omega) (by kernel_rfl):sub (PV.agg (zAS (zBl n cs e.toNat) 80)) (h*(fun x=>x.size) Tryz.prog.types[128]) (some Tryz.prog.types[128].size)=some (PV.agg (zAS (List.take 8 (List.drop (h*8) (zBl n cs e.toNat))) 8))) an)<|zAd 1<|zAa<|zAi 1 ?_))
 ·rw [hin] at k0;cases k0
 generalize zBl n cs e.toNat=w at *
 have vV:(zSs w h).length=8:=by simp [zSs];omega
 refine zAp (fun (i,l)=>i≤8∧l=((zSs w h).take i).filter zXo) (fun (i,l)=>[(12,.own 1 (l.map I)),(36,I (i:Nat))]) (fun (i,_)=>8-i) ((0:Nat),([]:List Int)) ⟨by omega,rfl⟩ fun (i,l) ⟨hi,hl⟩=>?_
 have vg:l.length≤i:=by rw [hl];exact Nat.le_trans (List.length_filter_le _ _) (by simp;omega)
 by_cases yG:i<8
 ·have yT:=zRC (p:=zXo) (l:=zSs w h) (i:=i) (by omega)
  rw [← hl,show (zSs w h).getD i 0=((w.drop (h*8)).take 8).getD i 0 from rfl] at yT
  clear hl
  refine zAc 1<|zAa<|zAh<|zAU ((↑i:Int)<8) (by omega)<|zAj<|zAh<|zAi 2<|zAh<|zAf<|S_a [(2,.ob),(0,.v (I ((List.take 8 (List.drop (h*8) w)).getD i 0)))] (ap ((by exact zAq (by omega)):decide (i<8)=true)<|ap (zN6 (F:=List.take 8 (List.drop (h*8) w)) (m:=8) (j:=i) (by omega):sub (PV.agg (zAS (List.take 8 (List.drop (h*8) w)) 8)) (i*(fun x=>x.size) Tryz.prog.types[3]) none=some (I ((List.take 8 (List.drop (h*8) w)).getD i 0))) an)<|zAd 1<|zAa<|zAc 2<|zAa<|zDb ((List.take 8 (List.drop (h*8) w)).getD i 0 = -1) (fun k1=>(zAf<|zAd 3<|S_a [(4,.ob),(0,.ob),(0,.yes),(2,.v (PV.own 1 (List.map I (l++[(List.take 8 (List.drop (h*8) w)).getD i 0]))))] (ap (blz (List.map I l))<|ap ((by exact zBp (by simp only [List.length_map,zzLn,zAZ]<;>omega)):((List.map I l).length + [I ((List.take 8 (List.drop (h*8) w)).getD i 0)].length).ble zAZ=true)<|ap ((by exact zBs (by simp<;>omega)):(0+(List.map I l).length).beq (List.map I l).length=true)<|ap ((zAM (zCh (by kernel_rfl))):PV.own 1 (List.map I l++[I ((List.take 8 (List.drop (h*8) w)).getD i 0)])=PV.own 1 (List.map I (l++[(List.take 8 (List.drop (h*8) w)).getD i 0]))) an)<|zAd 1<|zAa<|zAf<|S_a [(1,.v (I (↑(i+1):Int)))] (ap (wrN i) an)<|zAd 1<|zAa ?_)) (fun k1=>(zAj<|zAf<|S_a [(1,.v (I (↑(i+1):Int)))] (ap (wrN i) an)<|zAd 1<|zAa ?_))
  ·rw [if_pos (by simp only [zXo,decide_eq_true_eq];exact k1)] at yT
   exact ⟨(i+1,l++[((w.drop (h*8)).take 8).getD i 0]),⟨by omega,yT.symm⟩,by simp only;omega,by kernel_rfl,by kernel_rfl⟩
  ·rw [if_neg (by simp only [zXo,decide_eq_true_eq];exact fun h=>h k1)] at yT
   exact ⟨(i+1,l),⟨by omega,yT.symm⟩,by simp only;omega,by kernel_rfl,by kernel_rfl⟩
 ·rw [List.take_of_length_le (by omega)] at hl
  have jS:(zDC l).length=l.length:=zOd
  rw [show zXj w h=l from hl.symm]
  clear hl
  refine zAc 1<|zAa<|zAh<|zAT ((↑i:Int)<8) (by omega)<|zAz 1<|zAc 1<|S_a [(3,.vs ([PV.bor 50000000 [] 1 0 l.length])),(0,.ret (PV.tup []) ([PV.own 1 (List.map I (zDC l))]))] (ap ((by simp) : [PV.bor 50000000 [] 1 0 (List.map I l).length]=[PV.bor 50000000 [] 1 0 l.length])<|ap (f56 l (by omega)) an)<|zAa<|zAc 1<|S_a [(2,.yes)] (ap ((by exact zBs (by simp<;>omega)):(Nat.beq 0 0&&(List.map I (zDC l)).length.beq (List.map I (zDC l)).length)=true) an)<|zAd 1<|zAa<|zAm<|E_a [(1,.yes),(1,.v (PV.own 1 (List.map I (zDC l))))] (ap (blz (List.map I (zDC l)))<|ap ((zAM zAG):PV.own 1 (List.take (List.map I (zDC l)).length (List.drop 0 (List.map I (zDC l))))=PV.own 1 (List.map I (zDC l))) an) (PV.tup [PV.own 1 (List.map I (zDC l)),I 0]) [] rfl rfl
theorem f51_2 (n:Nw) (cs:List (Int×Int)) (e h:Int) (ho:EvOk n cs e) (hh:inB h 0 (n.h-1)=false):FG 51 [nwV n,prs cs,I e,I h] (.tup [.own 1 [],I 1]):=by
 have uV:=ho.cr.w
 have hn:=ho.cr.nw
 have hH:=hn.h
 have he:=ho.ev
 refine zAe Tryz.f51 ?_
 refine zAc 3<|zAa<|zAc 3<|S_a [(10,.ret (PV.tup [zDv n cs,I 0]) [])] (ap (f90_1 n cs e (by omega)) an)<|zAd 5<|zAa<|zAh<|zAi 0<|zAc 3<|zAa<|zAW<|zAc 2<|S_a [(8,.ret (PV.bool (inB h 0 (n.h-1))) [])] (ap (f109 n h (by omega)) an)<|zAd 2<|zAa<|zDr (!inB h 0 (n.h-1)) (fun k0=>(zAc 2<|zAa<|zAm<|E_a [] an (PV.tup [PV.own 1 [],I 1]) [] rfl rfl)) (fun k0=>(zAj<|zAc 1<|zAa<|zAh<|zAc 2<|S_a [(7,.ret (hdV (zBl n cs e.toNat)) [])] (ap (f92 n cs e (by omega) (by omega)) an)<|zAd 1<|S_a [(0,.ob),(1,.ob),(0,.v (PV.agg (zAS (List.take 8 (List.drop (h.toNat*8) (zBl n cs e.toNat))) 8)))] (ap (?_:decide (0≤h)=true)<|ap (?_:decide (h.toNat<10)=true)<|ap (zOE (K:=8) (c:=h.toNat*8) ?_ (by first | rfl | exact zC6 (by kernel_rfl) | (simp;done)) ?_ (by kernel_rfl):sub (PV.agg (zAS (zBl n cs e.toNat) 80)) (h.toNat*(fun x=>x.size) Tryz.prog.types[128]) (some Tryz.prog.types[128].size)=some (PV.agg (zAS (List.take 8 (List.drop (h.toNat*8) (zBl n cs e.toNat))) 8))) an)<|zAd 1<|zAa<|zAi 1 ?_))
 all_goals (exfalso;rw [hh] at k0;cases k0)
theorem f51_3 (n:Nw) (cs:List (Int×Int)) (e h:Int) (hs:Small n) (hl:cs.length<1000000) (ho:¬ zDa n cs e=0):FG 51 [nwV n,prs cs,I e,I h] (.tup [.own 1 [],I (zDa n cs e)]):=by
 refine zAe Tryz.f51 ?_
 refine zAc 3<|zAa<|zAc 3<|S_a [(10,.ret (PV.tup [PV.nilp,I (zDa n cs e)]) [])] (ap (f90_2 n cs e (by omega) (by omega) (by omega)) an)<|zAd 5<|zAa<|zAh<|zAi 0<|zAc 3<|zAa<|zDm (zDa n cs e=0) (by omega)<|zAc 3<|zAa<|zAm<|E_a [] an (PV.tup [PV.own 1 [],I (zDa n cs e)]) [] rfl rfl
end Go.Eng
set_option maxRecDepth 10000
set_option maxHeartbeats 4000000
namespace Go.Eng
open Go Go.Proofs
theorem f69_1 (n:Nw) (cs:List (Int×Int)) (h:Int) (ho:CrOk n cs) (hh:0≤h∧h<n.h):FG 69 [nwV n,prs cs,I h] (.tup [.own 1 ((zB3 (fun i=>zDR n cs h i) n.n.length).map I),I 0]):=by
 have hn:=ho.nw
 have uV:=ho.w
 have yN:=ho.len
 have qn:=ho.err
 have je:=hn.small
 have hH:=hn.h
 have uH:=hn.nl
 have hin:inB h 0 (n.h-1)=true:=by simp only [inB,Bool.and_eq_true,decide_eq_true_eq];omega
 refine zAe Tryz.f69 ?_
 refine zAc 3<|zAa<|zAh<|zAc 2<|S_a [(8,.ret (I (zBT n cs)) [])] (ap (f39 n cs (by omega) (by omega)) an)<|zAd 1<|zAa<|zAc 2<|zAa<|zEt (zBT n cs=0) (by omega)<|zAj<|zAh<|zAc 3<|S_a [(1,.v (I (n.h-1)))] (ap ((zCV rfl (by omega)):I (IntKind.i64.wrap (n.h-1))=I (n.h-1)) an)<|S_a [(10,.ret (PV.bool !inB h 0 (n.h-1)) [])] (ap (f111 h (0) (n.h-1)) an)<|zAa<|zDr (!inB h 0 (n.h-1)) (fun k0=>(zAc 2<|zAa<|zAm<|E_a [] an (PV.tup [PV.own 1 [],I 1]) [] ?_ rfl)) (fun k0=>(zAj<|zAc 1<|zAa<|zAh<|zAc 1<|zAa<|zAi 0 ?_))
 ·rw [hin] at k0;cases k0
 refine zAp (fun (i,l)=>i≤n.n.length∧l=zB3 (fun i=>zDR n cs h i) i) (fun (i,l)=>[(9,.own 1 (l.map I)),(10,I (i:Nat))]) (fun (i,_)=>n.n.length-i) ((0:Nat),([]:List Int)) ⟨by omega,rfl⟩ fun (i,l) ⟨hi,hl⟩=>?_
 have vg:l.length≤i:=by rw [hl];exact zEO
 by_cases yG:i<n.n.length
 ·have yT:=zFZ (p:=fun i:Nat=>zDR n cs h i) (k:=i)
  rw [← hl] at yT
  clear hl
  refine zAh<|zAc 3<|S_a [(0,.n n.n.length)] (ap (lnS ntV n.n) an)<|zAd 1<|zAa<|zAU ((↑i:Int)<(↑n.n.length:Int)) (by omega)<|zAj<|zAh<|zAi 1<|zAc 4<|S_a [(12,.ret (PV.bool (zDR n cs h (↑i:Int))) [])] (ap (f141 n cs h ((↑i:Int)) (by omega)) an)<|zAa<|zDr (zDR n cs h (↑i:Int)) (fun k1=>(zAf<|zAd 3<|S_a [(4,.ob),(0,.ob),(0,.yes),(2,.v (PV.own 1 (List.map I (l++[(↑i:Int)]))))] (ap (blz (List.map I l))<|ap ((by exact zBp (by simp only [List.length_map,zzLn,zAZ]<;>omega)):((List.map I l).length + [I (↑i:Int)].length).ble zAZ=true)<|ap ((by exact zBs (by simp<;>omega)):(0+(List.map I l).length).beq (List.map I l).length=true)<|ap ((zAM (zCh (by kernel_rfl))):PV.own 1 (List.map I l++[I (↑i:Int)])=PV.own 1 (List.map I (l++[(↑i:Int)]))) an)<|zAd 1<|zAa<|zAf<|zAd 1<|S_a [(1,.v (I (↑(i+1):Int)))] (ap (wrN i) an)<|zAd 1<|zAa ?_)) (fun k1=>(zAj<|zAf<|zAd 1<|S_a [(1,.v (I (↑(i+1):Int)))] (ap (wrN i) an)<|zAd 1<|zAa ?_))
  ·rw [if_pos (by assumption)] at yT
   exact ⟨(i+1,l++[(i:Int)]),⟨by omega,yT.symm⟩,by simp only;omega,by kernel_rfl,by kernel_rfl⟩
  ·rw [if_neg (by rw [Bool.not_eq_true];assumption)] at yT
   exact ⟨(i+1,l),⟨by omega,yT.symm⟩,by simp only;omega,by kernel_rfl,by kernel_rfl⟩
 ·rw [show i=n.n.length by omega] at hl
  rw [← hl]
  clear hl
  refine zAh<|zAc 3<|S_a [(0,.n n.n.length)] (ap (lnS ntV n.n) an)<|zAd 1<|zAa<|zAT ((↑i:Int)<(↑n.n.length:Int)) (by omega)<|zAz 0<|zAc 1<|S_a [(2,.yes)] (ap ((by exact zBs (by simp<;>omega)):(Nat.beq 0 0&&(List.map I l).length.beq (List.map I l).length)=true) an)<|zAd 1<|zAa<|zAm<|E_a [(1,.yes),(1,.v (PV.own 1 (List.map I l)))] (ap (blz (List.map I l))<|ap ((zAM zAG):PV.own 1 (List.take (List.map I l).length (List.drop 0 (List.map I l)))=PV.own 1 (List.map I l)) an) (PV.tup [PV.own 1 (List.map I l),I 0]) [] rfl rfl
theorem f69_2 (n:Nw) (cs:List (Int×Int)) (h:Int) (ho:CrOk n cs) (hh:inB h 0 (n.h-1)=false):FG 69 [nwV n,prs cs,I h] (.tup [.own 1 [],I 1]):=by
 have hn:=ho.nw
 have hH:=hn.h
 have je:=hn.small
 have yN:=ho.len
 have qn:=ho.err
 refine zAe Tryz.f69 ?_
 refine zAc 3<|zAa<|zAh<|zAc 2<|S_a [(8,.ret (I (zBT n cs)) [])] (ap (f39 n cs (by omega) (by omega)) an)<|zAd 1<|zAa<|zAc 2<|zAa<|zEt (zBT n cs=0) (by omega)<|zAj<|zAh<|zAc 3<|S_a [(1,.v (I (n.h-1)))] (ap ((zCV rfl (by omega)):I (IntKind.i64.wrap (n.h-1))=I (n.h-1)) an)<|S_a [(10,.ret (PV.bool !inB h 0 (n.h-1)) [])] (ap (f111 h (0) (n.h-1)) an)<|zAa<|zDr (!inB h 0 (n.h-1)) (fun k0=>(zAc 2<|zAa<|zAm<|E_a [] an (PV.tup [PV.own 1 [],I 1]) [] rfl rfl)) (fun k0=>(zAj<|zAc 1<|zAa<|zAh<|zAc 1<|zAa<|zAi 0 ?_))
 rw [hh] at k0;cases k0
theorem f69_3 (n:Nw) (cs:List (Int×Int)) (h:Int) (hs:Small n) (hl:cs.length<1000000) (ho:¬ zBT n cs=0):FG 69 [nwV n,prs cs,I h] (.tup [.own 1 [],I (zBT n cs)]):=by
 refine zAe Tryz.f69 ?_
 refine zAc 3<|zAa<|zAh<|zAc 2<|S_a [(8,.ret (I (zBT n cs)) [])] (ap (f39 n cs (by omega) (by omega)) an)<|zAd 1<|zAa<|zAc 2<|zAa<|zDm (zBT n cs=0) (by omega)<|zAc 3<|zAa<|zAm<|E_a [] an (PV.tup [PV.own 1 [],I (zBT n cs)]) [] rfl rfl
theorem f142 (n:Nw) (K:List (List Bool)) (h:Nat) (ho:NwOk n) (hr:∃ w,RelK n K w) (hh:h<n.h.toNat):FG 142 [nwV n,knV K,I h] (.own 1 ((zB3 (zH7 n K h) n.n.length).map I)):=by
 have hH:=ho.h
 have uH:=ho.nl
 refine zAe Tryz.f142 ?_
 refine zAc 2<|zAa<|zAc 1<|zAa<|zAh<|zAc 1<|zAa<|zAi 0 ?_
 refine zAp (fun (i,l)=>i≤n.n.length∧l=zB3 (zH7 n K h) i) (fun (i,l)=>[(7,.own 1 (l.map I)),(8,I (i:Nat))]) (fun (i,_)=>n.n.length-i) ((0:Nat),([]:List Int)) ⟨by omega,rfl⟩ fun (i,l) ⟨hi,hl⟩=>?_
 have vg:l.length≤i:=by rw [hl];exact zEO
 by_cases yG:i<n.n.length
 ·have yT:=zFZ (p:=zH7 n K h) (k:=i)
  rw [← hl] at yT
  clear hl
  refine zAh<|zAc 3<|S_a [(0,.n n.n.length)] (ap (lnS ntV n.n) an)<|zAd 1<|zAa<|zAU ((↑i:Int)<(↑n.n.length:Int)) (by omega)<|zAj<|zAh<|zAi 1<|zAc 4<|S_a [(12,.ret (PV.bool (zH7 n K h i)) [])] (ap (f113 n K h i (by omega) (by omega) (by omega) (by omega)) an)<|zAa<|zDr (zH7 n K h i) (fun k0=>(zAf<|zAd 3<|S_a [(4,.ob),(0,.ob),(0,.yes),(2,.v (PV.own 1 (List.map I (l++[(↑i:Int)]))))] (ap (blz (List.map I l))<|ap ((by exact zBp (by simp only [List.length_map,zzLn,zAZ]<;>omega)):((List.map I l).length + [I (↑i:Int)].length).ble zAZ=true)<|ap ((by exact zBs (by simp<;>omega)):(0+(List.map I l).length).beq (List.map I l).length=true)<|ap ((zAM (zCh (by kernel_rfl))):PV.own 1 (List.map I l++[I (↑i:Int)])=PV.own 1 (List.map I (l++[(↑i:Int)]))) an)<|zAd 1<|zAa<|zAf<|zAd 1<|S_a [(1,.v (I (↑(i+1):Int)))] (ap (wrN i) an)<|zAd 1<|zAa ?_)) (fun k0=>(zAj<|zAf<|zAd 1<|S_a [(1,.v (I (↑(i+1):Int)))] (ap (wrN i) an)<|zAd 1<|zAa ?_))
  ·rw [if_pos (by assumption)] at yT
   exact ⟨(i+1,l++[(i:Int)]),⟨by omega,yT.symm⟩,by simp only;omega,by kernel_rfl,by kernel_rfl⟩
  ·rw [if_neg (by rw [Bool.not_eq_true];assumption)] at yT
   exact ⟨(i+1,l),⟨by omega,yT.symm⟩,by simp only;omega,by kernel_rfl,by kernel_rfl⟩
 ·rw [show i=n.n.length by omega] at hl
  rw [← hl]
  clear hl
  refine zAh<|zAc 3<|S_a [(0,.n n.n.length)] (ap (lnS ntV n.n) an)<|zAd 1<|zAa<|zAT ((↑i:Int)<(↑n.n.length:Int)) (by omega)<|zAz 0<|zAc 1<|S_a [(2,.yes)] (ap ((by exact zBs (by simp<;>omega)):(Nat.beq 0 0&&(List.map I l).length.beq (List.map I l).length)=true) an)<|zAa<|zAm<|E_a [(1,.yes),(1,.v (PV.own 1 (List.map I l)))] (ap (blz (List.map I l))<|ap ((zAM zAG):PV.own 1 (List.take (List.map I l).length (List.drop 0 (List.map I l)))=PV.own 1 (List.map I l)) an) (PV.own 1 (List.map I l)) [] rfl rfl
theorem f70_1 (n:Nw) (cs:List (Int×Int)) (e:Int) (h:Nat) (ho:EvOk n cs e) (hh:(h:Int)<n.h):FG 70 [nwV n,prs cs,I e,I h] (.tup [.own 1 ((zB3 (hld n (zBl n cs e.toNat) h) n.n.length).map I),I 0]):=by
 have hc:=ho.cr
 have uV:=hc.w
 have hn:=hc.nw
 have je:=hn.small
 have he:=ho.ev
 have yz:=ho.err
 have hZ:=hc.len
 have hH:=hn.h
 have hin:inB h 0 (n.h-1)=true:=by simp only [inB,Bool.and_eq_true,decide_eq_true_eq];omega
 have vV:∃ w,RelK n (zGH n cs e.toNat) w:=⟨_,zIG uV _⟩
 have hx:zB3 (hld n (zBl n cs e.toNat) h) n.n.length=zB3 (zH7 n (zGH n cs e.toNat) h) n.n.length:=zNB fun i hi=>(zTO hn (zIG uV _) (by omega) hi).symm
 rw [hx]
 have gD:=zEO (p:=zH7 n (zGH n cs e.toNat) h) (k:=n.n.length)
 refine zAe Tryz.f70 ?_
 refine zAc 3<|zAa<|zAh<|zAc 3<|S_a [(10,.ret (I (zDa n cs e)) [])] (ap (f93 n cs e (by omega) (by omega)) an)<|zAd 1<|zAa<|zAc 2<|zAa<|zEt (zDa n cs e=0) (by omega)<|zAj<|zAh<|zAc 3<|S_a [(1,.v (I (n.h-1)))] (ap ((zCV rfl (by omega)):I (IntKind.i64.wrap (n.h-1))=I (n.h-1)) an)<|S_a [(10,.ret (PV.bool !inB (↑h:Int) 0 (n.h-1)) [])] (ap (f111 ((↑h:Int)) (0) (n.h-1)) an)<|zAa<|zDr (!inB (↑h:Int) 0 (n.h-1)) (fun k0=>(zAc 2<|zAa<|zAm<|E_a [] an (PV.tup [PV.own 1 [],I 1]) [] ?_ rfl)) (fun k0=>(zAj<|zAc 4<|S_a [(10,.ret (PV.own 1 (List.map lsB (zGH n cs e.toNat))) [])] (ap (f95 n cs e (by omega) (by omega)) an)<|zAd 1<|S_a [(5,.ob),(0,.v (PV.sl (List.map bls (zGH n cs e.toNat)))),(4,.ret (PV.own 1 (List.map I (zB3 (zH7 n (zGH n cs e.toNat) h) n.n.length))) []),(1,.yes)] (ap (blz (List.map lsB (zGH n cs e.toNat)))<|ap (frC lsB bls (zGH n cs e.toNat))<|ap (f142 n (zGH n cs e.toNat) h (by omega) (by omega) (by first | omega | (simp<;>omega)))<|ap ((by exact zEI _):(PV.own 1 (List.map I (zB3 (zH7 n (zGH n cs e.toNat) h) n.n.length))).free=true) an)<|zAd 2<|zAa<|zAm<|E_a [(1,.yes),(1,.v (PV.own 1 (List.map I (zB3 (zH7 n (zGH n cs e.toNat) h) n.n.length))))] (ap (blz (List.map I (zB3 (zH7 n (zGH n cs e.toNat) h) n.n.length)))<|ap ((zAM zAG):PV.own 1 (List.take (List.map I (zB3 (zH7 n (zGH n cs e.toNat) h) n.n.length)).length (List.drop 0 (List.map I (zB3 (zH7 n (zGH n cs e.toNat) h) n.n.length))))=PV.own 1 (List.map I (zB3 (zH7 n (zGH n cs e.toNat) h) n.n.length))) an) (PV.tup [PV.own 1 (List.map I (zB3 (zH7 n (zGH n cs e.toNat) h) n.n.length)),I 0]) [] rfl rfl))
 ·rw [hin] at k0;cases k0
theorem f70_2 (n:Nw) (cs:List (Int×Int)) (e h:Int) (ho:EvOk n cs e) (hh:inB h 0 (n.h-1)=false):FG 70 [nwV n,prs cs,I e,I h] (.tup [.own 1 [],I 1]):=by
 have hn:=ho.cr.nw
 have hH:=hn.h
 have he:=ho.ev
 have yz:=ho.err
 have je:=hn.small
 have hZ:=ho.cr.len
 refine zAe Tryz.f70 ?_
 refine zAc 3<|zAa<|zAh<|zAc 3<|S_a [(10,.ret (I (zDa n cs e)) [])] (ap (f93 n cs e (by omega) (by omega)) an)<|zAd 1<|zAa<|zAc 2<|zAa<|zEt (zDa n cs e=0) (by omega)<|zAj<|zAh<|zAc 3<|S_a [(1,.v (I (n.h-1)))] (ap ((zCV rfl (by omega)):I (IntKind.i64.wrap (n.h-1))=I (n.h-1)) an)<|S_a [(10,.ret (PV.bool !inB h 0 (n.h-1)) [])] (ap (f111 h (0) (n.h-1)) an)<|zAa<|zDr (!inB h 0 (n.h-1)) (fun k0=>(zAc 2<|zAa<|zAm<|E_a [] an (PV.tup [PV.own 1 [],I 1]) [] rfl rfl)) (fun k0=>(zAj<|zAc 4<|S_a [(10,.ret (PV.own 1 (List.map lsB (zGH n cs e.toNat))) [])] (ap (f95 n cs e ?_ (by omega)) an)<|zAd 1 ?_))
 all_goals (exfalso;rw [hh] at k0;cases k0)
theorem f70_3 (n:Nw) (cs:List (Int×Int)) (e h:Int) (hs:Small n) (hl:cs.length<1000000) (ho:¬ zDa n cs e=0):FG 70 [nwV n,prs cs,I e,I h] (.tup [.own 1 [],I (zDa n cs e)]):=by
 refine zAe Tryz.f70 ?_
 refine zAc 3<|zAa<|zAh<|zAc 3<|S_a [(10,.ret (I (zDa n cs e)) [])] (ap (f93 n cs e (by omega) (by omega)) an)<|zAd 1<|zAa<|zAc 2<|zAa<|zDm (zDa n cs e=0) (by omega)<|zAc 3<|zAa<|zAm<|E_a [] an (PV.tup [PV.own 1 [],I (zDa n cs e)]) [] rfl rfl
end Go.Eng
set_option maxRecDepth 10000
set_option maxHeartbeats 4000000
namespace Go.Eng
open Go Go.Proofs
theorem zPt (n:Nw) (cs:List (Int×Int)) (h:Int) (hs:Small n) (hl:cs.length≤24):∃ (l:List Int) (x:Int),FG 68 [nwV n,prs cs,I h] (.tup [.own 1 (l.map I),I x])∧FG 69 [nwV n,prs cs,I h] (.tup [.own 1 (l.map I),I x])∧l.length≤80:=by
 by_cases qn:zBT n cs=0
 ·have vI:=zTV qn
  have h8:=vI.nw.nl
  cases hin:inB h 0 (n.h-1)
  ·exact ⟨[],_,f68_2 n cs h vI hin,f69_2 n cs h vI hin,by simp⟩
  ·have hin:=zEc hin
   exact ⟨_,_,f68_1 n cs h vI (by omega),f69_1 n cs h vI (by omega),Nat.le_trans zEO (by omega)⟩
 ·exact ⟨[],_,f68_3 n cs h hs (by omega) qn,f69_3 n cs h hs (by omega) qn,by simp⟩
theorem zPC (n:Nw) (cs:List (Int×Int)) (e h:Int) (hs:Small n) (hl:cs.length≤24):∃ (l:List Int) (x:Int),FG 51 [nwV n,prs cs,I e,I h] (.tup [.own 1 (l.map I),I x])∧FG 70 [nwV n,prs cs,I e,I h] (.tup [.own 1 (l.map I),I x])∧l.length≤80:=by
 by_cases kI:zDa n cs e=0
 ·have heo:=zTg kI
  have h8:=heo.cr.nw.nl
  cases hin:inB h 0 (n.h-1)
  ·exact ⟨[],_,f51_2 n cs e h heo hin,f70_2 n cs e h heo hin,by simp⟩
  ·have hin:=zEc hin
   obtain ⟨k,rfl⟩:∃ k:Nat,h=k:=⟨h.toNat,by omega⟩
   exact ⟨_,_,f51_1 n cs e k heo (by omega),f70_1 n cs e k heo (by omega),Nat.le_trans zEO (by omega)⟩
 ·exact ⟨[],_,f51_3 n cs e h hs (by omega) kI,f70_3 n cs e h hs (by omega) kI,by simp⟩
theorem f11 (n:Nw) (cs:List (Int×Int)) (e h:Int):FG 11 [nwV n,prs cs,I e,I h] (.bool true):=by
 cases hg:zGj n cs with
 | true =>
  have vt:FG 16 [nwV n,prs cs] (.bool true):=hg▸f16 n cs
  refine zAe Tryz.f11 ?_
  refine zAc 2<|zAa<|zAh<|zAc 2<|S_a [(8,.ret (PV.bool true) [])] (ap vt an)<|zAa<|zBR<|zAh<|zAf<|S_a [(4,.ret (PV.bool true) [])] (ap f17 an)<|zAd 1<|zAa<|zAm<|E_a [] an (PV.bool true) [] rfl rfl
 | false =>
  have vt:FG 16 [nwV n,prs cs] (.bool false):=hg▸f16 n cs
  obtain ⟨yN,hs⟩:=zUE hg
  clear hg
  obtain ⟨G,x1,a1,b1,g1⟩:=zPt n cs h hs yN
  obtain ⟨M,x2,a2,b2,g2⟩:=zPC n cs e h hs yN
  refine zAe Tryz.f11 ?_
  refine zAc 2<|zAa<|zAh<|zAc 2<|S_a [(8,.ret (PV.bool false) [])] (ap vt an)<|zAa<|zAW<|zAj<|zAc 1<|S_a [(6,.ret (nwO n) [])] (ap (f18 n (by omega)) an)<|zAd 1<|S_a [(6,.ret (nwO n) [])] (ap (f19 n (by omega)) an)<|zAd 1<|S_a [(6,.ret (PV.own 2 (List.map prV cs)) [])] (ap (f20 cs (by omega)) an)<|zAd 5<|zAa<|zAc 3<|S_a [(6,.ob),(0,.v (prs n.l)),(1,.ob),(0,.v (PV.sl (List.map ntV n.n))),(1,.ob),(0,.v (PV.sl (List.map zAP n.s))),(1,.ob),(0,.v (prs cs)),(4,.ret (PV.tup [PV.own 1 (List.map I G),I x1]) []),(1,.yes)] (ap (blz (List.map prV n.l))<|ap (frT prV n.l)<|ap (blz (List.map ntV n.n))<|ap (frT ntV n.n)<|ap (blz (List.map zEg n.s))<|ap (frC zEg zAP n.s)<|ap (blz (List.map prV cs))<|ap (frT prV cs)<|ap a1<|ap ((by exact zOm (zEI _) rfl):(PV.tup [PV.own 1 (List.map I G),I x1]).free=true) an)<|zAd 5<|zAa<|zAc 2<|S_a [(6,.ret (PV.own 2 (List.map prV cs)) [])] (ap (f21 cs (by omega)) an)<|zAd 1<|S_a [(6,.ob),(0,.v (prs n.l)),(1,.ob),(0,.v (PV.sl (List.map ntV n.n))),(1,.ob),(0,.v (PV.sl (List.map zAP n.s))),(1,.ob),(0,.v (prs cs)),(4,.ret (PV.tup [PV.own 1 (List.map I G),I x1]) []),(1,.yes)] (ap (blz (List.map prV n.l))<|ap (frT prV n.l)<|ap (blz (List.map ntV n.n))<|ap (frT ntV n.n)<|ap (blz (List.map zEg n.s))<|ap (frC zEg zAP n.s)<|ap (blz (List.map prV cs))<|ap (frT prV cs)<|ap b1<|ap ((by exact zOm (zEI _) rfl):(PV.tup [PV.own 1 (List.map I G),I x1]).free=true) an)<|zAd 5<|zAa<|zAh<|zAc 4<|zVz 44 (x1=x1) (by omega) (zAd 2<|S_a [(3,.ob),(0,.v (zAP G)),(1,.ob),(0,.v (zAP G)),(2,.ret (PV.bool (decide (G=G))) [])] (ap (blz (List.map I G))<|ap (frT I G)<|ap (blz (List.map I G))<|ap (frT I G)<|ap (f28 G G (by omega)) an)<|zAd 2<|zAa<|zEt (G=G) (by (simp;done))<|zAj<|zAc 4<|S_a [(6,.ob),(0,.v (prs n.l)),(1,.ob),(0,.v (PV.sl (List.map ntV n.n))),(1,.ob),(0,.v (PV.sl (List.map zAP n.s))),(1,.ob),(0,.v (prs cs)),(6,.ret (PV.tup [PV.own 1 (List.map I M),I x2]) []),(1,.yes)] (ap (blz (List.map prV n.l))<|ap (frT prV n.l)<|ap (blz (List.map ntV n.n))<|ap (frT ntV n.n)<|ap (blz (List.map zEg n.s))<|ap (frC zEg zAP n.s)<|ap (blz (List.map prV cs))<|ap (frT prV cs)<|ap a2<|ap ((by exact zOm (zEI _) rfl):(PV.tup [PV.own 1 (List.map I M),I x2]).free=true) an)<|zAd 5<|zAa<|zAc 2<|S_a [(6,.ret (PV.own 2 (List.map prV cs)) [])] (ap (f21 cs (by omega)) an)<|zAd 2<|S_a [(6,.ob),(0,.v (prs n.l)),(1,.ob),(0,.v (PV.sl (List.map ntV n.n))),(1,.ob),(0,.v (PV.sl (List.map zAP n.s))),(1,.ob),(0,.v (prs cs)),(6,.ret (PV.tup [PV.own 1 (List.map I M),I x2]) []),(1,.yes)] (ap (blz (List.map prV n.l))<|ap (frT prV n.l)<|ap (blz (List.map ntV n.n))<|ap (frT ntV n.n)<|ap (blz (List.map zEg n.s))<|ap (frC zEg zAP n.s)<|ap (blz (List.map prV cs))<|ap (frT prV cs)<|ap b2<|ap ((by exact zOm (zEI _) rfl):(PV.tup [PV.own 1 (List.map I M),I x2]).free=true) an)<|zAd 5<|zAa<|zAc 4<|zJv 70 (x2=x2) (by omega) (zAd 2<|S_a [(3,.ob),(0,.v (zAP M)),(1,.ob),(0,.v (zAP M)),(2,.ret (PV.bool (decide (M=M))) [])] (ap (blz (List.map I M))<|ap (frT I M)<|ap (blz (List.map I M))<|ap (frT I M)<|ap (f28 M M (by omega)) an)<|zAd 2<|zJv 75 (M=M) (by (simp;done)) (zAd 2<|S_a [(6,.ob),(0,.v (prs n.l)),(1,.ob),(0,.v (PV.sl (List.map ntV n.n))),(1,.ob),(0,.v (PV.sl (List.map zAP n.s))),(4,.ret (PV.bool true) [])] (ap (blz (List.map prV n.l))<|ap (frT prV n.l)<|ap (blz (List.map ntV n.n))<|ap (frT ntV n.n)<|ap (blz (List.map zEg n.s))<|ap (frC zEg zAP n.s)<|ap (f33 n (by omega)) an)<|zAd 4<|S_a [(3,.ob),(0,.v (prs cs)),(4,.ret (PV.bool (decide (cs=cs))) [])] (ap (blz (List.map prV cs))<|ap (frT prV cs)<|ap (f34 cs cs (by omega)) an)<|zAd 2<|zJv 85 (cs=cs) (by (simp;done)) (S_a [(4,.ret (PV.bool true) [])] (ap f17 an)<|zAd 2<|zAa<|zAm<|E_a [] an (PV.bool true) [] rfl rfl))))
end Go.Eng
set_option maxRecDepth 100000
namespace Go.Proofs.YtppbomajegnkeaaGreat
open Go.ChangeShapes Go.WideShapes Go.ChangeAt Go.RowKit Go.Eng
theorem newsHolds_gives (ss:List (Bool×List Sh)) (wZ:zE9 Tryz.prog Tryz.f11.params.toList=some ss) (qs:List PV) (hq:zKK ss qs):@zC4 (yo1 Tryz.prog zJW) Tryz.prog zJW 11 qs [] (.bool true) []:=by
 have he:zE9 Tryz.prog Tryz.f11.params.toList=some [(true,[.num .i64,.list true [.num .i64,.num .i64],.list true [.num .i64,.bool],.list false [.list false [.num .i64]]]),(false,[.list true [.num .i64,.num .i64]]),(false,[.num .i64]),(false,[.num .i64])]:=by kernel_rfl
 rw [he] at wZ
 cases wZ
 obtain ⟨p0,qs0,rfl,h0,hq0⟩:=hq
 obtain ⟨p1,qs1,rfl,h1,uL⟩:=hq0
 obtain ⟨p2,qs2,rfl,h2,vG⟩:=uL
 obtain ⟨p3,qs3,rfl,h3,hq3⟩:=vG
 simp only [zKK] at hq3
 subst hq3
 obtain ⟨x0,rfl⟩:=zU0 h0
 obtain ⟨x1,rfl⟩:=zSQ h1
 obtain ⟨x2,rfl,b2⟩:=zUb h2
 simp only [IntKind.min,IntKind.max,IntKind.signed,IntKind.bits] at b2
 simp at b2
 obtain ⟨x3,rfl,b3⟩:=zUb h3
 simp only [IntKind.min,IntKind.max,IntKind.signed,IntKind.bits] at b3
 simp at b3
 exact f11 x0 x1 x2 x3
theorem newsHolds_lifted (os:Os) (started:os.Started) (H:Type) (enc:TypeId×Value→H) :
  ReturnsInHanded {} Tryz.checked os 11 .any (Rows.newsHoldsSpec.pre6 enc Tryz.prog Tryz.f11 Rows.newsHoldsRow.domain false) (Rows.newsHoldsSpec.post enc Tryz.prog Tryz.f11 false true false false):=by
 refine returnsInHanded_of_change (C:=Tryz.checked) Tryz.own started (by kernel_rfl) Tryz.func11
  (ChangeSpec.witness6 (enc:=enc) (C:=Tryz.checked) false ⟨#[],#[.agg #[.int .i64 0,.slice none 0 0,.slice none 0 0,.slice none 0 0],.slice none 0 0,.int .i64 0,.int .i64 0],[]⟩ 8 (by kernel_rfl) (by kernel_rfl) (by kernel_rfl) (by kernel_rfl)) ?_
 intro W base args ds gs before hval0 hW hcnd _
 obtain ⟨p,q,hA0,hV,_,_,_⟩:=id hW
 obtain ⟨rfl,rfl⟩:=trodVars_none hV
 obtain ⟨ss,wZ⟩:∃ ss,zE9 Tryz.prog Tryz.f11.params.toList=some ss:=Option.isSome_iff_exists.1 (by kernel_rfl)
 have hZ:ss.length≤1000:=by
  have h:((zE9 Tryz.prog Tryz.f11.params.toList).map fun s=>Nat.ble s.length 1000)=some true:=by kernel_rfl
  rw [wZ] at h
  simpa using h
 exact zVv zEW hnm zMy hin Tryz.laidOut rfl Tryz.underlying4 (by kernel_rfl) (by kernel_rfl) (fun ds hd=>by match ds,hd with | [d0,d1,d2,d3],_=>rfl) wZ hZ (newsHolds_gives ss wZ) hval0 hW
theorem newsHolds_holds:Rows.NewsHoldsSaid :=
 OpenClaim.holds_of_wide 11 Tryz.f11 rfl rfl rfl rfl rfl rfl rfl ⟨rfl,rfl,rfl,rfl,rfl⟩ rfl rfl rfl rfl rfl (by kernel_rfl) Tryz.func11 (by kernel_rfl)
  (of_decide_eq_true (by kernel_rfl)) (by unfold Func.isWrapper;first | (rw [if_pos (by decide +kernel)];kernel_rfl) | (rw [if_neg (by decide +kernel)];exact ⟨rfl,rfl⟩))
  (fun os started H enc _=>newsHolds_lifted os started H enc)
end Go.Proofs.YtppbomajegnkeaaGreat
