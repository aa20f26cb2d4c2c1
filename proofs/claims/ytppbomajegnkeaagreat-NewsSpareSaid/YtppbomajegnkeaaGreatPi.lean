/- For any news, cries and evenings the law NewsSpare ends in true: the cries that can be left out, or the error, are as specified; without conditions. -/
import Derived.Test.YtppbomajegnkeaaGreatPh
import Derived.Test.YtppbomajegnkeaaGreatPd
import Derived.Test.YtppbomajegnkeaaGreatPg
import Derived.Test.YtppbomajegnkeaaGreatPe
set_option linter.unusedVariables false
set_option linter.unusedSimpArgs false
set_option linter.unusedSectionVars false
set_option maxRecDepth 10000
set_option maxHeartbeats 4000000
namespace Go.Eng
open Go Go.Proofs
theorem ntt {a:Bool} (h:(!a)=true):a=false:=by simpa using h
theorem ntf {a:Bool} (h:(!a)=false):a=true:=by simpa using h
theorem zV6 {a b:Int×Int} (h:a.1=b.1∧a.2=b.2∨a.1=b.2∧a.2=b.1):pr2 a=pr2 b:=by
 obtain ⟨x,y⟩:=b
 exact zON.2 h
theorem zUF {a b:Int×Int} (h:¬ (a.1=b.1∧a.2=b.2∨a.1=b.2∧a.2=b.1)):pr2 a≠pr2 b:=by
 obtain ⟨x,y⟩:=b
 exact fun e=>h (zON.1 e)
theorem zGP {p:Nat→Prop} {i:Nat} (ha:∀ j,j<i→p j) (hi:p i):∀ j,j<i+1→p j:=fun j hj=>by
 rcases Nat.lt_succ_iff_lt_or_eq.1 hj with h | rfl
 ·exact ha j h
 ·exact hi
theorem f117 (n:Nw) (hs:Small n):FG 117 [nwV n] (I (zCS n)):=by
 refine zAe Tryz.f117 ?_
 have h1:=hs.hl
 have h2:=hs.hn
 have h3:=hs.hs
 refine zAc 2<|zAa<|zAh<|zAc 2<|S_a [(10,.ret (PV.bool !inB n.h 1 10) [])] (ap (f111 n.h (1) (10)) an)<|zAd 1<|zEi 19 (!inB n.h 1 10) (fun k0=>(zAd 17<|zAa<|zBR<|zAc 1<|zAa<|zAn<|E_a [] an (I 2) [] ?_ rfl)) (fun k0=>(zAd 2<|S_a [(0,.n n.l.length)] (ap (lnS prV n.l) an)<|zAd 3<|zEM 25 ((↑n.l.length:Int)>15) (fun k1=>(zAd 11<|zAa<|zBR<|zAc 1<|zAa<|zAn<|E_a [] an (I 2) [] ?_ rfl)) (fun k1=>(zAd 2<|S_a [(0,.n n.n.length)] (ap (lnS ntV n.n) an)<|S_a [(10,.ret (PV.bool !inB (↑n.n.length:Int) 1 8) [])] (ap (f111 ((↑n.n.length:Int)) (1) (8)) an)<|zAd 2<|zEi 31 (!inB (↑n.n.length:Int) 1 8) (fun k2=>(zAd 5<|zAa<|zBR<|zAc 1<|zAa<|zAn<|E_a [] an (I 2) [] ?_ rfl)) (fun k2=>(zAd 2<|S_a [(0,.n n.s.length)] (ap (lnS zAR n.s) an)<|S_a [(10,.ret (PV.bool !inB (↑n.s.length:Int) 1 6) [])] (ap (f111 ((↑n.s.length:Int)) (1) (6)) an)<|zAd 1<|zAa<|zEb (!inB (↑n.s.length:Int) 1 6) (fun k3=>(zAc 1<|zAa<|zAn<|E_a [] an (I 2) [] ?_ rfl)) (fun k3=>(zAk<|zAh<|zAc 1<|zAa<|zAi 0 ?_))))))))
 ·simp only [zCS,k0,if_true]
 ·simp only [zCS,k0,k1,if_true];rfl
 ·simp only [zCS,k0,k1,k2,if_true,if_false];rfl
 ·simp only [zCS,k0,k1,k2,k3,if_true,if_false];rfl
 rw [zVD k0 k1 k2 k3]
 have hh:=zEx (ntf k0)
 have ub:=zEx (ntf k2)
 clear k0 k1 k2 k3
 refine zAq (fun i=>i≤n.l.length∧∀ j,j<i→zGF n.h (n.l.getD j default)=true) (fun (i:Nat)=>[(3,I (i:Nat))]) (fun i=>n.l.length-i) (0:Nat) ⟨Nat.zero_le _,fun j hj=>absurd hj (Nat.not_lt_zero j)⟩ fun i ⟨hi,ha⟩=>?_
 by_cases yI:i<n.l.length
 ·have jV:=zGP ha
  clear ha
  refine zAh<|zAc 3<|S_a [(0,.n n.l.length)] (ap (lnS prV n.l) an)<|zAd 1<|zAa<|zAU ((↑i:Int)<(↑n.l.length:Int)) (by omega)<|zAk<|zAh<|zAi 1<|zAc 3<|S_a [(2,.v (PV.agg [I (n.l.getD i default).fst,I (n.l.getD i default).snd]))] (ap (zBJ default (by omega):(List.map prV n.l)[i]? = some (PV.agg [I (n.l.getD i default).fst,I (n.l.getD i default).snd])) an)<|zAd 4<|S_a [(1,.v (I (n.h-1)))] (ap ((zDl rfl (by omega)):I (IntKind.i64.wrap (n.h-1))=I (n.h-1)) an)<|S_a [(10,.ret (PV.bool !inB (n.l.getD i default).fst 0 (n.h-1)) [])] (ap (f111 ((n.l.getD i default).fst) (0) (n.h-1)) an)<|zAd 1<|zEi 54 (!inB (n.l.getD i default).fst 0 (n.h-1)) (fun k0=>(zAd 11<|zAa<|zBR<|zAc 1<|zAa<|zAn<|E_a [] an (I 1) [] ?_ rfl)) (fun k0=>(zAd 3<|S_a [(2,.v (PV.agg [I (n.l.getD i default).fst,I (n.l.getD i default).snd]))] (ap (zBJ default (by omega):(List.map prV n.l)[i]? = some (PV.agg [I (n.l.getD i default).fst,I (n.l.getD i default).snd])) an)<|zAd 4<|S_a [(1,.v (I (n.h-1)))] (ap ((zDl rfl (by omega)):I (IntKind.i64.wrap (n.h-1))=I (n.h-1)) an)<|S_a [(10,.ret (PV.bool !inB (n.l.getD i default).snd 0 (n.h-1)) [])] (ap (f111 ((n.l.getD i default).snd) (0) (n.h-1)) an)<|zAd 1<|zAa<|zEb (!inB (n.l.getD i default).snd 0 (n.h-1)) (fun k1=>(zAc 1<|zAa<|zAn<|E_a [] an (I 1) [] ?_ rfl)) (fun k1=>(zAk<|zAf<|zAd 1<|S_a [(1,.v (I (↑(i+1):Int)))] (ap (wrN i) an)<|zAd 1<|zAa ?_))))
  ·rw [zOu yI (by simp only [zGF,ntt k0,Bool.false_and])]
  ·rw [zOu yI (by simp only [zGF,ntt k1,Bool.and_false])]
  ·exact ⟨i+1,⟨by omega,jV (by simp only [zGF,ntf k0,ntf k1,Bool.true_and])⟩,by omega,by kernel_rfl,by kernel_rfl⟩
 have hA:(n.l.all fun x=>zGF n.h x)=true:=zKG fun i hi=>ha i (by omega)
 clear ha
 refine zAh<|zAc 3<|S_a [(0,.n n.l.length)] (ap (lnS prV n.l) an)<|zAd 1<|zAa<|zAT ((↑i:Int)<(↑n.l.length:Int)) (by omega)<|zAA 0<|zAh<|zAc 1<|zAa<|zAi 2 ?_
 refine zAq (fun i=>i≤n.l.length∧∀ j,j<i→zHI (n.l.getD j default)=true) (fun (i:Nat)=>[(4,I (i:Nat))]) (fun i=>n.l.length-i) (0:Nat) ⟨Nat.zero_le _,fun j hj=>absurd hj (Nat.not_lt_zero j)⟩ fun i ⟨hi,ha⟩=>?_
 by_cases yI:i<n.l.length
 ·have jV:=zGP ha
  clear ha
  refine zAh<|zAc 3<|S_a [(0,.n n.l.length)] (ap (lnS prV n.l) an)<|zAd 1<|zAa<|zAU ((↑i:Int)<(↑n.l.length:Int)) (by omega)<|zAk<|zAh<|zAi 3<|zAc 3<|S_a [(2,.v (PV.agg [I (n.l.getD i default).fst,I (n.l.getD i default).snd]))] (ap (zBJ default (by omega):(List.map prV n.l)[i]? = some (PV.agg [I (n.l.getD i default).fst,I (n.l.getD i default).snd])) an)<|zAd 5<|S_a [(2,.v (PV.agg [I (n.l.getD i default).fst,I (n.l.getD i default).snd]))] (ap (zBJ default (by omega):(List.map prV n.l)[i]? = some (PV.agg [I (n.l.getD i default).fst,I (n.l.getD i default).snd])) an)<|zAd 3<|zAa<|zB3 ((n.l.getD i default).fst=(n.l.getD i default).snd) (fun k0=>(zAc 1<|zAa<|zAn<|E_a [] an (I 8) [] ?_ rfl)) (fun k0=>(zAk<|zAf<|zAd 1<|S_a [(1,.v (I (↑(i+1):Int)))] (ap (wrN i) an)<|zAd 1<|zAa ?_))
  ·rw [zUx hA yI (by simp only [zHI,decide_eq_false_iff_not];exact fun h=>h k0)]
  ·exact ⟨i+1,⟨by omega,jV (by simp only [zHI,decide_eq_true_eq];exact k0)⟩,by omega,by kernel_rfl,by kernel_rfl⟩
 have hB:(n.l.all fun x=>zHI x)=true:=zKG fun i hi=>ha i (by omega)
 clear ha
 refine zAh<|zAc 3<|S_a [(0,.n n.l.length)] (ap (lnS prV n.l) an)<|zAd 1<|zAa<|zAT ((↑i:Int)<(↑n.l.length:Int)) (by omega)<|zAA 2<|zAh<|zAc 1<|zAa<|zAi 4 ?_
 refine zAq (fun i=>i≤n.l.length∧∀ j,j<i→∀ k,k<j→pr2 (n.l.getD j default)≠pr2 (n.l.getD k default)) (fun (i:Nat)=>[(5,I (i:Nat))]) (fun i=>n.l.length-i) (0:Nat) ⟨Nat.zero_le _,fun j hj=>absurd hj (Nat.not_lt_zero j)⟩ fun i ⟨hi,ha⟩=>?_
 by_cases yI:i<n.l.length
 ·have jV:=zGP ha
  clear ha
  refine zAh<|zAc 3<|S_a [(0,.n n.l.length)] (ap (lnS prV n.l) an)<|zAd 1<|zAa<|zAU ((↑i:Int)<(↑n.l.length:Int)) (by omega)<|zAk<|zAh<|zAi 5<|zAc 1<|zAa<|zAi 6 ?_
  refine zAq (fun k=>k≤i∧∀ j,j<k→pr2 (n.l.getD i default)≠pr2 (n.l.getD j default)) (fun (k:Nat)=>[(6,I (k:Nat))]) (fun k=>i-k) (0:Nat) ⟨Nat.zero_le _,fun j hj=>absurd hj (Nat.not_lt_zero j)⟩ fun k ⟨hk,hb⟩=>?_
  by_cases kD:k<i
  ·have kX:=zGP hb
   clear hb jV
   refine zAh<|zAc 3<|zAa<|zAU ((↑k:Int)<(↑i:Int)) (by omega)<|zAk<|zAh<|zAi 7<|zAc 3<|S_a [(2,.v (PV.agg [I (n.l.getD i default).fst,I (n.l.getD i default).snd]))] (ap (zBJ default (by omega):(List.map prV n.l)[i]? = some (PV.agg [I (n.l.getD i default).fst,I (n.l.getD i default).snd])) an)<|zAd 4<|S_a [(2,.v (PV.agg [I (n.l.getD k default).fst,I (n.l.getD k default).snd]))] (ap (zBJ default (by omega):(List.map prV n.l)[k]? = some (PV.agg [I (n.l.getD k default).fst,I (n.l.getD k default).snd])) an)<|zAd 5<|zAa<|zAc 1<|zAd 1<|zAd 1<|zAd 3<|zEM 113 ((n.l.getD i default).fst=(n.l.getD k default).fst) (fun k1=>(zAd 1<|zAd 1<|zAd 1<|zAd 4<|zEM 120 ((n.l.getD i default).snd=(n.l.getD k default).snd) (fun k2=>(zAd 13<|zAa<|zBR<|zAc 1<|zAa<|zAn<|E_a [] an (I 5) [] ?_ rfl)) (fun k2=>(zAd 1<|zAd 1<|zAd 1<|zAd 3<|zEM 126 ((n.l.getD i default).fst=(n.l.getD k default).snd) (fun k3=>(zAd 1<|zAd 1<|zAd 1<|zAd 4<|zAa<|zAT ((n.l.getD i default).snd=(n.l.getD k default).fst) (by omega)<|zAk<|zAf<|zAd 1<|S_a [(1,.v (I (↑(k+1):Int)))] (ap (wrN k) an)<|zAd 1<|zAa ?_)) (fun k3=>(zAd 7<|zAa<|zA0<|zAk<|zAf<|zAd 1<|S_a [(1,.v (I (↑(k+1):Int)))] (ap (wrN k) an)<|zAd 1<|zAa ?_)))))) (fun k1=>(zAd 7<|zAd 1<|zAd 1<|zAd 1<|zAd 3<|zEM 126 ((n.l.getD i default).fst=(n.l.getD k default).snd) (fun k4=>(zAd 1<|zAd 1<|zAd 1<|zAd 4<|zAa<|zB3 ((n.l.getD i default).snd=(n.l.getD k default).fst) (fun k5=>(zAc 1<|zAa<|zAn<|E_a [] an (I 5) [] ?_ rfl)) (fun k5=>(zAk<|zAf<|zAd 1<|S_a [(1,.v (I (↑(k+1):Int)))] (ap (wrN k) an)<|zAd 1<|zAa ?_)))) (fun k4=>(zAd 7<|zAa<|zA0<|zAk<|zAf<|zAd 1<|S_a [(1,.v (I (↑(k+1):Int)))] (ap (wrN k) an)<|zAd 1<|zAa ?_))))
   all_goals first
    | exact ⟨k+1,⟨by omega,kX (zUF (by omega))⟩,by omega,by kernel_rfl,by kernel_rfl⟩
    | (have h5:=zVE hA hB kD yI (zV6 (by omega));rw [h5])
  ·have yg:=jV fun j hj=>hb j (by omega)
   clear hb jV
   refine zAh<|zAc 3<|zAa<|zAT ((↑k:Int)<(↑i:Int)) (by omega)<|zAA 6<|zAf<|zAd 1<|S_a [(1,.v (I (↑(i+1):Int)))] (ap (wrN i) an)<|zAd 1<|zAa ?_
   exact ⟨i+1,⟨by omega,yg⟩,by omega,by kernel_rfl,by kernel_rfl⟩
 have hC:=zVQ hA hB fun i hi=>ha i (by omega)
 clear ha hA hB
 refine zAh<|zAc 3<|S_a [(0,.n n.l.length)] (ap (lnS prV n.l) an)<|zAd 1<|zAa<|zAT ((↑i:Int)<(↑n.l.length:Int)) (by omega)<|zAA 4<|zAh<|zAc 1<|zAa<|zAi 8 ?_
 refine zAq (fun i=>i≤n.n.length∧∀ j,j<i→inB (n.n.getD j default).1 (-1) ((j:Int)-1)=true) (fun (i:Nat)=>[(9,I (i:Nat))]) (fun i=>n.n.length-i) (0:Nat) ⟨Nat.zero_le _,fun j hj=>absurd hj (Nat.not_lt_zero j)⟩ fun i ⟨hi,ha⟩=>?_
 by_cases yI:i<n.n.length
 ·have jV:=zGP ha
  clear ha
  refine zAh<|zAc 3<|S_a [(0,.n n.n.length)] (ap (lnS ntV n.n) an)<|zAd 1<|zAa<|zAU ((↑i:Int)<(↑n.n.length:Int)) (by omega)<|zAk<|zAh<|zAi 9<|zAc 3<|S_a [(2,.v (PV.agg [I (n.n.getD i default).fst,PV.bool (n.n.getD i default).snd]))] (ap (zBJ default (by omega):(List.map ntV n.n)[i]? = some (PV.agg [I (n.n.getD i default).fst,PV.bool (n.n.getD i default).snd])) an)<|zAd 3<|S_a [(1,.v (I ((↑i:Int)-1)))] (ap ((zDl rfl (by omega)):I (IntKind.i64.wrap ((↑i:Int)-1))=I ((↑i:Int)-1)) an)<|S_a [(10,.ret (PV.bool !inB (n.n.getD i default).fst (-1) ((↑i:Int)-1)) [])] (ap (f111 ((n.n.getD i default).fst) (-1) ((↑i:Int)-1)) an)<|zAa<|zEb (!inB (n.n.getD i default).fst (-1) ((↑i:Int)-1)) (fun k0=>(zAc 1<|zAa<|zAn<|E_a [] an (I 1) [] ?_ rfl)) (fun k0=>(zAk<|zAf<|zAd 1<|S_a [(1,.v (I (↑(i+1):Int)))] (ap (wrN i) an)<|zAd 1<|zAa ?_))
  ·rw [zUt hC yI (ntt k0)]
  ·exact ⟨i+1,⟨by omega,jV (ntf k0)⟩,by omega,by kernel_rfl,by kernel_rfl⟩
 have hD:=zXZ (n:=n) fun i hi=>ha i (by omega)
 clear ha
 refine zAh<|zAc 3<|S_a [(0,.n n.n.length)] (ap (lnS ntV n.n) an)<|zAd 1<|zAa<|zAT ((↑i:Int)<(↑n.n.length:Int)) (by omega)<|zAA 8<|zAh<|zAc 1<|zAa<|zAi 10 ?_
 refine zAq (fun i=>i≤n.n.length∧∀ j,j<i→∀ k,k<j→¬ ((n.n.getD j default).1≥0∧(n.n.getD j default).1=(n.n.getD k default).1)) (fun (i:Nat)=>[(10,I (i:Nat))]) (fun i=>n.n.length-i) (0:Nat) ⟨Nat.zero_le _,fun j hj=>absurd hj (Nat.not_lt_zero j)⟩ fun i ⟨hi,ha⟩=>?_
 by_cases yI:i<n.n.length
 ·have jV:=zGP ha
  clear ha
  refine zAh<|zAc 3<|S_a [(0,.n n.n.length)] (ap (lnS ntV n.n) an)<|zAd 1<|zAa<|zAU ((↑i:Int)<(↑n.n.length:Int)) (by omega)<|zAk<|zAh<|zAi 11<|zAc 1<|zAa<|zAi 12 ?_
  refine zAq (fun k=>k≤i∧∀ j,j<k→¬ ((n.n.getD i default).1≥0∧(n.n.getD i default).1=(n.n.getD j default).1)) (fun (k:Nat)=>[(11,I (k:Nat))]) (fun k=>i-k) (0:Nat) ⟨Nat.zero_le _,fun j hj=>absurd hj (Nat.not_lt_zero j)⟩ fun k ⟨hk,hb⟩=>?_
  by_cases kD:k<i
  ·have kX:=zGP hb
   clear hb jV
   refine zAh<|zAc 3<|zAa<|zAU ((↑k:Int)<(↑i:Int)) (by omega)<|zAk<|zAh<|zAi 13<|zAc 3<|S_a [(2,.v (PV.agg [I (n.n.getD i default).fst,PV.bool (n.n.getD i default).snd]))] (ap (zBJ default (by omega):(List.map ntV n.n)[i]? = some (PV.agg [I (n.n.getD i default).fst,PV.bool (n.n.getD i default).snd])) an)<|zAd 4<|zEM 169 ((n.n.getD i default).fst≥0) (fun k1=>(zAd 3<|S_a [(2,.v (PV.agg [I (n.n.getD i default).fst,PV.bool (n.n.getD i default).snd]))] (ap (zBJ default (by omega):(List.map ntV n.n)[i]? = some (PV.agg [I (n.n.getD i default).fst,PV.bool (n.n.getD i default).snd])) an)<|zAd 5<|S_a [(2,.v (PV.agg [I (n.n.getD k default).fst,PV.bool (n.n.getD k default).snd]))] (ap (zBJ default (by omega):(List.map ntV n.n)[k]? = some (PV.agg [I (n.n.getD k default).fst,PV.bool (n.n.getD k default).snd])) an)<|zAd 4<|zAa<|zB3 ((n.n.getD i default).fst=(n.n.getD k default).fst) (fun k2=>(zAc 1<|zAa<|zAn<|E_a [] an (I 5) [] ?_ rfl)) (fun k2=>(zAk<|zAf<|zAd 1<|S_a [(1,.v (I (↑(k+1):Int)))] (ap (wrN k) an)<|zAd 1<|zAa ?_)))) (fun k1=>(zAd 14<|zAa<|zA0<|zAk<|zAf<|zAd 1<|S_a [(1,.v (I (↑(k+1):Int)))] (ap (wrN k) an)<|zAd 1<|zAa ?_))
   all_goals first
    | exact ⟨k+1,⟨by omega,kX (by omega)⟩,by omega,by kernel_rfl,by kernel_rfl⟩
    | (have h5:=zUw hC hD kD yI (by assumption) (by assumption);rw [h5])
  ·have yg:=jV fun j hj=>hb j (by omega)
   clear hb jV
   refine zAh<|zAc 3<|zAa<|zAT ((↑k:Int)<(↑i:Int)) (by omega)<|zAA 12<|zAf<|zAd 1<|S_a [(1,.v (I (↑(i+1):Int)))] (ap (wrN i) an)<|zAd 1<|zAa ?_
   exact ⟨i+1,⟨by omega,yg⟩,by omega,by kernel_rfl,by kernel_rfl⟩
 have hE:=zWR hD fun i hi=>ha i (by omega)
 clear ha
 refine zAh<|zAc 3<|S_a [(0,.n n.n.length)] (ap (lnS ntV n.n) an)<|zAd 1<|zAa<|zAT ((↑i:Int)<(↑n.n.length:Int)) (by omega)<|zAA 10<|zAh<|zAc 1<|zAa<|zAi 14 ?_
 refine zAq (fun s=>s≤n.s.length∧∀ j,j<s→zIs n.h (n.s.getD j [])=true) (fun (s:Nat)=>[(12,I (s:Nat))]) (fun s=>n.s.length-s) (0:Nat) ⟨Nat.zero_le _,fun j hj=>absurd hj (Nat.not_lt_zero j)⟩ fun s ⟨hi,ha⟩=>?_
 by_cases yI:s<n.s.length
 ·have jV:=zGP ha
  have wJ:=zBK (d:=[]) hs.hr s yI
  clear ha
  refine zAh<|zAc 3<|S_a [(0,.n n.s.length)] (ap (lnS zAR n.s) an)<|zAd 1<|zAa<|zAU ((↑s:Int)<(↑n.s.length:Int)) (by omega)<|zAk<|zAh<|zAi 15<|zAc 1<|zAa<|zAi 16 ?_
  refine zAq (fun k=>k≤(n.s.getD s []).length∧∀ j,j<k→inB ((n.s.getD s []).getD j 0) 0 (n.h-1)=true) (fun (k:Nat)=>[(13,I (k:Nat))]) (fun k=>(n.s.getD s []).length-k) (0:Nat) ⟨Nat.zero_le _,fun j hj=>absurd hj (Nat.not_lt_zero j)⟩ fun k ⟨hk,hb⟩=>?_
  by_cases kD:k<(n.s.getD s []).length
  ·have kX:=zGP hb
   clear hb jV
   refine zAh<|zAc 4<|S_a [(2,.v (zAR (n.s.getD s [])))] (ap (zBJ [] (by omega):(List.map zAR n.s)[s]? = some (zAR (n.s.getD s []))) an)<|zAd 1<|S_a [(0,.n ((n.s.getD s []).length))] (ap (lnS I (n.s.getD s [])) an)<|zAd 1<|zAa<|zAU ((↑k:Int)<(↑(n.s.getD s []).length:Int)) (by omega)<|zAk<|zAh<|zAi 17<|zAc 3<|S_a [(2,.v (zAR (n.s.getD s [])))] (ap (zBJ [] (by omega):(List.map zAR n.s)[s]? = some (zAR (n.s.getD s []))) an)<|zAd 2<|S_a [(2,.v (I ((n.s.getD s []).getD k 0)))] (ap (zBJ (0) (by omega):(List.map I (n.s.getD s []))[k]? = some (I ((n.s.getD s []).getD k 0))) an)<|zAd 3<|S_a [(1,.v (I (n.h-1)))] (ap ((zDl rfl (by omega)):I (IntKind.i64.wrap (n.h-1))=I (n.h-1)) an)<|S_a [(10,.ret (PV.bool !inB ((n.s.getD s []).getD k 0) 0 (n.h-1)) [])] (ap (f111 ((n.s.getD s []).getD k 0) (0) (n.h-1)) an)<|zAa<|zEb (!inB ((n.s.getD s []).getD k 0) 0 (n.h-1)) (fun k1=>(zAc 1<|zAa<|zAn<|E_a [] an (I 1) [] ?_ rfl)) (fun k1=>(zAk<|zAf<|zAd 1<|S_a [(1,.v (I (↑(k+1):Int)))] (ap (wrN k) an)<|zAd 1<|zAa ?_))
   ·rw [zU6 hC hE yI kD (ntt k1)]
   ·exact ⟨k+1,⟨by omega,kX (ntf k1)⟩,by omega,by kernel_rfl,by kernel_rfl⟩
  ·have yg:=jV (zKG (d:=0) fun j hj=>hb j (by omega))
   clear hb jV
   refine zAh<|zAc 4<|S_a [(2,.v (zAR (n.s.getD s [])))] (ap (zBJ [] (by omega):(List.map zAR n.s)[s]? = some (zAR (n.s.getD s []))) an)<|zAd 1<|S_a [(0,.n ((n.s.getD s []).length))] (ap (lnS I (n.s.getD s [])) an)<|zAd 1<|zAa<|zAT ((↑k:Int)<(↑(n.s.getD s []).length:Int)) (by omega)<|zAA 16<|zAf<|zAd 1<|S_a [(1,.v (I (↑(s+1):Int)))] (ap (wrN s) an)<|zAd 1<|zAa ?_
   exact ⟨s+1,⟨by omega,yg⟩,by omega,by kernel_rfl,by kernel_rfl⟩
 have hF:(n.s.all fun x=>zIs n.h x)=true:=zKG (d:=[]) fun i hi=>ha i (by omega)
 clear ha
 refine zAh<|zAc 3<|S_a [(0,.n n.s.length)] (ap (lnS zAR n.s) an)<|zAd 1<|zAa<|zAT ((↑s:Int)<(↑n.s.length:Int)) (by omega)<|zAA 14<|zAh<|zAc 1<|zAa<|zAi 18 ?_
 refine zAq (fun s=>s≤n.s.length∧∀ j,j<s→zC7 (n.s.getD j [])=true) (fun (s:Nat)=>[(14,I (s:Nat))]) (fun s=>n.s.length-s) (0:Nat) ⟨Nat.zero_le _,fun j hj=>absurd hj (Nat.not_lt_zero j)⟩ fun s ⟨hi,ha⟩=>?_
 by_cases yI:s<n.s.length
 ·have jV:=zGP ha
  have wJ:=zBK (d:=[]) hs.hr s yI
  clear ha
  refine zAh<|zAc 3<|S_a [(0,.n n.s.length)] (ap (lnS zAR n.s) an)<|zAd 1<|zAa<|zAU ((↑s:Int)<(↑n.s.length:Int)) (by omega)<|zAk<|zAh<|zAi 19<|zAc 1<|zAa<|zAi 20 ?_
  refine zAq (fun m=>(m=0∨m+1≤(n.s.getD s []).length)∧∀ j,j<m→(n.s.getD s []).getD j 0<(n.s.getD s []).getD (j+1) 0) (fun (m:Nat)=>[(15,I ((m+1:Nat):Int))]) (fun m=>(n.s.getD s []).length-m) (0:Nat) ⟨.inl rfl,fun j hj=>absurd hj (Nat.not_lt_zero j)⟩ fun m ⟨hk,hb⟩=>?_
  by_cases kD:m+1<(n.s.getD s []).length
  ·have kX:=zGP hb
   clear hb jV
   refine zAh<|zAc 4<|S_a [(2,.v (zAR (n.s.getD s [])))] (ap (zBJ [] (by omega):(List.map zAR n.s)[s]? = some (zAR (n.s.getD s []))) an)<|zAd 1<|S_a [(0,.n ((n.s.getD s []).length))] (ap (lnS I (n.s.getD s [])) an)<|zAd 1<|zAa<|zAU ((↑(m+1):Int)<(↑(n.s.getD s []).length:Int)) (by omega)<|zAk<|zAh<|zAi 21<|zAc 3<|S_a [(2,.v (zAR (n.s.getD s [])))] (ap (zBJ [] (by omega):(List.map zAR n.s)[s]? = some (zAR (n.s.getD s []))) an)<|zAd 2<|S_a [(1,.v (I (↑(m+1-1):Int)))] (ap ((zDl (by omega) (by omega)):I (IntKind.i64.wrap ((↑(m+1):Int)-1))=I (↑(m+1-1):Int)) an)<|S_a [(2,.v (I ((n.s.getD s []).getD m 0)))] (ap (zBJ (0) (by omega):(List.map I (n.s.getD s []))[m]? = some (I ((n.s.getD s []).getD m 0))) an)<|zAd 4<|S_a [(2,.v (zAR (n.s.getD s [])))] (ap (zBJ [] (by omega):(List.map zAR n.s)[s]? = some (zAR (n.s.getD s []))) an)<|zAd 2<|S_a [(2,.v (I ((n.s.getD s []).getD (m+1) 0)))] (ap (zBJ (0) (by omega):(List.map I (n.s.getD s []))[m+1]? = some (I ((n.s.getD s []).getD (m+1) 0))) an)<|zAd 2<|zAa<|zB3 ((n.s.getD s []).getD m 0≥(n.s.getD s []).getD (m+1) 0) (fun k0=>(zAc 1<|zAa<|zAn<|E_a [] an (I 4) [] ?_ rfl)) (fun k0=>(zAk<|zAf<|zAd 1<|S_a [(1,.v (I (↑(m+1+1):Int)))] (ap ((zDl (by omega) (by omega)):I (IntKind.i64.wrap ((↑(m+1):Int)+1))=I (↑(m+1+1):Int)) an)<|zAd 1<|zAa ?_))
   ·rw [zUO hC hE hF yI kD k0]
   ·exact ⟨m+1,⟨.inr (by omega),kX (by omega)⟩,by omega,by kernel_rfl,by kernel_rfl⟩
  ·have yg:=jV (zWt fun j hj=>hb j (by omega))
   clear hb jV
   refine zAh<|zAc 4<|S_a [(2,.v (zAR (n.s.getD s [])))] (ap (zBJ [] (by omega):(List.map zAR n.s)[s]? = some (zAR (n.s.getD s []))) an)<|zAd 1<|S_a [(0,.n ((n.s.getD s []).length))] (ap (lnS I (n.s.getD s [])) an)<|zAd 1<|zAa<|zAT ((↑(m+1):Int)<(↑(n.s.getD s []).length:Int)) (by omega)<|zAA 20<|zAf<|zAd 1<|S_a [(1,.v (I (↑(s+1):Int)))] (ap (wrN s) an)<|zAd 1<|zAa ?_
   exact ⟨s+1,⟨by omega,yg⟩,by omega,by kernel_rfl,by kernel_rfl⟩
 have hG:(n.s.all fun x=>zC7 x)=true:=zKG (d:=[]) fun i hi=>ha i (by omega)
 have hR:=zWl hC hE hF hG
 clear ha
 refine zAh<|zAc 3<|S_a [(0,.n n.s.length)] (ap (lnS zAR n.s) an)<|zAd 1<|zAa<|zAT ((↑s:Int)<(↑n.s.length:Int)) (by omega)<|zAA 18<|zAc 1<|zAa<|zAn<|E_a [] an (I 0) [] (by simp [*]) rfl
end Go.Eng
set_option maxRecDepth 10000
set_option maxHeartbeats 4000000
namespace Go.Eng
open Go Go.Proofs
theorem f39 (n:Nw) (cs:List (Int×Int)) (hs:Small n) (hl:cs.length<1000000):FG 39 [nwV n,prs cs] (I (zDi n cs)):=by
 have h2:=hs.hn
 have h3:=hs.hs
 refine zAe Tryz.f39 ?_
 by_cases he:zCS n=0
 ·have hn:=zS7 he
  refine zAc 2<|zAa<|zAh<|zAc 1<|S_a [(6,.ret (I (zCS n)) [])] (ap (f117 n (by omega)) an)<|zAd 1<|zAa<|zAc 2<|zAa<|zHm (zCS n=0) (by omega)<|zAk<|zAh<|zAc 1<|S_a [(0,.n cs.length)] (ap (lnS prV cs) an)<|zAd 1<|zAa<|zB3 ((↑cs.length:Int)>16) (fun k0=>(zAc 1<|zAa<|zAn<|E_a [] an (I 2) [] ?_ rfl)) (fun k0=>(zAk<|zAh<|zAc 1<|zAa<|zAi 0 ?_))
  ·simp only [zDi,he,k0,if_true]
  have hx:zDi n cs=if (!cs.all fun c=>zGG n c)=true then 1 else 0:=by simp only [zDi,he,k0,if_true,if_false]
  rw [hx]
  refine zAq (fun i=>i≤cs.length∧∀ j,j<i→zGG n (cs.getD j default)=true) (fun (i:Nat)=>[(6,I (i:Nat))]) (fun i=>cs.length-i) (0:Nat) ⟨Nat.zero_le _,fun j hj=>absurd hj (Nat.not_lt_zero j)⟩ fun i ⟨hi,ha⟩=>?_
  by_cases yI:i<cs.length
  ·have jV:=zGP ha
   clear ha
   refine zAh<|zAc 2<|S_a [(0,.n cs.length)] (ap (lnS prV cs) an)<|zAd 1<|zAa<|zAU ((↑i:Int)<(↑cs.length:Int)) (by omega)<|zAk<|zAh<|zAi 1<|zAc 2<|S_a [(2,.v (PV.agg [I (cs.getD i default).fst,I (cs.getD i default).snd]))] (ap (zBJ default (by omega):(List.map prV cs)[i]? = some (PV.agg [I (cs.getD i default).fst,I (cs.getD i default).snd])) an)<|zAd 4<|S_a [(0,.n n.n.length)] (ap (lnS ntV n.n) an)<|S_a [(1,.v (I ((↑n.n.length:Int)-1)))] (ap ((zDl rfl (by omega)):I (IntKind.i64.wrap ((↑n.n.length:Int)-1))=I ((↑n.n.length:Int)-1)) an)<|S_a [(10,.ret (PV.bool !inB (cs.getD i default).fst 0 ((↑n.n.length:Int)-1)) [])] (ap (f111 ((cs.getD i default).fst) (0) ((↑n.n.length:Int)-1)) an)<|zAd 1<|zEi 31 (!inB (cs.getD i default).fst 0 ((↑n.n.length:Int)-1)) (fun k1=>(zAd 11<|zAa<|zBR<|zAc 1<|zAa<|zAn<|E_a [] an (I 1) [] ?_ rfl)) (fun k1=>(zAd 2<|S_a [(2,.v (PV.agg [I (cs.getD i default).fst,I (cs.getD i default).snd]))] (ap (zBJ default (by omega):(List.map prV cs)[i]? = some (PV.agg [I (cs.getD i default).fst,I (cs.getD i default).snd])) an)<|zAd 4<|S_a [(0,.n n.s.length)] (ap (lnS zAR n.s) an)<|S_a [(1,.v (I ((↑n.s.length:Int)-1)))] (ap ((zDl rfl (by omega)):I (IntKind.i64.wrap ((↑n.s.length:Int)-1))=I ((↑n.s.length:Int)-1)) an)<|S_a [(10,.ret (PV.bool !inB (cs.getD i default).snd 0 ((↑n.s.length:Int)-1)) [])] (ap (f111 ((cs.getD i default).snd) (0) ((↑n.s.length:Int)-1)) an)<|zAd 1<|zAa<|zEb (!inB (cs.getD i default).snd 0 ((↑n.s.length:Int)-1)) (fun k2=>(zAc 1<|zAa<|zAn<|E_a [] an (I 1) [] ?_ rfl)) (fun k2=>(zAk<|zAf<|zAd 1<|S_a [(1,.v (I (↑(i+1):Int)))] (ap (wrN i) an)<|zAd 1<|zAa ?_))))
   ·rw [zJp (d:=default) yI (by simp only [zGG,ntt k1,Bool.false_and])];rfl
   ·rw [zJp (d:=default) yI (by simp only [zGG,ntt k2,Bool.and_false])];rfl
   ·exact ⟨i+1,⟨by omega,jV (by simp only [zGG,ntf k1,ntf k2,Bool.true_and])⟩,by omega,by kernel_rfl,by kernel_rfl⟩
  have hA:(cs.all fun c=>zGG n c)=true:=zKG fun i hi=>ha i (by omega)
  clear ha
  rw [hA]
  refine zAh<|zAc 2<|S_a [(0,.n cs.length)] (ap (lnS prV cs) an)<|zAd 1<|zAa<|zAT ((↑i:Int)<(↑cs.length:Int)) (by omega)<|zAA 0<|zAc 1<|zAa<|zAn<|E_a [] an (I 0) [] rfl rfl
 ·refine zAc 2<|zAa<|zAh<|zAc 1<|S_a [(6,.ret (I (zCS n)) [])] (ap (f117 n (by omega)) an)<|zAd 1<|zAa<|zAc 2<|zAa<|zD8 (zCS n=0) (by omega)<|zAc 2<|zAa<|zAn<|E_a [] an (I (zCS n)) [] ?_ rfl
  simp only [zDi,he,if_false]
theorem f93 (n:Nw) (cs:List (Int×Int)) (e:Int) (hs:Small n) (hl:cs.length<1000000):FG 93 [nwV n,prs cs,I e] (I (zDj n cs e)):=by
 refine zAe Tryz.f93 ?_
 by_cases he:zDi n cs=0
 ·refine zAc 2<|zAa<|zAh<|zAc 2<|S_a [(8,.ret (I (zDi n cs)) [])] (ap (f39 n cs (by omega) (by omega)) an)<|zAd 1<|zAa<|zAc 2<|zAa<|zHm (zDi n cs=0) (by omega)<|zAk<|zAh<|zAc 1<|S_a [(10,.ret (PV.bool !inB e 0 12) [])] (ap (f111 e (0) (12)) an)<|zAa<|zEb (!inB e 0 12) (fun k0=>(zAc 1<|zAa<|zAn<|E_a [] an (I 3) [] ?_ rfl)) (fun k0=>(zAk<|zAc 1<|zAa<|zAn<|E_a [] an (I 0) [] ?_ rfl))
  ·simp only [zDj,he,ntt k0,if_true];rfl
  ·simp only [zDj,he,ntf k0,if_true]
 ·refine zAc 2<|zAa<|zAh<|zAc 2<|S_a [(8,.ret (I (zDi n cs)) [])] (ap (f39 n cs (by omega) (by omega)) an)<|zAd 1<|zAa<|zAc 2<|zAa<|zD8 (zDi n cs=0) (by omega)<|zAc 2<|zAa<|zAn<|E_a [] an (I (zDi n cs)) [] ?_ rfl
  simp only [zDj,he,if_false]
theorem zYP {n:Nw} {A B:List (List Bool)} {h i:Nat} (hh:h<n.h.toNat) (hi:i<n.n.length) (hx:zKH n A h i≠zKH n B h i):zTC n A B=false:=by
 simp only [zTC,List.all_eq_false]
 refine ⟨h,List.mem_range.2 hh,?_⟩
 simp only [zXx,List.all_eq_true]
 intro h2
 exact hx (beq_iff_eq.1 (h2 i (List.mem_range.2 hi)))
theorem f102 (n:Nw) (A B:List (List Bool)) (ho:NwOk n) (hA:∃ w,RelK n A w) (hB:∃ w,RelK n B w):FG 102 [nwV n,knV A,knV B] (.bool (zTC n A B)):=by
 have hb:=ho.h
 have ub:=ho.nl
 refine zAe Tryz.f102 ?_
 refine zAc 2<|zAa<|zAh<|zAc 1<|zAa<|zAi 0 ?_
 refine zAq (fun h=>h≤n.h.toNat∧∀ j,j<h→zXx n A B j=true) (fun (h:Nat)=>[(7,I (h:Nat))]) (fun h=>n.h.toNat-h) (0:Nat) ⟨Nat.zero_le _,fun j hj=>absurd hj (Nat.not_lt_zero j)⟩ fun h ⟨hh,ha⟩=>?_
 by_cases gb:(h:Int)<n.h
 ·have jV:=zGP ha
  clear ha
  refine zAh<|zAc 4<|zAa<|zAU ((↑h:Int)<n.h) (by omega)<|zAk<|zAh<|zAi 1<|zAc 1<|zAa<|zAi 2 ?_
  refine zAq (fun i=>i≤n.n.length∧∀ j,j<i→(zKH n A h j==zKH n B h j)=true) (fun (i:Nat)=>[(8,I (i:Nat))]) (fun i=>n.n.length-i) (0:Nat) ⟨Nat.zero_le _,fun j hj=>absurd hj (Nat.not_lt_zero j)⟩ fun i ⟨hi,ha⟩=>?_
  by_cases yI:(i:Int)<n.n.length
  ·have kX:=zGP ha
   clear ha jV
   refine zAh<|zAc 3<|S_a [(0,.n n.n.length)] (ap (lnS ntV n.n) an)<|zAd 1<|zAa<|zAU ((↑i:Int)<(↑n.n.length:Int)) (by omega)<|zAk<|zAh<|zAi 3<|zAc 4<|S_a [(12,.ret (PV.bool (zKH n A h i)) [])] (ap (f113 n A h i (by omega) (by omega) (by first | omega | (simp<;>omega)) (by first | omega | (simp<;>omega))) an)<|zAd 4<|S_a [(12,.ret (PV.bool (zKH n B h i)) [])] (ap (f113 n B h i (by omega) (by omega) (by first | omega | (simp<;>omega)) (by first | omega | (simp<;>omega))) an)<|zAd 1<|zAa<|zEb (!zKH n A h i==zKH n B h i) (fun k0=>(zAc 1<|zAa<|zAn<|E_a [] an (PV.bool false) [] ?_ rfl)) (fun k0=>(zAk<|zAf<|zAd 1<|S_a [(1,.v (I (↑(i+1):Int)))] (ap (wrN i) an)<|zAd 1<|zAa ?_))
   ·rw [zYP (by omega) (by omega) (beq_eq_false_iff_ne.1 (ntt k0))]
   ·exact ⟨i+1,⟨by omega,kX (ntf k0)⟩,by omega,by kernel_rfl,by kernel_rfl⟩
  ·have yg:=jV (List.all_eq_true.2 fun j hj=>ha j (by have:=List.mem_range.1 hj;omega))
   clear ha jV
   refine zAh<|zAc 3<|S_a [(0,.n n.n.length)] (ap (lnS ntV n.n) an)<|zAd 1<|zAa<|zAT ((↑i:Int)<(↑n.n.length:Int)) (by omega)<|zAA 2<|zAf<|zAd 1<|S_a [(1,.v (I (↑(h+1):Int)))] (ap (wrN h) an)<|zAd 1<|zAa ?_
   exact ⟨h+1,⟨by omega,yg⟩,by omega,by kernel_rfl,by kernel_rfl⟩
 have hx:zTC n A B=true:=List.all_eq_true.2 fun j hj=>ha j (by have:=List.mem_range.1 hj;omega)
 clear ha
 refine zAh<|zAc 4<|zAa<|zAT ((↑h:Int)<n.h) (by omega)<|zAA 0<|zAc 1<|zAa<|zAn<|E_a [] an (PV.bool true) [] (by simp [*]) rfl
end Go.Eng
set_option maxRecDepth 10000
set_option maxHeartbeats 4000000
namespace Go.Eng
open Go Go.Proofs
end Go.Eng
set_option maxRecDepth 10000
set_option maxHeartbeats 4000000
namespace Go.Eng
open Go Go.Proofs
theorem zUN {n:Nw} {cs:List (Int×Int)} (h:zGh n cs=false):cs.length≤24∧Small n:=by
 simp only [zGh,Bool.or_eq_false_iff,decide_eq_false_iff_not,List.any_eq_false,decide_eq_true_eq] at h
 exact ⟨by omega,by omega,by omega,by omega,fun r hr=>by have:=h.2.2.2.2 r hr;omega⟩
end Go.Eng
set_option maxRecDepth 10000
set_option maxHeartbeats 4000000
namespace Go.Eng
open Go Go.Proofs
section
variable [Yo]
theorem f60 (l:List (Int×Int)) (i:Nat) (h:i<l.length) (hl:l.length≤16):zAp Tryz.prog zJX 60 [.bor 50000000 [] 2 0 l.length,I (i:Nat),I ((i:Nat)+1:Int)] [.own 2 (l.map prV)] (.bor 50000000 [] 2 0 (l.length-1)) [.own 2 ((l.eraseIdx i++[(0,0)]).map prV)]:=by
 rcases l with _ | ⟨p0,_ | ⟨p1,_ | ⟨p2,_ | ⟨p3,_ | ⟨p4,_ | ⟨p5,_ | ⟨p6,_ | ⟨p7,_ | ⟨p8,_ | ⟨p9,_ | ⟨p10,_ | ⟨p11,_ | ⟨p12,_ | ⟨p13,_ | ⟨p14,_ | ⟨p15,_ | ⟨p16,l⟩⟩⟩⟩⟩⟩⟩⟩⟩⟩⟩⟩⟩⟩⟩⟩⟩
 ·exact absurd h (Nat.not_lt_zero _)
 ·obtain rfl:i=0:=by simp at h;omega
  ·exact zAp.closed 9
 ·obtain rfl | rfl:i=0∨i=1:=by simp at h;omega
  ·exact zAp.closed 9
  ·exact zAp.closed 9
 ·obtain rfl | rfl | rfl:i=0∨i=1∨i=2:=by simp at h;omega
  ·exact zAp.closed 9
  ·exact zAp.closed 9
  ·exact zAp.closed 9
 ·obtain rfl | rfl | rfl | rfl:i=0∨i=1∨i=2∨i=3:=by simp at h;omega
  ·exact zAp.closed 9
  ·exact zAp.closed 9
  ·exact zAp.closed 9
  ·exact zAp.closed 9
 ·obtain rfl | rfl | rfl | rfl | rfl:i=0∨i=1∨i=2∨i=3∨i=4:=by simp at h;omega
  ·exact zAp.closed 9
  ·exact zAp.closed 9
  ·exact zAp.closed 9
  ·exact zAp.closed 9
  ·exact zAp.closed 9
 ·obtain rfl | rfl | rfl | rfl | rfl | rfl:i=0∨i=1∨i=2∨i=3∨i=4∨i=5:=by simp at h;omega
  ·exact zAp.closed 9
  ·exact zAp.closed 9
  ·exact zAp.closed 9
  ·exact zAp.closed 9
  ·exact zAp.closed 9
  ·exact zAp.closed 9
 ·obtain rfl | rfl | rfl | rfl | rfl | rfl | rfl:i=0∨i=1∨i=2∨i=3∨i=4∨i=5∨i=6:=by simp at h;omega
  ·exact zAp.closed 9
  ·exact zAp.closed 9
  ·exact zAp.closed 9
  ·exact zAp.closed 9
  ·exact zAp.closed 9
  ·exact zAp.closed 9
  ·exact zAp.closed 9
 ·obtain rfl | rfl | rfl | rfl | rfl | rfl | rfl | rfl:i=0∨i=1∨i=2∨i=3∨i=4∨i=5∨i=6∨i=7:=by simp at h;omega
  ·exact zAp.closed 9
  ·exact zAp.closed 9
  ·exact zAp.closed 9
  ·exact zAp.closed 9
  ·exact zAp.closed 9
  ·exact zAp.closed 9
  ·exact zAp.closed 9
  ·exact zAp.closed 9
 ·obtain rfl | rfl | rfl | rfl | rfl | rfl | rfl | rfl | rfl:i=0∨i=1∨i=2∨i=3∨i=4∨i=5∨i=6∨i=7∨i=8:=by simp at h;omega
  ·exact zAp.closed 9
  ·exact zAp.closed 9
  ·exact zAp.closed 9
  ·exact zAp.closed 9
  ·exact zAp.closed 9
  ·exact zAp.closed 9
  ·exact zAp.closed 9
  ·exact zAp.closed 9
  ·exact zAp.closed 9
 ·obtain rfl | rfl | rfl | rfl | rfl | rfl | rfl | rfl | rfl | rfl:i=0∨i=1∨i=2∨i=3∨i=4∨i=5∨i=6∨i=7∨i=8∨i=9:=by simp at h;omega
  ·exact zAp.closed 9
  ·exact zAp.closed 9
  ·exact zAp.closed 9
  ·exact zAp.closed 9
  ·exact zAp.closed 9
  ·exact zAp.closed 9
  ·exact zAp.closed 9
  ·exact zAp.closed 9
  ·exact zAp.closed 9
  ·exact zAp.closed 9
 ·obtain rfl | rfl | rfl | rfl | rfl | rfl | rfl | rfl | rfl | rfl | rfl:i=0∨i=1∨i=2∨i=3∨i=4∨i=5∨i=6∨i=7∨i=8∨i=9∨i=10:=by simp at h;omega
  ·exact zAp.closed 9
  ·exact zAp.closed 9
  ·exact zAp.closed 9
  ·exact zAp.closed 9
  ·exact zAp.closed 9
  ·exact zAp.closed 9
  ·exact zAp.closed 9
  ·exact zAp.closed 9
  ·exact zAp.closed 9
  ·exact zAp.closed 9
  ·exact zAp.closed 9
 ·obtain rfl | rfl | rfl | rfl | rfl | rfl | rfl | rfl | rfl | rfl | rfl | rfl:i=0∨i=1∨i=2∨i=3∨i=4∨i=5∨i=6∨i=7∨i=8∨i=9∨i=10∨i=11:=by simp at h;omega
  ·exact zAp.closed 9
  ·exact zAp.closed 9
  ·exact zAp.closed 9
  ·exact zAp.closed 9
  ·exact zAp.closed 9
  ·exact zAp.closed 9
  ·exact zAp.closed 9
  ·exact zAp.closed 9
  ·exact zAp.closed 9
  ·exact zAp.closed 9
  ·exact zAp.closed 9
  ·exact zAp.closed 9
 ·obtain rfl | rfl | rfl | rfl | rfl | rfl | rfl | rfl | rfl | rfl | rfl | rfl | rfl:i=0∨i=1∨i=2∨i=3∨i=4∨i=5∨i=6∨i=7∨i=8∨i=9∨i=10∨i=11∨i=12:=by simp at h;omega
  ·exact zAp.closed 9
  ·exact zAp.closed 9
  ·exact zAp.closed 9
  ·exact zAp.closed 9
  ·exact zAp.closed 9
  ·exact zAp.closed 9
  ·exact zAp.closed 9
  ·exact zAp.closed 9
  ·exact zAp.closed 9
  ·exact zAp.closed 9
  ·exact zAp.closed 9
  ·exact zAp.closed 9
  ·exact zAp.closed 9
 ·obtain rfl | rfl | rfl | rfl | rfl | rfl | rfl | rfl | rfl | rfl | rfl | rfl | rfl | rfl:i=0∨i=1∨i=2∨i=3∨i=4∨i=5∨i=6∨i=7∨i=8∨i=9∨i=10∨i=11∨i=12∨i=13:=by simp at h;omega
  ·exact zAp.closed 9
  ·exact zAp.closed 9
  ·exact zAp.closed 9
  ·exact zAp.closed 9
  ·exact zAp.closed 9
  ·exact zAp.closed 9
  ·exact zAp.closed 9
  ·exact zAp.closed 9
  ·exact zAp.closed 9
  ·exact zAp.closed 9
  ·exact zAp.closed 9
  ·exact zAp.closed 9
  ·exact zAp.closed 9
  ·exact zAp.closed 9
 ·obtain rfl | rfl | rfl | rfl | rfl | rfl | rfl | rfl | rfl | rfl | rfl | rfl | rfl | rfl | rfl:i=0∨i=1∨i=2∨i=3∨i=4∨i=5∨i=6∨i=7∨i=8∨i=9∨i=10∨i=11∨i=12∨i=13∨i=14:=by simp at h;omega
  ·exact zAp.closed 9
  ·exact zAp.closed 9
  ·exact zAp.closed 9
  ·exact zAp.closed 9
  ·exact zAp.closed 9
  ·exact zAp.closed 9
  ·exact zAp.closed 9
  ·exact zAp.closed 9
  ·exact zAp.closed 9
  ·exact zAp.closed 9
  ·exact zAp.closed 9
  ·exact zAp.closed 9
  ·exact zAp.closed 9
  ·exact zAp.closed 9
  ·exact zAp.closed 9
 ·obtain rfl | rfl | rfl | rfl | rfl | rfl | rfl | rfl | rfl | rfl | rfl | rfl | rfl | rfl | rfl | rfl:i=0∨i=1∨i=2∨i=3∨i=4∨i=5∨i=6∨i=7∨i=8∨i=9∨i=10∨i=11∨i=12∨i=13∨i=14∨i=15:=by simp at h;omega
  ·exact zAp.closed 9
  ·exact zAp.closed 9
  ·exact zAp.closed 9
  ·exact zAp.closed 9
  ·exact zAp.closed 9
  ·exact zAp.closed 9
  ·exact zAp.closed 9
  ·exact zAp.closed 9
  ·exact zAp.closed 9
  ·exact zAp.closed 9
  ·exact zAp.closed 9
  ·exact zAp.closed 9
  ·exact zAp.closed 9
  ·exact zAp.closed 9
  ·exact zAp.closed 9
  ·exact zAp.closed 9
 ·simp at hl
end
end Go.Eng
set_option maxRecDepth 10000
set_option maxHeartbeats 4000000
namespace Go.Eng
open Go Go.Proofs
def zTS (n:Nw) (cs:List (Int×Int)) (e i:Nat):Bool:=decide (zBh n (cs.eraseIdx i) e=zBh n cs e)
theorem zTY {n:Nw} {cs:List (Int×Int)} (ho:CrW n cs) (i:Nat):CrW n (cs.eraseIdx i) :=
 ⟨ho.nw,Nat.le_trans (List.length_eraseIdx_le _ _) ho.len,fun c hc=>ho.cs c (List.mem_of_mem_eraseIdx hc)⟩
theorem f46_1 (n:Nw) (cs:List (Int×Int)) (e:Int) (ho:EvOk n cs e):FG 46 [nwV n,prs cs,I e] (.tup [.own 1 ((zFv (zTS n cs e.toNat) cs.length).map I),I 0]):=by
 have hc:=ho.cr
 have vE:=hc.w
 have hn:=hc.nw
 have yN:=hc.len
 have he:=ho.ev
 have LG:=zCe (n:=n) (cs:=cs) e.toNat
 refine zAe Tryz.f46 ?_
 refine zAc 3<|zAa<|zAc 3<|S_a [(10,.ret (PV.tup [zDL n cs,I 0]) [])] (ap (f90_1 n cs e (by omega)) an)<|zAd 5<|zAa<|zAh<|zAc 2<|zAa<|zA0<|zAk<|zAc 2<|S_a [(7,.ret (hdV (zBh n cs e.toNat)) [])] (ap (f92 n cs e (by omega) (by omega)) an)<|zAd 2<|zAa<|zAc 1<|zAa<|zAh<|zAc 1<|S_a [(0,.n cs.length)] (ap (lnS prV cs) an)<|zAd 1<|zAa<|zAi 0 ?_
 refine zAq (fun (i,l)=>i≤cs.length∧l=zFv (zTS n cs e.toNat) i) (fun ((i:Nat),(l:List Int))=>[(11,.own 1 (l.map I)),(29,I (i:Nat))]) (fun (i,_)=>cs.length-i) ((0:Nat),([]:List Int)) ⟨Nat.zero_le _,by simp [zFv]⟩ fun (i,l) ⟨hi,hl⟩=>?_
 have w5:l.length≤i:=by rw [hl];exact zHe
 by_cases yI:i<cs.length
 ·have yt:(cs.eraseIdx i).length=cs.length-1:=List.length_eraseIdx_of_lt yI
  have gd:(cs.eraseIdx i++[((0:Int),(0:Int))]).take (cs.length-1)=cs.eraseIdx i:=by rw [← yt,List.take_left]
  have wx:CrW n ((cs.eraseIdx i++[((0:Int),(0:Int))]).take (cs.length-1)):=by rw [gd];exact zTY vE i
  have hwl2:(zBh n ((cs.eraseIdx i++[((0:Int),(0:Int))]).take (cs.length-1)) e.toNat).length=80:=zCe _
  have yZ:=zHw (p:=zTS n cs e.toNat) (k:=i)
  rw [← hl,show zTS n cs e.toNat i=decide (zBh n ((cs.eraseIdx i++[((0:Int),(0:Int))]).take (cs.length-1)) e.toNat=zBh n cs e.toNat) by rw [gd];rfl] at yZ
  clear hl gd
  refine zAc 1<|zAa<|zAh<|zAU ((↑i:Int)<(↑cs.length:Int)) (by omega)<|zAk<|zAh<|zAi 1<|zAc 2<|zAa<|zAc 5<|zAa<|zAc 1<|S_a [(6,.ret (PV.own 2 (List.map prV cs)) [])] (ap (f61 cs (by omega)) an)<|zAd 2<|S_a [(1,.v (I (↑(i+1):Int)))] (ap (wrN i) an)<|S_a [(7,.vs ([PV.bor 50000000 [] 2 0 cs.length,I (↑i:Int),I (↑(i+1):Int)])),(0,.ret (PV.bor 50000000 [] 2 0 (cs.length-1)) ([PV.own 2 (List.map prV (cs.eraseIdx i++[(0,0)]))]))] (ap ((by simp) : [PV.bor 50000000 [] 2 0 (List.map prV cs).length,I (↑i:Int),I (↑(i+1):Int)]=[PV.bor 50000000 [] 2 0 cs.length,I (↑i:Int),I (↑(i+1):Int)])<|ap (f60 cs i (by omega) (by omega)) an)<|zAd 2<|zAa<|zAc 1<|S_a [(16,.ob),(0,.v (prs (List.take (cs.length-1) (cs.eraseIdx i++[(0,0)])))),(38,.ret (hdV (zBh n (List.take (cs.length-1) (cs.eraseIdx i++[(0,0)])) e.toNat)) [])] (ap ((by exact zBi (by simp only [List.length_map,zzLn,zAY]<;>omega)):(0+(cs.length-1)).ble (List.map prV (cs.eraseIdx i++[(0,0)])).length=true)<|ap ((zO3 (zHC (by simp [zD0]) (zBC _))):PV.sl (zAD (List.take (cs.length-1) (List.drop 0 (List.map prV (cs.eraseIdx i++[(0,0)])))))=prs (List.take (cs.length-1) (cs.eraseIdx i++[(0,0)])))<|ap (f92 n (List.take (cs.length-1) (cs.eraseIdx i++[(0,0)])) e (by omega) (by omega)) an)<|zAd 1<|S_a [(0,.v (PV.bool (decide (zBh n (List.take (cs.length-1) (cs.eraseIdx i++[(0,0)])) e.toNat=zBh n cs e.toNat))))] (ap (zU4 80 (by omega) (by omega):zHM Tryz.prog BinOp.eql 130 (PV.agg (zAS (zBh n (List.take (cs.length-1) (cs.eraseIdx i++[(0,0)])) e.toNat) 80)) (PV.agg (zAS (zBh n cs e.toNat) 80))=some (PV.bool (decide (zBh n (List.take (cs.length-1) (cs.eraseIdx i++[(0,0)])) e.toNat=zBh n cs e.toNat)))) an)<|zAa<|zB3 (zBh n (List.take (cs.length-1) (cs.eraseIdx i++[(0,0)])) e.toNat=zBh n cs e.toNat) (fun k0=>(zAf<|zAd 3<|S_a [(4,.ob),(0,.ob),(0,.yes),(2,.v (PV.own 1 (List.map I (l++[(↑i:Int)]))))] (ap (blz (List.map I l))<|ap ((by exact zBi (by simp only [List.length_map,zzLn,zAY]<;>omega)):((List.map I l).length + [I (↑i:Int)].length).ble zAY=true)<|ap ((by exact zBu (by simp<;>omega)):(0+(List.map I l).length).beq (List.map I l).length=true)<|ap ((zAW (zCI (by kernel_rfl))):PV.own 1 (List.map I l++[I (↑i:Int)])=PV.own 1 (List.map I (l++[(↑i:Int)]))) an)<|zAd 1<|zAa<|zAf<|S_a [(1,.v (I (↑(i+1):Int)))] (ap (wrN i) an)<|zAd 1<|zAa ?_)) (fun k0=>(zAk<|zAf<|S_a [(1,.v (I (↑(i+1):Int)))] (ap (wrN i) an)<|zAd 1<|zAa ?_))
  ·rw [if_pos (decide_eq_true k0)] at yZ
   exact ⟨(i+1,l++[(i:Int)]),⟨by omega,yZ.symm⟩,by simp only;omega,by kernel_rfl,by kernel_rfl⟩
  ·rw [if_neg (by rw [decide_eq_true_eq];exact k0)] at yZ
   exact ⟨(i+1,l),⟨by omega,yZ.symm⟩,by simp only;omega,by kernel_rfl,by kernel_rfl⟩
 ·have e1:i=cs.length:=by omega
  subst e1
  rw [← hl]
  clear hl
  refine zAc 1<|zAa<|zAh<|zAT ((↑cs.length:Int)<(↑cs.length:Int)) (by omega)<|zAA 0<|zAc 1<|S_a [(2,.yes)] (ap ((by exact zBu (by simp<;>omega)):(Nat.beq 0 0&&(List.map I l).length.beq (List.map I l).length)=true) an)<|zAd 1<|zAa<|zAn<|E_a [(1,.yes),(1,.v (PV.own 1 (List.map I l)))] (ap (blz (List.map I l))<|ap ((zAW zAQ):PV.own 1 (List.take (List.map I l).length (List.drop 0 (List.map I l)))=PV.own 1 (List.map I l)) an) (PV.tup [PV.own 1 (List.map I l),I 0]) [] rfl rfl
theorem f46_2 (n:Nw) (cs:List (Int×Int)) (e:Int) (hs:Small n) (hl:cs.length<1000000) (ho:¬ zDj n cs e=0):FG 46 [nwV n,prs cs,I e] (.tup [.own 1 [],I (zDj n cs e)]):=by
 refine zAe Tryz.f46 ?_
 refine zAc 3<|zAa<|zAc 3<|S_a [(10,.ret (PV.tup [PV.nilp,I (zDj n cs e)]) [])] (ap (f90_2 n cs e (by omega) (by omega) (by omega)) an)<|zAd 5<|zAa<|zAh<|zAc 2<|zAa<|zD8 (zDj n cs e=0) (by omega)<|zAc 3<|zAa<|zAn<|E_a [] an (PV.tup [PV.own 1 [],I (zDj n cs e)]) [] rfl rfl
end Go.Eng
set_option maxRecDepth 10000
set_option maxHeartbeats 4000000
namespace Go.Eng
open Go Go.Proofs
theorem f47_1 (n:Nw) (cs:List (Int×Int)) (e:Int) (ho:EvOk n cs e):FG 47 [nwV n,prs cs,I e] (.tup [.own 1 ((zFv (zTS n cs e.toNat) cs.length).map I),I 0]):=by
 have hc:=ho.cr
 have vE:=hc.w
 have hn:=hc.nw
 have jv:=hn.small
 have yN:=hc.len
 have he:=ho.ev
 have yt:=ho.err
 have wJ:∃ w,RelK n (zFH n cs e.toNat) w:=⟨_,zHn vE _⟩
 refine zAe Tryz.f47 ?_
 refine zAc 3<|zAa<|zAh<|zAc 3<|S_a [(10,.ret (I (zDj n cs e)) [])] (ap (f93 n cs e (by omega) (by omega)) an)<|zAd 1<|zAa<|zAc 2<|zAa<|zHm (zDj n cs e=0) (by omega)<|zAk<|zAc 3<|S_a [(10,.ret (PV.own 1 (List.map lsB (zFH n cs e.toNat))) [])] (ap (f95 n cs e (by omega) (by omega)) an)<|zAd 1<|zAa<|zAc 1<|zAa<|zAh<|zAc 1<|zAa<|zAi 0 ?_
 refine zAq (fun (i,l)=>i≤cs.length∧l=zFv (zTS n cs e.toNat) i) (fun ((i:Nat),(l:List Int))=>[(10,.own 1 (l.map I)),(11,I (i:Nat))]) (fun (i,_)=>cs.length-i) ((0:Nat),([]:List Int)) ⟨Nat.zero_le _,by simp [zFv]⟩ fun (i,l) ⟨hi,hl⟩=>?_
 have w5:l.length≤i:=by rw [hl];exact zHe
 by_cases yI:i<cs.length
 ·have gd:cs.take i++(cs.drop (i+1)).take (cs.length-(i+1))=cs.eraseIdx i:=by rw [List.eraseIdx_eq_take_drop_succ,List.take_of_length_le (l:=cs.drop (i+1)) (by simp)]
  have wx:CrW n (cs.take i++(cs.drop (i+1)).take (cs.length-(i+1))):=by rw [gd];exact zTY vE i
  have hrl2:∃ w,RelK n (zFH n (cs.take i++(cs.drop (i+1)).take (cs.length-(i+1))) e.toNat) w:=⟨_,zHn wx _⟩
  have yZ:=zHw (p:=zTS n cs e.toNat) (k:=i)
  rw [← hl,show zTS n cs e.toNat i=zTC n (zFH n (cs.take i++(cs.drop (i+1)).take (cs.length-(i+1))) e.toNat) (zFH n cs e.toNat) by rw [zWc wx vE,gd];rfl] at yZ
  clear hl gd
  refine zAh<|zAc 2<|S_a [(0,.n cs.length)] (ap (lnS prV cs) an)<|zAd 1<|zAa<|zAU ((↑i:Int)<(↑cs.length:Int)) (by omega)<|zAk<|zAh<|zAi 1<|zAc 3<|S_a [(3,.ob),(0,.ob),(0,.v (prs (List.take i cs)))] (ap ((by exact zBi (by simp only [List.length_map,zzLn,zAY]<;>omega)):i.ble (List.map prV cs).length=true)<|ap ((by exact all_map _):((List.map prV cs).all fun x=>x.cells.length.beq ((fun x=>x.size) Tryz.prog.types[73]))=true)<|ap ((by simp):PV.sl (List.take i (List.drop 0 (List.map prV cs)))=prs (List.take i cs)) an)<|S_a [(0,.ob),(0,.ob),(0,.ob),(3,.ob)] (ap ((by exact all_map _):((List.map prV (List.take i cs)).all fun x=>x.plain)=true)<|ap ((by exact all_map _):((List.map prV (List.take i cs)).all fun y=>y.cells.length.beq ((fun x=>x.size) Tryz.prog.types[73])&&y.cells.all fun q=>q.oneCell)=true)<|ap ((by exact List.isEmpty_iff.2 (zG9 _)):(zBn (List.map prV (List.take i cs))).isEmpty=true)<|ap ((by exact zBi (by simp [zAY]<;>omega)):(0+(List.map prV (List.take i cs)).length).ble zAY=true) an)<|zAd 2<|S_a [(1,.v (I (↑(i+1):Int)))] (ap (wrN i) an)<|S_a [(2,.ob),(0,.ob),(0,.ob),(0,.v (prs (List.take (cs.length-(i+1)) (List.drop (i+1) cs))))] (ap ((by exact zBi (by simp only [List.length_map,zzLn,zAY]<;>omega)):(i+1).ble (List.map prV cs).length=true)<|ap ((by exact zBi (by simp only [List.length_map,zzLn,zAY]<;>omega)):(List.map prV cs).length.ble (List.map prV cs).length=true)<|ap ((by exact all_map _):((List.map prV cs).all fun x=>x.cells.length.beq ((fun x=>x.size) Tryz.prog.types[73]))=true)<|ap ((by simp):PV.sl (List.take ((List.map prV cs).length-(i+1)) (List.drop (i+1) (List.map prV cs)))=prs (List.take (cs.length-(i+1)) (List.drop (i+1) cs))) an)<|S_a [(0,.ob),(0,.ob),(0,.ob),(2,.ob),(0,.ob),(0,.yes),(2,.v (PV.own 2 (List.map prV (List.take i cs++List.take (cs.length-(i+1)) (List.drop (i+1) cs)))))] (ap ((by exact all_map _):((List.map prV (List.take (cs.length-(i+1)) (List.drop (i+1) cs))).all fun x=>x.plain)=true)<|ap ((by exact all_map _):((List.map prV (List.take (cs.length-(i+1)) (List.drop (i+1) cs))).all fun y=>y.cells.length.beq ((fun x=>x.size) Tryz.prog.types[73])&&y.cells.all fun q=>q.oneCell)=true)<|ap ((by exact List.isEmpty_iff.2 (zG9 _)):(zBn (List.map prV (List.take (cs.length-(i+1)) (List.drop (i+1) cs)))).isEmpty=true)<|ap (blz ([]++List.map prV (List.take i cs)))<|ap ((by exact zBi (by simp [zAY]<;>omega)):(([]++List.map prV (List.take i cs)).length+(List.map prV (List.take (cs.length-(i+1)) (List.drop (i+1) cs))).length).ble zAY=true)<|ap ((by exact zBu (by simp<;>omega)):(0+([]++List.map prV (List.take i cs)).length).beq ([]++List.map prV (List.take i cs)).length=true)<|ap ((by simp):PV.own 2 ([]++List.map prV (List.take i cs)++List.map prV (List.take (cs.length-(i+1)) (List.drop (i+1) cs)))=PV.own 2 (List.map prV (List.take i cs++List.take (cs.length-(i+1)) (List.drop (i+1) cs)))) an)<|zAd 1<|zAa<|zAc 4<|S_a [(5,.ob),(0,.v (prs (List.take i cs++List.take (cs.length-(i+1)) (List.drop (i+1) cs)))),(4,.ret (PV.own 1 (List.map lsB (zFH n (List.take i cs++List.take (cs.length-(i+1)) (List.drop (i+1) cs)) e.toNat))) []),(1,.yes)] (ap (blz (List.map prV (List.take i cs++List.take (cs.length-(i+1)) (List.drop (i+1) cs))))<|ap (frT prV (List.take i cs++List.take (cs.length-(i+1)) (List.drop (i+1) cs)))<|ap (f95 n (List.take i cs++List.take (cs.length-(i+1)) (List.drop (i+1) cs)) e (by omega) (by omega))<|ap (?_:(PV.own 1 (List.map lsB (zFH n (List.take i cs++List.take (cs.length-(i+1)) (List.drop (i+1) cs)) e.toNat))).free=true) an)<|zAd 1<|S_a [(5,.ob),(0,.v (PV.sl (List.map bls (zFH n (List.take i cs++List.take (cs.length-(i+1)) (List.drop (i+1) cs)) e.toNat)))),(1,.ob),(0,.v (PV.sl (List.map bls (zFH n cs e.toNat)))),(2,.ret (PV.bool (zTC n (zFH n (List.take i cs++List.take (cs.length-(i+1)) (List.drop (i+1) cs)) e.toNat) (zFH n cs e.toNat))) [])] (ap (blz (List.map lsB (zFH n (List.take i cs++List.take (cs.length-(i+1)) (List.drop (i+1) cs)) e.toNat)))<|ap (frC lsB bls (zFH n (List.take i cs++List.take (cs.length-(i+1)) (List.drop (i+1) cs)) e.toNat))<|ap (blz (List.map lsB (zFH n cs e.toNat)))<|ap (frC lsB bls (zFH n cs e.toNat))<|ap (f102 n (zFH n (List.take i cs++List.take (cs.length-(i+1)) (List.drop (i+1) cs)) e.toNat) (zFH n cs e.toNat) (by omega) (by omega) (by omega)) an)<|zAa<|zEb (zTC n (zFH n (List.take i cs++List.take (cs.length-(i+1)) (List.drop (i+1) cs)) e.toNat) (zFH n cs e.toNat)) (fun k0=>(zAf<|zAd 3<|S_a [(4,.ob),(0,.ob),(0,.yes),(2,.v (PV.own 1 (List.map I (l++[(↑i:Int)]))))] (ap (blz (List.map I l))<|ap ((by exact zBi (by simp only [List.length_map,zzLn,zAY]<;>omega)):((List.map I l).length + [I (↑i:Int)].length).ble zAY=true)<|ap ((by exact zBu (by simp<;>omega)):(0+(List.map I l).length).beq (List.map I l).length=true)<|ap ((zAW (zCI (by kernel_rfl))):PV.own 1 (List.map I l++[I (↑i:Int)])=PV.own 1 (List.map I (l++[(↑i:Int)]))) an)<|zAd 1<|zAa<|zAf<|zAd 1<|S_a [(1,.v (I (↑(i+1):Int)))] (ap (wrN i) an)<|zAd 1<|zAa ?_)) (fun k0=>(zAk<|zAf<|zAd 1<|S_a [(1,.v (I (↑(i+1):Int)))] (ap (wrN i) an)<|zAd 1<|zAa ?_))
  ·exact zKg _
  ·rw [if_pos k0] at yZ
   exact ⟨(i+1,l++[(i:Int)]),⟨by omega,yZ.symm⟩,by simp only;omega,by kernel_rfl,by kernel_rfl⟩
  ·rw [if_neg (by rw [k0];simp)] at yZ
   exact ⟨(i+1,l),⟨by omega,yZ.symm⟩,by simp only;omega,by kernel_rfl,by kernel_rfl⟩
 ·have e1:i=cs.length:=by omega
  subst e1
  rw [← hl]
  clear hl
  refine zAh<|zAc 2<|S_a [(0,.n cs.length)] (ap (lnS prV cs) an)<|zAd 1<|zAa<|zAT ((↑cs.length:Int)<(↑cs.length:Int)) (by omega)<|zAA 0<|zAc 1<|S_a [(2,.yes)] (ap ((by exact zBu (by simp<;>omega)):(Nat.beq 0 0&&(List.map I l).length.beq (List.map I l).length)=true) an)<|zAd 1<|zAa<|zAn<|E_a [(1,.yes),(1,.v (PV.own 1 (List.map I l)))] (ap (blz (List.map I l))<|ap ((zAW zAQ):PV.own 1 (List.take (List.map I l).length (List.drop 0 (List.map I l)))=PV.own 1 (List.map I l)) an) (PV.tup [PV.own 1 (List.map I l),I 0]) [] rfl rfl
theorem f47_2 (n:Nw) (cs:List (Int×Int)) (e:Int) (hs:Small n) (hl:cs.length<1000000) (ho:¬ zDj n cs e=0):FG 47 [nwV n,prs cs,I e] (.tup [.own 1 [],I (zDj n cs e)]):=by
 refine zAe Tryz.f47 ?_
 refine zAc 3<|zAa<|zAh<|zAc 3<|S_a [(10,.ret (I (zDj n cs e)) [])] (ap (f93 n cs e (by omega) (by omega)) an)<|zAd 1<|zAa<|zAc 2<|zAa<|zD8 (zDj n cs e=0) (by omega)<|zAc 3<|zAa<|zAn<|E_a [] an (PV.tup [PV.own 1 [],I (zDj n cs e)]) [] rfl rfl
end Go.Eng
set_option maxRecDepth 10000
set_option maxHeartbeats 4000000
namespace Go.Eng
open Go Go.Proofs
theorem zPS (n:Nw) (cs:List (Int×Int)) (e:Int) (hs:Small n) (hl:cs.length≤24):∃ (l:List Int) (x:Int),FG 46 [nwV n,prs cs,I e] (.tup [.own 1 (l.map I),I x])∧FG 47 [nwV n,prs cs,I e] (.tup [.own 1 (l.map I),I x])∧l.length≤80:=by
 by_cases kF:zDj n cs e=0
 ·have heo:=zSX kF
  exact ⟨_,_,f46_1 n cs e heo,f47_1 n cs e heo,Nat.le_trans zHe (by omega)⟩
 ·exact ⟨[],_,f46_2 n cs e hs (by omega) kF,f47_2 n cs e hs (by omega) kF,by simp⟩
theorem f6 (n:Nw) (cs:List (Int×Int)) (e:Int):FG 6 [nwV n,prs cs,I e] (.bool true):=by
 cases hg:zGh n cs with
 | true =>
  have vm:FG 16 [nwV n,prs cs] (.bool true):=hg▸f16 n cs
  refine zAe Tryz.f6 ?_
  refine zAc 2<|zAa<|zAh<|zAc 2<|S_a [(8,.ret (PV.bool true) [])] (ap vm an)<|zAa<|zBR<|zAh<|zAf<|S_a [(4,.ret (PV.bool true) [])] (ap f17 an)<|zAd 1<|zAa<|zAn<|E_a [] an (PV.bool true) [] rfl rfl
 | false =>
  have vm:FG 16 [nwV n,prs cs] (.bool false):=hg▸f16 n cs
  obtain ⟨yN,hs⟩:=zUN hg
  clear hg
  obtain ⟨G,x1,a1,b1,g1⟩:=zPS n cs e hs yN
  refine zAe Tryz.f6 ?_
  refine zAc 2<|zAa<|zAh<|zAc 2<|S_a [(8,.ret (PV.bool false) [])] (ap vm an)<|zAa<|zA0<|zAk<|zAc 1<|S_a [(6,.ret (nwO n) [])] (ap (f18 n (by omega)) an)<|zAd 1<|S_a [(6,.ret (PV.own 2 (List.map prV cs)) [])] (ap (f20 cs (by omega)) an)<|zAd 3<|zAa<|zAc 3<|S_a [(6,.ob),(0,.v (prs n.l)),(1,.ob),(0,.v (PV.sl (List.map ntV n.n))),(1,.ob),(0,.v (PV.sl (List.map zAR n.s))),(1,.ob),(0,.v (prs cs)),(4,.ret (PV.tup [PV.own 1 (List.map I G),I x1]) []),(1,.yes)] (ap (blz (List.map prV n.l))<|ap (frT prV n.l)<|ap (blz (List.map ntV n.n))<|ap (frT ntV n.n)<|ap (blz (List.map zEE n.s))<|ap (frC zEE zAR n.s)<|ap (blz (List.map prV cs))<|ap (frT prV cs)<|ap a1<|ap ((by exact zUb (zJG _) rfl):(PV.tup [PV.own 1 (List.map I G),I x1]).free=true) an)<|zAd 5<|zAa<|zAc 1<|S_a [(6,.ret (nwO n) [])] (ap (f19 n (by omega)) an)<|zAd 1<|S_a [(6,.ret (PV.own 2 (List.map prV cs)) [])] (ap (f21 cs (by omega)) an)<|zAd 1<|S_a [(6,.ob),(0,.v (prs n.l)),(1,.ob),(0,.v (PV.sl (List.map ntV n.n))),(1,.ob),(0,.v (PV.sl (List.map zAR n.s))),(1,.ob),(0,.v (prs cs)),(4,.ret (PV.tup [PV.own 1 (List.map I G),I x1]) []),(1,.yes)] (ap (blz (List.map prV n.l))<|ap (frT prV n.l)<|ap (blz (List.map ntV n.n))<|ap (frT ntV n.n)<|ap (blz (List.map zEE n.s))<|ap (frC zEE zAR n.s)<|ap (blz (List.map prV cs))<|ap (frT prV cs)<|ap b1<|ap ((by exact zUb (zJG _) rfl):(PV.tup [PV.own 1 (List.map I G),I x1]).free=true) an)<|zAd 5<|zAa<|zAc 4<|zIS 40 (x1=x1) (by omega) (zAd 2<|S_a [(3,.ob),(0,.v (zAR G)),(1,.ob),(0,.v (zAR G)),(2,.ret (PV.bool (decide (G=G))) [])] (ap (blz (List.map I G))<|ap (frT I G)<|ap (blz (List.map I G))<|ap (frT I G)<|ap (f28 G G (by omega)) an)<|zAd 2<|zIS 45 (G=G) (by (simp;done)) (zAd 2<|S_a [(6,.ob),(0,.v (prs n.l)),(1,.ob),(0,.v (PV.sl (List.map ntV n.n))),(1,.ob),(0,.v (PV.sl (List.map zAR n.s))),(4,.ret (PV.bool true) [])] (ap (blz (List.map prV n.l))<|ap (frT prV n.l)<|ap (blz (List.map ntV n.n))<|ap (frT ntV n.n)<|ap (blz (List.map zEE n.s))<|ap (frC zEE zAR n.s)<|ap (f33 n (by omega)) an)<|zAd 4<|S_a [(3,.ob),(0,.v (prs cs)),(4,.ret (PV.bool (decide (cs=cs))) [])] (ap (blz (List.map prV cs))<|ap (frT prV cs)<|ap (f34 cs cs (by omega)) an)<|zAd 2<|zIS 55 (cs=cs) (by (simp;done)) (S_a [(4,.ret (PV.bool true) [])] (ap f17 an)<|zAd 2<|zAa<|zAn<|E_a [] an (PV.bool true) [] rfl rfl)))
end Go.Eng
set_option maxRecDepth 100000
namespace Go.Proofs.YtppbomajegnkeaaGreat
open Go.ChangeShapes Go.WideShapes Go.ChangeAt Go.RowKit Go.Eng
theorem newsSpare_gives (ss:List (Bool×List Sh)) (wU:zEX Tryz.prog Tryz.f6.params.toList=some ss) (qs:List PV) (hq:zLk ss qs):@zAp (yo1 Tryz.prog zJX) Tryz.prog zJX 6 qs [] (.bool true) []:=by
 have he:zEX Tryz.prog Tryz.f6.params.toList=some [(true,[.num .i64,.list true [.num .i64,.num .i64],.list true [.num .i64,.bool],.list false [.list false [.num .i64]]]),(false,[.list true [.num .i64,.num .i64]]),(false,[.num .i64])]:=by kernel_rfl
 rw [he] at wU
 cases wU
 obtain ⟨p0,qs0,rfl,h0,hq0⟩:=hq
 obtain ⟨p1,qs1,rfl,h1,uI⟩:=hq0
 obtain ⟨p2,qs2,rfl,h2,ug⟩:=uI
 simp only [zLk] at ug
 subst ug
 obtain ⟨x0,rfl⟩:=zVB h0
 obtain ⟨x1,rfl⟩:=zSW h1
 obtain ⟨x2,rfl,b2⟩:=zWs h2
 simp only [IntKind.min,IntKind.max,IntKind.signed,IntKind.bits] at b2
 simp at b2
 exact f6 x0 x1 x2
theorem newsSpare_lifted (os:Os) (started:os.Started) (H:Type) (enc:TypeId×Value→H) :
  ReturnsInHanded {} Tryz.checked os 6 .any (Rows.newsSpareSpec.pre6 enc Tryz.prog Tryz.f6 Rows.newsSpareRow.domain false) (Rows.newsSpareSpec.post enc Tryz.prog Tryz.f6 false true false false):=by
 refine returnsInHanded_of_change (C:=Tryz.checked) Tryz.own started (by kernel_rfl) Tryz.func6
  (ChangeSpec.witness6 (enc:=enc) (C:=Tryz.checked) false ⟨#[],#[.agg #[.int .i64 0,.slice none 0 0,.slice none 0 0,.slice none 0 0],.slice none 0 0,.int .i64 0],[]⟩ 8 (by kernel_rfl) (by kernel_rfl) (by kernel_rfl) (by kernel_rfl)) ?_
 intro W base args ds gs before hval0 hW hcnd _
 obtain ⟨p,q,hA0,hV,_,_,_⟩:=id hW
 obtain ⟨rfl,rfl⟩:=trodVars_none hV
 obtain ⟨ss,wU⟩:∃ ss,zEX Tryz.prog Tryz.f6.params.toList=some ss:=Option.isSome_iff_exists.1 (by kernel_rfl)
 have hZ:ss.length≤1000:=by
  have h:((zEX Tryz.prog Tryz.f6.params.toList).map fun s=>Nat.ble s.length 1000)=some true:=by kernel_rfl
  rw [wU] at h
  simpa using h
 exact zUv zE4 hnm zMR hin Tryz.laidOut rfl Tryz.underlying4 (by kernel_rfl) (by kernel_rfl) (fun ds hd=>by match ds,hd with | [d0,d1,d2],_=>rfl) wU hZ (newsSpare_gives ss wU) hval0 hW
theorem newsSpare_holds:Rows.NewsSpareSaid :=
 OpenClaim.holds_of_wide 6 Tryz.f6 rfl rfl rfl rfl rfl rfl rfl ⟨rfl,rfl,rfl,rfl,rfl⟩ rfl rfl rfl rfl rfl (by kernel_rfl) Tryz.func6 (by kernel_rfl)
  (of_decide_eq_true (by kernel_rfl)) (by unfold Func.isWrapper;first | (rw [if_pos (by decide +kernel)];kernel_rfl) | (rw [if_neg (by decide +kernel)];exact ⟨rfl,rfl⟩))
  (fun os started H enc _=>newsSpare_lifted os started H enc)
end Go.Proofs.YtppbomajegnkeaaGreat
