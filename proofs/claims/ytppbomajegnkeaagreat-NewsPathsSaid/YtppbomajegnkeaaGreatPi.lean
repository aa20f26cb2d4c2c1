/- For whatever news, cries, yT, notice and list, the law NewsPaths returns true and changes no argument: the path that is returned is one, ends at the yT and has as few jC as can be, and whether a list is a path is told as the reference tells it. -/
import Derived.Test.YtppbomajegnkeaaGreatPh
import Derived.Test.YtppbomajegnkeaaGreatPd
import Derived.Test.YtppbomajegnkeaaGreatPe
set_option linter.unusedVariables false
set_option linter.unusedSimpArgs false
set_option linter.unusedSectionVars false
namespace Go.Eng
open Go Go.Proofs
def zDP (n:Nw):Int:=if zBt n.h n.l=0 then if zCC n.n=0 then if (!n.s.all fun x=>zIk n.h x)=true then 1 else if (!n.s.all fun x=>zDg x)=true then 4 else 0 else zCC n.n else zBt n.h n.l
theorem zVi {n:Nw} (h1:(!inB n.h 1 10)=false) (h2:¬ (n.l.length:Int)>15) (h3:(!inB n.n.length 1 8)=false) (h4:(!inB n.s.length 1 6)=false):zCW n=zDP n:=by
 simp only [zCW,h1,h2,h3,h4,if_false];rfl
theorem zJU {α:Type} {p:α→Bool} {l:List α} {i:Nat} {d:α} (h:i<l.length) (hx:p (l.getD i d)=false):(l.all p)=false:=by
 rw [zAt h] at hx
 simp only [List.all_eq_false]
 exact ⟨_,List.getElem_mem h,by simp [hx]⟩
theorem zKA {α:Type} {p:α→Bool} {l:List α} {d:α} (h:∀ i,i<l.length→p (l.getD i d)=true):(l.all p)=true:=by
 simp only [List.all_eq_true]
 intro x hx
 obtain ⟨i,hi,rfl⟩:=List.getElem_of_mem hx
 have:=h i hi
 rwa [zAt hi] at this
theorem zOF {n:Nw} {i:Nat} (hi:i<n.l.length) (h:zGJ n.h (n.l.getD i default)=false):zDP n=1:=by
 have:zBt n.h n.l=1:=by simp only [zBt,zJU hi h];rfl
 simp only [zDP,this];rfl
theorem zUu {n:Nw} {i:Nat} (ha:(n.l.all fun x=>zGJ n.h x)=true) (hi:i<n.l.length) (h:zHI (n.l.getD i default)=false):zDP n=8:=by
 have:zBt n.h n.l=8:=by simp only [zBt,ha,zJU hi h];rfl
 simp only [zDP,this];rfl
theorem zUq {n:Nw} {i k:Nat} (ha:(n.l.all fun x=>zGJ n.h x)=true) (hb:(n.l.all fun x=>zHI x)=true) (kE:k<i) (hi:i<n.l.length) (h:pr2 (n.l.getD i default)=pr2 (n.l.getD k default)):zDP n=5:=by
 have hn:¬ (n.l.map pr2).Nodup:=fun yX=>by
  have:=(List.pairwise_iff_getElem.1 yX) k i (by simp;omega) (by simp;omega) kE
  rw [List.getElem_map,List.getElem_map] at this
  rw [zAt hi,zAt (by omega)] at h
  exact this h.symm
 have:zBt n.h n.l=5:=by simp only [zBt,ha,hb,hn,if_true,if_false]
 simp only [zDP,this];rfl
theorem zVk {n:Nw} (ha:(n.l.all fun x=>zGJ n.h x)=true) (hb:(n.l.all fun x=>zHI x)=true) (h:∀ i,i<n.l.length→∀ k,k<i→pr2 (n.l.getD i default)≠pr2 (n.l.getD k default)):zBt n.h n.l=0:=by
 have hn:(n.l.map pr2).Nodup:=by
  refine List.pairwise_iff_getElem.2 fun k i h1 h2 kE=>?_
  simp only [List.length_map] at h1 h2
  have:=h i h2 k kE
  rw [zAt h2,zAt h1] at this
  simp only [List.getElem_map]
  exact fun e=>this e.symm
 simp only [zBt,ha,hb,hn,if_true]
theorem zUN {n:Nw} (hl:zBt n.h n.l=0) {i:Nat} (hi:i<n.n.length) (h:inB (n.n.getD i default).1 (-1) ((i:Int)-1)=false):zDP n=1:=by
 have:zNU n.n=false:=by
  simp only [zNU,List.all_eq_false]
  exact ⟨i,List.mem_range.2 hi,by rw [h];simp⟩
 have:zCC n.n=1:=by simp only [zCC,this];rfl
 simp only [zDP,hl,this];rfl
theorem zYW {n:Nw} (h:∀ i,i<n.n.length→inB (n.n.getD i default).1 (-1) ((i:Int)-1)=true):zNU n.n=true:=by
 simp only [zNU,List.all_eq_true,List.mem_range];exact h
theorem zTO {l:List (Int×Bool)} {i:Nat} (hi:i<l.length) (hr:inB (l.getD i default).1 (-1) ((i:Int)-1)=true):zLA l i=true↔∃ k,k<i∧0≤(l.getD i default).1∧(l.getD i default).1=(l.getD k default).1:=by
 have hr:=zCL hr
 simp only [zLA,Bool.and_eq_true,decide_eq_true_eq,List.any_eq_true]
 constructor
 ·rintro ⟨h1,x,h2,h3⟩
  obtain ⟨k,hk,rfl⟩:=List.getElem_of_mem h2
  rw [List.length_take] at hk
  refine ⟨k,by omega,by omega,?_⟩
  rw [zAt (l:=l) (i:=k) (by omega)]
  rw [List.getElem_take] at h3
  exact h3.symm
 ·rintro ⟨k,h1,h2,h3⟩
  refine ⟨by omega, (l.take i)[k]'(by rw [List.length_take]; omega), List.getElem_mem _, ?_⟩
  rw [List.getElem_take,h3,zAt (l:=l) (i:=k) (by omega)]
theorem zVe {n:Nw} (hl:zBt n.h n.l=0) (hn:zNU n.n=true) {i k:Nat} (kE:k<i) (hi:i<n.n.length) (h1:(n.n.getD i default).1≥0) (h2:(n.n.getD i default).1=(n.n.getD k default).1):zDP n=5:=by
 have hr:inB (n.n.getD i default).1 (-1) ((i:Int)-1)=true:=by
  simp only [zNU,List.all_eq_true,List.mem_range] at hn;exact hn i hi
 have:(List.range n.n.length).any (zLA n.n)=true:=List.any_eq_true.2 ⟨i,List.mem_range.2 hi,(zTO hi hr).2 ⟨k,kE,h1,h2⟩⟩
 have:zCC n.n=5:=by simp only [zCC,hn,this,if_true]
 simp only [zDP,hl,this];rfl
theorem zWk {n:Nw} (hn:zNU n.n=true) (h:∀ i,i<n.n.length→∀ k,k<i→¬ ((n.n.getD i default).1≥0∧(n.n.getD i default).1=(n.n.getD k default).1)):zCC n.n=0:=by
 have:(List.range n.n.length).any (zLA n.n)=false:=by
  simp only [List.any_eq_false,List.mem_range]
  intro i hi ht
  have hr:inB (n.n.getD i default).1 (-1) ((i:Int)-1)=true:=by
   simp only [zNU,List.all_eq_true,List.mem_range] at hn;exact hn i hi
  obtain ⟨k,h1,h2,h3⟩:=(zTO hi hr).1 ht
  exact h i hi k h1 ⟨h2,h3⟩
 simp only [zCC,hn,this,if_true];rfl
theorem zUn {n:Nw} (hl:zBt n.h n.l=0) (hn:zCC n.n=0) {s i:Nat} (hs:s<n.s.length) (hi:i<(n.s.getD s []).length) (h:inB ((n.s.getD s []).getD i 0) 0 (n.h-1)=false):zDP n=1:=by
 have:(n.s.all fun x=>zIk n.h x)=false:=zJU (d:=[]) hs (zJU (d:=0) hi h)
 simp only [zDP,hl,hn,this];rfl
theorem zVM {n:Nw} (hl:zBt n.h n.l=0) (hn:zCC n.n=0) (hs:(n.s.all fun x=>zIk n.h x)=true) {s i:Nat} (jh:s<n.s.length) (hi:i+1<(n.s.getD s []).length) (h:(n.s.getD s []).getD i 0≥(n.s.getD s []).getD (i+1) 0):zDP n=4:=by
 have h1:zDg (n.s.getD s [])=false:=by
  rw [zHC]
  simp only [zTC,List.all_eq_false,List.mem_range,decide_eq_true_eq]
  exact ⟨i,by omega,by omega⟩
 have:(n.s.all fun x=>zDg x)=false:=zJU (d:=[]) jh h1
 simp only [zDP,hl,hn,hs,this];rfl
theorem zW0 {l:List Int} (h:∀ i,i+1<l.length→l.getD i 0<l.getD (i+1) 0):zDg l=true:=by
 rw [zHC]
 simp only [zTC,List.all_eq_true,List.mem_range,decide_eq_true_eq]
 exact fun i hi=>h i (by omega)
theorem zWv {n:Nw} (hl:zBt n.h n.l=0) (hn:zCC n.n=0) (hs:(n.s.all fun x=>zIk n.h x)=true) (ho:(n.s.all fun x=>zDg x)=true):zDP n=0:=by
 simp only [zDP,hl,hn,hs,ho];rfl
end Go.Eng
set_option maxRecDepth 10000
set_option maxHeartbeats 4000000
namespace Go.Eng
open Go Go.Proofs
theorem ntt {a:Bool} (h:(!a)=true):a=false:=by simpa using h
theorem ntf {a:Bool} (h:(!a)=false):a=true:=by simpa using h
theorem zWy {a b:Int×Int} (h:a.1=b.1∧a.2=b.2∨a.1=b.2∧a.2=b.1):pr2 a=pr2 b:=by
 obtain ⟨x,y⟩:=b
 exact zO2.2 h
theorem zVH {a b:Int×Int} (h:¬ (a.1=b.1∧a.2=b.2∨a.1=b.2∧a.2=b.1)):pr2 a≠pr2 b:=by
 obtain ⟨x,y⟩:=b
 exact fun e=>h (zO2.1 e)
theorem zHJ {p:Nat→Prop} {i:Nat} (ha:∀ j,j<i→p j) (hi:p i):∀ j,j<i+1→p j:=fun j hj=>by
 rcases Nat.lt_succ_iff_lt_or_eq.1 hj with h | rfl
 ·exact ha j h
 ·exact hi
theorem f117 (n:Nw) (hs:Small n):FG 117 [nwV n] (I (zCW n)):=by
 refine zAg Tryz.f117 ?_
 have h1:=hs.hl
 have h2:=hs.hn
 have h3:=hs.hs
 refine zAd 2<|zAa<|zAf<|zAd 2<|S_a [(10,.ret (PV.bool !inB n.h 1 10) [])] (ap (f111 n.h (1) (10)) an)<|zAc 1<|zCn 19 (!inB n.h 1 10) (fun k0=>(zAc 17<|zAa<|zA8<|zAd 1<|zAa<|zAm<|E_a [] an (I 2) [] ?_ rfl)) (fun k0=>(zAc 2<|S_a [(0,.n n.l.length)] (ap (lnS prV n.l) an)<|zAc 3<|zD5 25 ((↑n.l.length:Int)>15) (fun k1=>(zAc 11<|zAa<|zA8<|zAd 1<|zAa<|zAm<|E_a [] an (I 2) [] ?_ rfl)) (fun k1=>(zAc 2<|S_a [(0,.n n.n.length)] (ap (lnS ntV n.n) an)<|S_a [(10,.ret (PV.bool !inB (↑n.n.length:Int) 1 8) [])] (ap (f111 ((↑n.n.length:Int)) (1) (8)) an)<|zAc 2<|zCn 31 (!inB (↑n.n.length:Int) 1 8) (fun k2=>(zAc 5<|zAa<|zA8<|zAd 1<|zAa<|zAm<|E_a [] an (I 2) [] ?_ rfl)) (fun k2=>(zAc 2<|S_a [(0,.n n.s.length)] (ap (lnS zAB n.s) an)<|S_a [(10,.ret (PV.bool !inB (↑n.s.length:Int) 1 6) [])] (ap (f111 ((↑n.s.length:Int)) (1) (6)) an)<|zAc 1<|zAa<|zDt (!inB (↑n.s.length:Int) 1 6) (fun k3=>(zAd 1<|zAa<|zAm<|E_a [] an (I 2) [] ?_ rfl)) (fun k3=>(zAk<|zAf<|zAd 1<|zAa<|zAi 0 ?_))))))))
 ·simp only [zCW,k0,if_true]
 ·simp only [zCW,k0,k1,if_true];rfl
 ·simp only [zCW,k0,k1,k2,if_true,if_false];rfl
 ·simp only [zCW,k0,k1,k2,k3,if_true,if_false];rfl
 rw [zVi k0 k1 k2 k3]
 have hh:=zCL (ntf k0)
 have jo:=zCL (ntf k2)
 clear k0 k1 k2 k3
 refine zAq (fun i=>i≤n.l.length∧∀ j,j<i→zGJ n.h (n.l.getD j default)=true) (fun (i:Nat)=>[(3,I (i:Nat))]) (fun i=>n.l.length-i) (0:Nat) ⟨Nat.zero_le _,fun j hj=>absurd hj (Nat.not_lt_zero j)⟩ fun i ⟨hi,ha⟩=>?_
 by_cases yH:i<n.l.length
 ·have j1:=zHJ ha
  clear ha
  refine zAf<|zAd 3<|S_a [(0,.n n.l.length)] (ap (lnS prV n.l) an)<|zAc 1<|zAa<|zAI ((↑i:Int)<(↑n.l.length:Int)) (by omega)<|zAk<|zAf<|zAi 1<|zAd 3<|S_a [(2,.v (PV.agg [I (n.l.getD i default).fst,I (n.l.getD i default).snd]))] (ap (zBv default (by omega):(List.map prV n.l)[i]? = some (PV.agg [I (n.l.getD i default).fst,I (n.l.getD i default).snd])) an)<|zAc 4<|S_a [(1,.v (I (n.h-1)))] (ap ((zCj rfl (by omega)):I (IntKind.i64.wrap (n.h-1))=I (n.h-1)) an)<|S_a [(10,.ret (PV.bool !inB (n.l.getD i default).fst 0 (n.h-1)) [])] (ap (f111 ((n.l.getD i default).fst) (0) (n.h-1)) an)<|zAc 1<|zCn 54 (!inB (n.l.getD i default).fst 0 (n.h-1)) (fun k0=>(zAc 11<|zAa<|zA8<|zAd 1<|zAa<|zAm<|E_a [] an (I 1) [] ?_ rfl)) (fun k0=>(zAc 3<|S_a [(2,.v (PV.agg [I (n.l.getD i default).fst,I (n.l.getD i default).snd]))] (ap (zBv default (by omega):(List.map prV n.l)[i]? = some (PV.agg [I (n.l.getD i default).fst,I (n.l.getD i default).snd])) an)<|zAc 4<|S_a [(1,.v (I (n.h-1)))] (ap ((zCj rfl (by omega)):I (IntKind.i64.wrap (n.h-1))=I (n.h-1)) an)<|S_a [(10,.ret (PV.bool !inB (n.l.getD i default).snd 0 (n.h-1)) [])] (ap (f111 ((n.l.getD i default).snd) (0) (n.h-1)) an)<|zAc 1<|zAa<|zDt (!inB (n.l.getD i default).snd 0 (n.h-1)) (fun k1=>(zAd 1<|zAa<|zAm<|E_a [] an (I 1) [] ?_ rfl)) (fun k1=>(zAk<|zAe<|zAc 1<|S_a [(1,.v (I (↑(i+1):Int)))] (ap (wrN i) an)<|zAc 1<|zAa ?_))))
  ·rw [zOF yH (by simp only [zGJ,ntt k0,Bool.false_and])]
  ·rw [zOF yH (by simp only [zGJ,ntt k1,Bool.and_false])]
  ·exact ⟨i+1,⟨by omega,j1 (by simp only [zGJ,ntf k0,ntf k1,Bool.true_and])⟩,by omega,by kernel_rfl,by kernel_rfl⟩
 have hA:(n.l.all fun x=>zGJ n.h x)=true:=zKA fun i hi=>ha i (by omega)
 clear ha
 refine zAf<|zAd 3<|S_a [(0,.n n.l.length)] (ap (lnS prV n.l) an)<|zAc 1<|zAa<|zAQ ((↑i:Int)<(↑n.l.length:Int)) (by omega)<|zAA 0<|zAf<|zAd 1<|zAa<|zAi 2 ?_
 refine zAq (fun i=>i≤n.l.length∧∀ j,j<i→zHI (n.l.getD j default)=true) (fun (i:Nat)=>[(4,I (i:Nat))]) (fun i=>n.l.length-i) (0:Nat) ⟨Nat.zero_le _,fun j hj=>absurd hj (Nat.not_lt_zero j)⟩ fun i ⟨hi,ha⟩=>?_
 by_cases yH:i<n.l.length
 ·have j1:=zHJ ha
  clear ha
  refine zAf<|zAd 3<|S_a [(0,.n n.l.length)] (ap (lnS prV n.l) an)<|zAc 1<|zAa<|zAI ((↑i:Int)<(↑n.l.length:Int)) (by omega)<|zAk<|zAf<|zAi 3<|zAd 3<|S_a [(2,.v (PV.agg [I (n.l.getD i default).fst,I (n.l.getD i default).snd]))] (ap (zBv default (by omega):(List.map prV n.l)[i]? = some (PV.agg [I (n.l.getD i default).fst,I (n.l.getD i default).snd])) an)<|zAc 5<|S_a [(2,.v (PV.agg [I (n.l.getD i default).fst,I (n.l.getD i default).snd]))] (ap (zBv default (by omega):(List.map prV n.l)[i]? = some (PV.agg [I (n.l.getD i default).fst,I (n.l.getD i default).snd])) an)<|zAc 3<|zAa<|zCd ((n.l.getD i default).fst=(n.l.getD i default).snd) (fun k0=>(zAd 1<|zAa<|zAm<|E_a [] an (I 8) [] ?_ rfl)) (fun k0=>(zAk<|zAe<|zAc 1<|S_a [(1,.v (I (↑(i+1):Int)))] (ap (wrN i) an)<|zAc 1<|zAa ?_))
  ·rw [zUu hA yH (by simp only [zHI,decide_eq_false_iff_not];exact fun h=>h k0)]
  ·exact ⟨i+1,⟨by omega,j1 (by simp only [zHI,decide_eq_true_eq];exact k0)⟩,by omega,by kernel_rfl,by kernel_rfl⟩
 have hB:(n.l.all fun x=>zHI x)=true:=zKA fun i hi=>ha i (by omega)
 clear ha
 refine zAf<|zAd 3<|S_a [(0,.n n.l.length)] (ap (lnS prV n.l) an)<|zAc 1<|zAa<|zAQ ((↑i:Int)<(↑n.l.length:Int)) (by omega)<|zAA 2<|zAf<|zAd 1<|zAa<|zAi 4 ?_
 refine zAq (fun i=>i≤n.l.length∧∀ j,j<i→∀ k,k<j→pr2 (n.l.getD j default)≠pr2 (n.l.getD k default)) (fun (i:Nat)=>[(5,I (i:Nat))]) (fun i=>n.l.length-i) (0:Nat) ⟨Nat.zero_le _,fun j hj=>absurd hj (Nat.not_lt_zero j)⟩ fun i ⟨hi,ha⟩=>?_
 by_cases yH:i<n.l.length
 ·have j1:=zHJ ha
  clear ha
  refine zAf<|zAd 3<|S_a [(0,.n n.l.length)] (ap (lnS prV n.l) an)<|zAc 1<|zAa<|zAI ((↑i:Int)<(↑n.l.length:Int)) (by omega)<|zAk<|zAf<|zAi 5<|zAd 1<|zAa<|zAi 6 ?_
  refine zAq (fun k=>k≤i∧∀ j,j<k→pr2 (n.l.getD i default)≠pr2 (n.l.getD j default)) (fun (k:Nat)=>[(6,I (k:Nat))]) (fun k=>i-k) (0:Nat) ⟨Nat.zero_le _,fun j hj=>absurd hj (Nat.not_lt_zero j)⟩ fun k ⟨hk,hb⟩=>?_
  by_cases kE:k<i
  ·have uh:=zHJ hb
   clear hb j1
   refine zAf<|zAd 3<|zAa<|zAI ((↑k:Int)<(↑i:Int)) (by omega)<|zAk<|zAf<|zAi 7<|zAd 3<|S_a [(2,.v (PV.agg [I (n.l.getD i default).fst,I (n.l.getD i default).snd]))] (ap (zBv default (by omega):(List.map prV n.l)[i]? = some (PV.agg [I (n.l.getD i default).fst,I (n.l.getD i default).snd])) an)<|zAc 4<|S_a [(2,.v (PV.agg [I (n.l.getD k default).fst,I (n.l.getD k default).snd]))] (ap (zBv default (by omega):(List.map prV n.l)[k]? = some (PV.agg [I (n.l.getD k default).fst,I (n.l.getD k default).snd])) an)<|zAc 5<|zAa<|zAd 1<|zAc 1<|zAc 1<|zAc 3<|zD5 113 ((n.l.getD i default).fst=(n.l.getD k default).fst) (fun k1=>(zAc 1<|zAc 1<|zAc 1<|zAc 4<|zD5 120 ((n.l.getD i default).snd=(n.l.getD k default).snd) (fun k2=>(zAc 13<|zAa<|zA8<|zAd 1<|zAa<|zAm<|E_a [] an (I 5) [] ?_ rfl)) (fun k2=>(zAc 1<|zAc 1<|zAc 1<|zAc 3<|zD5 126 ((n.l.getD i default).fst=(n.l.getD k default).snd) (fun k3=>(zAc 1<|zAc 1<|zAc 1<|zAc 4<|zAa<|zAQ ((n.l.getD i default).snd=(n.l.getD k default).fst) (by omega)<|zAk<|zAe<|zAc 1<|S_a [(1,.v (I (↑(k+1):Int)))] (ap (wrN k) an)<|zAc 1<|zAa ?_)) (fun k3=>(zAc 7<|zAa<|zAw<|zAk<|zAe<|zAc 1<|S_a [(1,.v (I (↑(k+1):Int)))] (ap (wrN k) an)<|zAc 1<|zAa ?_)))))) (fun k1=>(zAc 7<|zAc 1<|zAc 1<|zAc 1<|zAc 3<|zD5 126 ((n.l.getD i default).fst=(n.l.getD k default).snd) (fun k4=>(zAc 1<|zAc 1<|zAc 1<|zAc 4<|zAa<|zCd ((n.l.getD i default).snd=(n.l.getD k default).fst) (fun k5=>(zAd 1<|zAa<|zAm<|E_a [] an (I 5) [] ?_ rfl)) (fun k5=>(zAk<|zAe<|zAc 1<|S_a [(1,.v (I (↑(k+1):Int)))] (ap (wrN k) an)<|zAc 1<|zAa ?_)))) (fun k4=>(zAc 7<|zAa<|zAw<|zAk<|zAe<|zAc 1<|S_a [(1,.v (I (↑(k+1):Int)))] (ap (wrN k) an)<|zAc 1<|zAa ?_))))
   all_goals first
    | exact ⟨k+1,⟨by omega,uh (zVH (by omega))⟩,by omega,by kernel_rfl,by kernel_rfl⟩
    | (have h5:=zUq hA hB kE yH (zWy (by omega));rw [h5])
  ·have ya:=j1 fun j hj=>hb j (by omega)
   clear hb j1
   refine zAf<|zAd 3<|zAa<|zAQ ((↑k:Int)<(↑i:Int)) (by omega)<|zAA 6<|zAe<|zAc 1<|S_a [(1,.v (I (↑(i+1):Int)))] (ap (wrN i) an)<|zAc 1<|zAa ?_
   exact ⟨i+1,⟨by omega,ya⟩,by omega,by kernel_rfl,by kernel_rfl⟩
 have hC:=zVk hA hB fun i hi=>ha i (by omega)
 clear ha hA hB
 refine zAf<|zAd 3<|S_a [(0,.n n.l.length)] (ap (lnS prV n.l) an)<|zAc 1<|zAa<|zAQ ((↑i:Int)<(↑n.l.length:Int)) (by omega)<|zAA 4<|zAf<|zAd 1<|zAa<|zAi 8 ?_
 refine zAq (fun i=>i≤n.n.length∧∀ j,j<i→inB (n.n.getD j default).1 (-1) ((j:Int)-1)=true) (fun (i:Nat)=>[(9,I (i:Nat))]) (fun i=>n.n.length-i) (0:Nat) ⟨Nat.zero_le _,fun j hj=>absurd hj (Nat.not_lt_zero j)⟩ fun i ⟨hi,ha⟩=>?_
 by_cases yH:i<n.n.length
 ·have j1:=zHJ ha
  clear ha
  refine zAf<|zAd 3<|S_a [(0,.n n.n.length)] (ap (lnS ntV n.n) an)<|zAc 1<|zAa<|zAI ((↑i:Int)<(↑n.n.length:Int)) (by omega)<|zAk<|zAf<|zAi 9<|zAd 3<|S_a [(2,.v (PV.agg [I (n.n.getD i default).fst,PV.bool (n.n.getD i default).snd]))] (ap (zBv default (by omega):(List.map ntV n.n)[i]? = some (PV.agg [I (n.n.getD i default).fst,PV.bool (n.n.getD i default).snd])) an)<|zAc 3<|S_a [(1,.v (I ((↑i:Int)-1)))] (ap ((zCj rfl (by omega)):I (IntKind.i64.wrap ((↑i:Int)-1))=I ((↑i:Int)-1)) an)<|S_a [(10,.ret (PV.bool !inB (n.n.getD i default).fst (-1) ((↑i:Int)-1)) [])] (ap (f111 ((n.n.getD i default).fst) (-1) ((↑i:Int)-1)) an)<|zAa<|zDt (!inB (n.n.getD i default).fst (-1) ((↑i:Int)-1)) (fun k0=>(zAd 1<|zAa<|zAm<|E_a [] an (I 1) [] ?_ rfl)) (fun k0=>(zAk<|zAe<|zAc 1<|S_a [(1,.v (I (↑(i+1):Int)))] (ap (wrN i) an)<|zAc 1<|zAa ?_))
  ·rw [zUN hC yH (ntt k0)]
  ·exact ⟨i+1,⟨by omega,j1 (ntf k0)⟩,by omega,by kernel_rfl,by kernel_rfl⟩
 have hD:=zYW (n:=n) fun i hi=>ha i (by omega)
 clear ha
 refine zAf<|zAd 3<|S_a [(0,.n n.n.length)] (ap (lnS ntV n.n) an)<|zAc 1<|zAa<|zAQ ((↑i:Int)<(↑n.n.length:Int)) (by omega)<|zAA 8<|zAf<|zAd 1<|zAa<|zAi 10 ?_
 refine zAq (fun i=>i≤n.n.length∧∀ j,j<i→∀ k,k<j→¬ ((n.n.getD j default).1≥0∧(n.n.getD j default).1=(n.n.getD k default).1)) (fun (i:Nat)=>[(10,I (i:Nat))]) (fun i=>n.n.length-i) (0:Nat) ⟨Nat.zero_le _,fun j hj=>absurd hj (Nat.not_lt_zero j)⟩ fun i ⟨hi,ha⟩=>?_
 by_cases yH:i<n.n.length
 ·have j1:=zHJ ha
  clear ha
  refine zAf<|zAd 3<|S_a [(0,.n n.n.length)] (ap (lnS ntV n.n) an)<|zAc 1<|zAa<|zAI ((↑i:Int)<(↑n.n.length:Int)) (by omega)<|zAk<|zAf<|zAi 11<|zAd 1<|zAa<|zAi 12 ?_
  refine zAq (fun k=>k≤i∧∀ j,j<k→¬ ((n.n.getD i default).1≥0∧(n.n.getD i default).1=(n.n.getD j default).1)) (fun (k:Nat)=>[(11,I (k:Nat))]) (fun k=>i-k) (0:Nat) ⟨Nat.zero_le _,fun j hj=>absurd hj (Nat.not_lt_zero j)⟩ fun k ⟨hk,hb⟩=>?_
  by_cases kE:k<i
  ·have uh:=zHJ hb
   clear hb j1
   refine zAf<|zAd 3<|zAa<|zAI ((↑k:Int)<(↑i:Int)) (by omega)<|zAk<|zAf<|zAi 13<|zAd 3<|S_a [(2,.v (PV.agg [I (n.n.getD i default).fst,PV.bool (n.n.getD i default).snd]))] (ap (zBv default (by omega):(List.map ntV n.n)[i]? = some (PV.agg [I (n.n.getD i default).fst,PV.bool (n.n.getD i default).snd])) an)<|zAc 4<|zD5 169 ((n.n.getD i default).fst≥0) (fun k1=>(zAc 3<|S_a [(2,.v (PV.agg [I (n.n.getD i default).fst,PV.bool (n.n.getD i default).snd]))] (ap (zBv default (by omega):(List.map ntV n.n)[i]? = some (PV.agg [I (n.n.getD i default).fst,PV.bool (n.n.getD i default).snd])) an)<|zAc 5<|S_a [(2,.v (PV.agg [I (n.n.getD k default).fst,PV.bool (n.n.getD k default).snd]))] (ap (zBv default (by omega):(List.map ntV n.n)[k]? = some (PV.agg [I (n.n.getD k default).fst,PV.bool (n.n.getD k default).snd])) an)<|zAc 4<|zAa<|zCd ((n.n.getD i default).fst=(n.n.getD k default).fst) (fun k2=>(zAd 1<|zAa<|zAm<|E_a [] an (I 5) [] ?_ rfl)) (fun k2=>(zAk<|zAe<|zAc 1<|S_a [(1,.v (I (↑(k+1):Int)))] (ap (wrN k) an)<|zAc 1<|zAa ?_)))) (fun k1=>(zAc 14<|zAa<|zAw<|zAk<|zAe<|zAc 1<|S_a [(1,.v (I (↑(k+1):Int)))] (ap (wrN k) an)<|zAc 1<|zAa ?_))
   all_goals first
    | exact ⟨k+1,⟨by omega,uh (by omega)⟩,by omega,by kernel_rfl,by kernel_rfl⟩
    | (have h5:=zVe hC hD kE yH (by assumption) (by assumption);rw [h5])
  ·have ya:=j1 fun j hj=>hb j (by omega)
   clear hb j1
   refine zAf<|zAd 3<|zAa<|zAQ ((↑k:Int)<(↑i:Int)) (by omega)<|zAA 12<|zAe<|zAc 1<|S_a [(1,.v (I (↑(i+1):Int)))] (ap (wrN i) an)<|zAc 1<|zAa ?_
   exact ⟨i+1,⟨by omega,ya⟩,by omega,by kernel_rfl,by kernel_rfl⟩
 have hE:=zWk hD fun i hi=>ha i (by omega)
 clear ha
 refine zAf<|zAd 3<|S_a [(0,.n n.n.length)] (ap (lnS ntV n.n) an)<|zAc 1<|zAa<|zAQ ((↑i:Int)<(↑n.n.length:Int)) (by omega)<|zAA 10<|zAf<|zAd 1<|zAa<|zAi 14 ?_
 refine zAq (fun s=>s≤n.s.length∧∀ j,j<s→zIk n.h (n.s.getD j [])=true) (fun (s:Nat)=>[(12,I (s:Nat))]) (fun s=>n.s.length-s) (0:Nat) ⟨Nat.zero_le _,fun j hj=>absurd hj (Nat.not_lt_zero j)⟩ fun s ⟨hi,ha⟩=>?_
 by_cases yH:s<n.s.length
 ·have j1:=zHJ ha
  have ue:=zBB (d:=[]) hs.hr s yH
  clear ha
  refine zAf<|zAd 3<|S_a [(0,.n n.s.length)] (ap (lnS zAB n.s) an)<|zAc 1<|zAa<|zAI ((↑s:Int)<(↑n.s.length:Int)) (by omega)<|zAk<|zAf<|zAi 15<|zAd 1<|zAa<|zAi 16 ?_
  refine zAq (fun k=>k≤(n.s.getD s []).length∧∀ j,j<k→inB ((n.s.getD s []).getD j 0) 0 (n.h-1)=true) (fun (k:Nat)=>[(13,I (k:Nat))]) (fun k=>(n.s.getD s []).length-k) (0:Nat) ⟨Nat.zero_le _,fun j hj=>absurd hj (Nat.not_lt_zero j)⟩ fun k ⟨hk,hb⟩=>?_
  by_cases kE:k<(n.s.getD s []).length
  ·have uh:=zHJ hb
   clear hb j1
   refine zAf<|zAd 4<|S_a [(2,.v (zAB (n.s.getD s [])))] (ap (zBv [] (by omega):(List.map zAB n.s)[s]? = some (zAB (n.s.getD s []))) an)<|zAc 1<|S_a [(0,.n ((n.s.getD s []).length))] (ap (lnS I (n.s.getD s [])) an)<|zAc 1<|zAa<|zAI ((↑k:Int)<(↑(n.s.getD s []).length:Int)) (by omega)<|zAk<|zAf<|zAi 17<|zAd 3<|S_a [(2,.v (zAB (n.s.getD s [])))] (ap (zBv [] (by omega):(List.map zAB n.s)[s]? = some (zAB (n.s.getD s []))) an)<|zAc 2<|S_a [(2,.v (I ((n.s.getD s []).getD k 0)))] (ap (zBv (0) (by omega):(List.map I (n.s.getD s []))[k]? = some (I ((n.s.getD s []).getD k 0))) an)<|zAc 3<|S_a [(1,.v (I (n.h-1)))] (ap ((zCj rfl (by omega)):I (IntKind.i64.wrap (n.h-1))=I (n.h-1)) an)<|S_a [(10,.ret (PV.bool !inB ((n.s.getD s []).getD k 0) 0 (n.h-1)) [])] (ap (f111 ((n.s.getD s []).getD k 0) (0) (n.h-1)) an)<|zAa<|zDt (!inB ((n.s.getD s []).getD k 0) 0 (n.h-1)) (fun k1=>(zAd 1<|zAa<|zAm<|E_a [] an (I 1) [] ?_ rfl)) (fun k1=>(zAk<|zAe<|zAc 1<|S_a [(1,.v (I (↑(k+1):Int)))] (ap (wrN k) an)<|zAc 1<|zAa ?_))
   ·rw [zUn hC hE yH kE (ntt k1)]
   ·exact ⟨k+1,⟨by omega,uh (ntf k1)⟩,by omega,by kernel_rfl,by kernel_rfl⟩
  ·have ya:=j1 (zKA (d:=0) fun j hj=>hb j (by omega))
   clear hb j1
   refine zAf<|zAd 4<|S_a [(2,.v (zAB (n.s.getD s [])))] (ap (zBv [] (by omega):(List.map zAB n.s)[s]? = some (zAB (n.s.getD s []))) an)<|zAc 1<|S_a [(0,.n ((n.s.getD s []).length))] (ap (lnS I (n.s.getD s [])) an)<|zAc 1<|zAa<|zAQ ((↑k:Int)<(↑(n.s.getD s []).length:Int)) (by omega)<|zAA 16<|zAe<|zAc 1<|S_a [(1,.v (I (↑(s+1):Int)))] (ap (wrN s) an)<|zAc 1<|zAa ?_
   exact ⟨s+1,⟨by omega,ya⟩,by omega,by kernel_rfl,by kernel_rfl⟩
 have hF:(n.s.all fun x=>zIk n.h x)=true:=zKA (d:=[]) fun i hi=>ha i (by omega)
 clear ha
 refine zAf<|zAd 3<|S_a [(0,.n n.s.length)] (ap (lnS zAB n.s) an)<|zAc 1<|zAa<|zAQ ((↑s:Int)<(↑n.s.length:Int)) (by omega)<|zAA 14<|zAf<|zAd 1<|zAa<|zAi 18 ?_
 refine zAq (fun s=>s≤n.s.length∧∀ j,j<s→zDg (n.s.getD j [])=true) (fun (s:Nat)=>[(14,I (s:Nat))]) (fun s=>n.s.length-s) (0:Nat) ⟨Nat.zero_le _,fun j hj=>absurd hj (Nat.not_lt_zero j)⟩ fun s ⟨hi,ha⟩=>?_
 by_cases yH:s<n.s.length
 ·have j1:=zHJ ha
  have ue:=zBB (d:=[]) hs.hr s yH
  clear ha
  refine zAf<|zAd 3<|S_a [(0,.n n.s.length)] (ap (lnS zAB n.s) an)<|zAc 1<|zAa<|zAI ((↑s:Int)<(↑n.s.length:Int)) (by omega)<|zAk<|zAf<|zAi 19<|zAd 1<|zAa<|zAi 20 ?_
  refine zAq (fun m=>(m=0∨m+1≤(n.s.getD s []).length)∧∀ j,j<m→(n.s.getD s []).getD j 0<(n.s.getD s []).getD (j+1) 0) (fun (m:Nat)=>[(15,I ((m+1:Nat):Int))]) (fun m=>(n.s.getD s []).length-m) (0:Nat) ⟨.inl rfl,fun j hj=>absurd hj (Nat.not_lt_zero j)⟩ fun m ⟨hk,hb⟩=>?_
  by_cases kE:m+1<(n.s.getD s []).length
  ·have uh:=zHJ hb
   clear hb j1
   refine zAf<|zAd 4<|S_a [(2,.v (zAB (n.s.getD s [])))] (ap (zBv [] (by omega):(List.map zAB n.s)[s]? = some (zAB (n.s.getD s []))) an)<|zAc 1<|S_a [(0,.n ((n.s.getD s []).length))] (ap (lnS I (n.s.getD s [])) an)<|zAc 1<|zAa<|zAI ((↑(m+1):Int)<(↑(n.s.getD s []).length:Int)) (by omega)<|zAk<|zAf<|zAi 21<|zAd 3<|S_a [(2,.v (zAB (n.s.getD s [])))] (ap (zBv [] (by omega):(List.map zAB n.s)[s]? = some (zAB (n.s.getD s []))) an)<|zAc 2<|S_a [(1,.v (I (↑(m+1-1):Int)))] (ap ((zCj (by omega) (by omega)):I (IntKind.i64.wrap ((↑(m+1):Int)-1))=I (↑(m+1-1):Int)) an)<|S_a [(2,.v (I ((n.s.getD s []).getD m 0)))] (ap (zBv (0) (by omega):(List.map I (n.s.getD s []))[m]? = some (I ((n.s.getD s []).getD m 0))) an)<|zAc 4<|S_a [(2,.v (zAB (n.s.getD s [])))] (ap (zBv [] (by omega):(List.map zAB n.s)[s]? = some (zAB (n.s.getD s []))) an)<|zAc 2<|S_a [(2,.v (I ((n.s.getD s []).getD (m+1) 0)))] (ap (zBv (0) (by omega):(List.map I (n.s.getD s []))[m+1]? = some (I ((n.s.getD s []).getD (m+1) 0))) an)<|zAc 2<|zAa<|zCd ((n.s.getD s []).getD m 0≥(n.s.getD s []).getD (m+1) 0) (fun k0=>(zAd 1<|zAa<|zAm<|E_a [] an (I 4) [] ?_ rfl)) (fun k0=>(zAk<|zAe<|zAc 1<|S_a [(1,.v (I (↑(m+1+1):Int)))] (ap ((zCj (by omega) (by omega)):I (IntKind.i64.wrap ((↑(m+1):Int)+1))=I (↑(m+1+1):Int)) an)<|zAc 1<|zAa ?_))
   ·rw [zVM hC hE hF yH kE k0]
   ·exact ⟨m+1,⟨.inr (by omega),uh (by omega)⟩,by omega,by kernel_rfl,by kernel_rfl⟩
  ·have ya:=j1 (zW0 fun j hj=>hb j (by omega))
   clear hb j1
   refine zAf<|zAd 4<|S_a [(2,.v (zAB (n.s.getD s [])))] (ap (zBv [] (by omega):(List.map zAB n.s)[s]? = some (zAB (n.s.getD s []))) an)<|zAc 1<|S_a [(0,.n ((n.s.getD s []).length))] (ap (lnS I (n.s.getD s [])) an)<|zAc 1<|zAa<|zAQ ((↑(m+1):Int)<(↑(n.s.getD s []).length:Int)) (by omega)<|zAA 20<|zAe<|zAc 1<|S_a [(1,.v (I (↑(s+1):Int)))] (ap (wrN s) an)<|zAc 1<|zAa ?_
   exact ⟨s+1,⟨by omega,ya⟩,by omega,by kernel_rfl,by kernel_rfl⟩
 have hG:(n.s.all fun x=>zDg x)=true:=zKA (d:=[]) fun i hi=>ha i (by omega)
 have hR:=zWv hC hE hF hG
 clear ha
 refine zAf<|zAd 3<|S_a [(0,.n n.s.length)] (ap (lnS zAB n.s) an)<|zAc 1<|zAa<|zAQ ((↑s:Int)<(↑n.s.length:Int)) (by omega)<|zAA 18<|zAd 1<|zAa<|zAm<|E_a [] an (I 0) [] (by simp [*]) rfl
end Go.Eng
set_option maxRecDepth 10000
set_option maxHeartbeats 4000000
namespace Go.Eng
open Go Go.Proofs
theorem f39 (n:Nw) (cs:List (Int×Int)) (hs:Small n) (hl:cs.length<1000000):FG 39 [nwV n,prs cs] (I (zBm n cs)):=by
 have h2:=hs.hn
 have h3:=hs.hs
 refine zAg Tryz.f39 ?_
 by_cases he:zCW n=0
 ·have hn:=zSQ he
  refine zAd 2<|zAa<|zAf<|zAd 1<|S_a [(6,.ret (I (zCW n)) [])] (ap (f117 n (by omega)) an)<|zAc 1<|zAa<|zAd 2<|zAa<|zFL (zCW n=0) (by omega)<|zAk<|zAf<|zAd 1<|S_a [(0,.n cs.length)] (ap (lnS prV cs) an)<|zAc 1<|zAa<|zCd ((↑cs.length:Int)>16) (fun k0=>(zAd 1<|zAa<|zAm<|E_a [] an (I 2) [] ?_ rfl)) (fun k0=>(zAk<|zAf<|zAd 1<|zAa<|zAi 0 ?_))
  ·simp only [zBm,he,k0,if_true]
  have hx:zBm n cs=if (!cs.all fun c=>zGH n c)=true then 1 else 0:=by simp only [zBm,he,k0,if_true,if_false]
  rw [hx]
  refine zAq (fun i=>i≤cs.length∧∀ j,j<i→zGH n (cs.getD j default)=true) (fun (i:Nat)=>[(6,I (i:Nat))]) (fun i=>cs.length-i) (0:Nat) ⟨Nat.zero_le _,fun j hj=>absurd hj (Nat.not_lt_zero j)⟩ fun i ⟨hi,ha⟩=>?_
  by_cases yH:i<cs.length
  ·have j1:=zHJ ha
   clear ha
   refine zAf<|zAd 2<|S_a [(0,.n cs.length)] (ap (lnS prV cs) an)<|zAc 1<|zAa<|zAI ((↑i:Int)<(↑cs.length:Int)) (by omega)<|zAk<|zAf<|zAi 1<|zAd 2<|S_a [(2,.v (PV.agg [I (cs.getD i default).fst,I (cs.getD i default).snd]))] (ap (zBv default (by omega):(List.map prV cs)[i]? = some (PV.agg [I (cs.getD i default).fst,I (cs.getD i default).snd])) an)<|zAc 4<|S_a [(0,.n n.n.length)] (ap (lnS ntV n.n) an)<|S_a [(1,.v (I ((↑n.n.length:Int)-1)))] (ap ((zCj rfl (by omega)):I (IntKind.i64.wrap ((↑n.n.length:Int)-1))=I ((↑n.n.length:Int)-1)) an)<|S_a [(10,.ret (PV.bool !inB (cs.getD i default).fst 0 ((↑n.n.length:Int)-1)) [])] (ap (f111 ((cs.getD i default).fst) (0) ((↑n.n.length:Int)-1)) an)<|zAc 1<|zCn 31 (!inB (cs.getD i default).fst 0 ((↑n.n.length:Int)-1)) (fun k1=>(zAc 11<|zAa<|zA8<|zAd 1<|zAa<|zAm<|E_a [] an (I 1) [] ?_ rfl)) (fun k1=>(zAc 2<|S_a [(2,.v (PV.agg [I (cs.getD i default).fst,I (cs.getD i default).snd]))] (ap (zBv default (by omega):(List.map prV cs)[i]? = some (PV.agg [I (cs.getD i default).fst,I (cs.getD i default).snd])) an)<|zAc 4<|S_a [(0,.n n.s.length)] (ap (lnS zAB n.s) an)<|S_a [(1,.v (I ((↑n.s.length:Int)-1)))] (ap ((zCj rfl (by omega)):I (IntKind.i64.wrap ((↑n.s.length:Int)-1))=I ((↑n.s.length:Int)-1)) an)<|S_a [(10,.ret (PV.bool !inB (cs.getD i default).snd 0 ((↑n.s.length:Int)-1)) [])] (ap (f111 ((cs.getD i default).snd) (0) ((↑n.s.length:Int)-1)) an)<|zAc 1<|zAa<|zDt (!inB (cs.getD i default).snd 0 ((↑n.s.length:Int)-1)) (fun k2=>(zAd 1<|zAa<|zAm<|E_a [] an (I 1) [] ?_ rfl)) (fun k2=>(zAk<|zAe<|zAc 1<|S_a [(1,.v (I (↑(i+1):Int)))] (ap (wrN i) an)<|zAc 1<|zAa ?_))))
   ·rw [zJU (d:=default) yH (by simp only [zGH,ntt k1,Bool.false_and])];rfl
   ·rw [zJU (d:=default) yH (by simp only [zGH,ntt k2,Bool.and_false])];rfl
   ·exact ⟨i+1,⟨by omega,j1 (by simp only [zGH,ntf k1,ntf k2,Bool.true_and])⟩,by omega,by kernel_rfl,by kernel_rfl⟩
  have hA:(cs.all fun c=>zGH n c)=true:=zKA fun i hi=>ha i (by omega)
  clear ha
  rw [hA]
  refine zAf<|zAd 2<|S_a [(0,.n cs.length)] (ap (lnS prV cs) an)<|zAc 1<|zAa<|zAQ ((↑i:Int)<(↑cs.length:Int)) (by omega)<|zAA 0<|zAd 1<|zAa<|zAm<|E_a [] an (I 0) [] rfl rfl
 ·refine zAd 2<|zAa<|zAf<|zAd 1<|S_a [(6,.ret (I (zCW n)) [])] (ap (f117 n (by omega)) an)<|zAc 1<|zAa<|zAd 2<|zAa<|zEy (zCW n=0) (by omega)<|zAd 2<|zAa<|zAm<|E_a [] an (I (zCW n)) [] ?_ rfl
  simp only [zBm,he,if_false]
end Go.Eng
set_option maxRecDepth 10000
set_option maxHeartbeats 4000000
namespace Go.Eng
open Go Go.Proofs
end Go.Eng
namespace Go.Eng
open Go Go.Proofs
theorem zR1 {n:Nw} {a b:Int}:zDq n a b=zDq n b a:=by
 unfold zDq
 have:pr2 (a,b)=pr2 (b,a):=by
  simp only [pr2,Prod.mk.injEq]
  constructor
  ·repeat' split
   all_goals omega
  ·repeat' split
   all_goals omega
 rw [this]
structure BkOk (n:Nw) (cs:List (Int×Int)) (c:Nat) (x:Int) (m:Nat) (out:List Int):Prop where
 pos:0<out.length
 rng:∀ i,i<out.length→0≤out.getD i 0∧out.getD i 0<n.h
 at_:∀ i,i<out.length→(zAY n cs (m+i)).getD ((out.getD i 0).toNat*8+c) 0=x
 nb:∀ i,i+1<out.length→zDq n (out.getD i 0) (out.getD (i+1) 0)=true
 no:∀ m',m=m'+1→(zAY n cs m').getD ((out.getD 0 0).toNat*8+c) 0≠x
theorem zVb {n:Nw} {cs:List (Int×Int)} {c:Nat} {x:Int} (ho:NwOk n) (hc:c<8) {m:Nat} {out:List Int} (hb:BkOk n cs c x (m+1) out):∃ o:Nat,((zGG n (out.getD 0 0).toNat n.h.toNat).find? fun o=>decide ((zAY n cs m).getD (o*8+c) 0=x))=some o∧BkOk n cs c x m ((o:Int)::out):=by
 have hr:=hb.rng 0 hb.pos
 have ha:=hb.at_ 0 hb.pos
 have jJ:=hb.no m rfl
 generalize hd:(out.getD 0 0).toNat=d at *
 have hdl:d<n.h.toNat:=by omega
 have vH:=zTq (n:=n) (cs:=cs) ho (e:=m) (k:=m+1) (d*8+c) (by omega)
 have hge:=fun v:Int=>zQf ho (zB5 (n:=n) (cs:=cs) m) hdl hc (v:=v)
 rw [Nat.add_zero] at ha
 have wy:∃ o∈zGG n d n.h.toNat,decide ((zAY n cs m).getD (o*8+c) 0=x)=true:=by
  rcases (hge x).1 (Int.le_of_eq ha.symm) with h1 | ⟨o,h1,h2⟩
  ·rw [ha] at vH;exact absurd (Int.le_antisymm vH h1) jJ
  ·refine ⟨o,h1,decide_eq_true ?_⟩
   have h3:=(hge ((zAY n cs m).getD (o*8+c) 0)).2 (.inr ⟨o,h1,Int.le_refl _⟩)
   have h4:(zCF n (zAY n cs m)).getD (d*8+c) 0=x:=ha
   rw [h4] at h3
   exact Int.le_antisymm h3 h2
 obtain ⟨o,hf⟩:=Option.isSome_iff_exists.1 (List.find?_isSome.2 wy)
 have hp:=List.find?_some hf
 have hm:=List.mem_of_find?_eq_some hf
 obtain ⟨hm1,uk⟩:=List.mem_filter.1 hm
 have hol:=List.mem_range.1 hm1
 have hax:(zAY n cs m).getD (o*8+c) 0=x:=of_decide_eq_true hp
 refine ⟨o,hf,by simp,fun i hi=>?_,fun i hi=>?_,fun i hi=>?_,fun m' hm'=>?_⟩
 ·cases i with
  | zero=>simp only [List.getD_cons_zero];omega
  | succ i=>simpa using hb.rng i (by simpa using hi)
 ·cases i with
  | zero=>simpa using hax
  | succ i =>
   have:=hb.at_ i (by simpa using hi)
   rw [show m+1+i=m+(i+1) by omega] at this
   simpa using this
 ·cases i with
  | zero =>
   simp only [List.getD_cons_zero,List.getD_cons_succ]
   rw [zR1,← uk];congr 1;omega
  | succ i=>simpa using hb.nb i (by simpa using hi)
 ·subst hm'
  simp only [List.getD_cons_zero,Int.toNat_natCast]
  intro he
  have h1:=(zQf ho (zB5 (n:=n) (cs:=cs) m') hdl hc (v:=x)).2 (.inr ⟨o,hm,Int.le_of_eq he.symm⟩)
  have h2:x≤(zAY n cs (m'+1)).getD (d*8+c) 0:=h1
  rw [ha] at vH
  exact jJ (Int.le_antisymm vH h2)
theorem zWQ {n:Nw} {cs:List (Int×Int)} {c:Nat} {x:Int} (ho:NwOk n) (hc:c<8):∀ m {out:List Int},BkOk n cs c x m out→BkOk n cs c x 0 (bkL n cs c x m out)∧(bkL n cs c x m out).length=m+out.length∧(bkL n cs c x m out).getLast? = out.getLast?
 | 0,out,hb=>⟨hb,by simp [bkL],rfl⟩
 | m+1,out,hb=>by
  obtain ⟨o,hf,jW⟩:=zVb ho hc hb
  have h1:=hb.pos
  rw [bkL,hf]
  obtain ⟨h2,h3,h4⟩:=zWQ ho hc m jW
  refine ⟨h2,by rw [h3,List.length_cons];omega,?_⟩
  rw [h4]
  cases out with
  | nil=>cases h1
  | cons a l=>rw [List.getLast?_cons_cons]
theorem zUI {n:Nw} {cs:List (Int×Int)} {h x:Int} {k:Nat} (ho:NwOk n) (hh:0≤h∧h<n.h) (hx:0≤x∧x<n.n.length) (hk:k≤12) (jB:(zAY n cs k).getD (h.toNat*8+((zAj n).getD x.toNat 0).toNat) 0=x) (hm:∀ j,j<k→(zAY n cs j).getD (h.toNat*8+((zAj n).getD x.toNat 0).toNat) 0≠x) :
  psB n cs (bkL n cs ((zAj n).getD x.toNat 0).toNat x k [h]) x=true∧(bkL n cs ((zAj n).getD x.toNat 0).toNat x k [h]).length=k+1∧(bkL n cs ((zAj n).getD x.toNat 0).toNat x k [h]).getLast? = some h:=by
 have h8:=ho.nl.2
 have hf:=zBX ho x.toNat (by omega)
 have yM:∀ i,i < [h].length→i=0:=fun i hi=>by simpa using hi
 have wv:BkOk n cs ((zAj n).getD x.toNat 0).toNat x k [h]:=by
  refine ⟨by simp,fun i hi=>?_,fun i hi=>?_,fun i hi=>?_,fun m' hm'=>?_⟩
  ·rw [yM i hi];simpa using hh
  ·rw [yM i hi];simpa using jB
  ·simp at hi
  ·exact hm m' (by omega)
 obtain ⟨h1,h2,h3⟩:=zWQ ho (by omega) k wv
 refine ⟨?_,h2,by rw [h3];rfl⟩
 generalize bkL n cs ((zAj n).getD x.toNat 0).toNat x k [h]=R at *
 simp only [List.length_cons,List.length_nil] at h2
 simp only [psB,Bool.and_eq_true,List.all_eq_true,List.mem_range,inB,decide_eq_true_eq,zMc,Bool.or_eq_true]
 refine ⟨⟨by omega,fun y hy=>?_⟩,fun i hi=>⟨?_,?_⟩⟩
 ·obtain ⟨i,hi,rfl⟩:=List.getElem_of_mem hy
  have:=h1.rng i hi
  rw [zAt hi] at this
  omega
 ·have:=h1.at_ i hi
  rwa [Nat.zero_add] at this
 ·cases i with
  | zero=>exact .inl rfl
  | succ i=>exact .inr (h1.nb i hi)
def psK (n:Nw) (cs:List (Int×Int)) (l:List Int) (x:Int) (i:Nat):Bool:=inB (l.getD i 0) 0 (n.h-1)&&(zHo n (zP2 n cs i) (l.getD i 0).toNat x.toNat&&(decide (i=0)||zDq n (l.getD (i-1) 0) (l.getD i 0)))
def psR (n:Nw) (cs:List (Int×Int)) (l:List Int) (x:Int):Bool:=inB l.length 1 13&&(List.range l.length).all (psK n cs l x)
theorem zYf {n:Nw} {cs:List (Int×Int)} {l:List Int} {x:Int} (ho:CrW n cs) (hx:0≤x∧x<n.n.length):psR n cs l x=psB n cs l x:=by
 unfold psR psB
 rw [Bool.and_assoc]
 congr 1
 have hk:∀ i,inB (l.getD i 0) 0 (n.h-1)=true→zHo n (zP2 n cs i) (l.getD i 0).toNat x.toNat=decide ((zAY n cs i).getD ((l.getD i 0).toNat*8+((zAj n).getD x.toNat 0).toNat) 0=x):=fun i hi=>by
  have h1:=zCL hi
  rw [zQ4 ho.nw (zHB ho i) (by omega) (by omega),hld]
  rw [Int.toNat_of_nonneg hx.1]
 rw [Bool.eq_iff_iff]
 simp only [Bool.and_eq_true,List.all_eq_true,List.mem_range]
 constructor
 ·intro h
  refine ⟨fun y hy=>?_,fun i hi=>?_⟩
  ·obtain ⟨i,hi,rfl⟩:=List.getElem_of_mem hy
   have h1:=h i hi
   simp only [psK,Bool.and_eq_true] at h1
   have:=h1.1
   rwa [zAt hi] at this
  ·have h1:=h i hi
   simp only [psK,Bool.and_eq_true] at h1
   have h2:=hk i h1.1
   rw [h1.2.1] at h2
   simp only [zMc,Bool.and_eq_true]
   exact ⟨h2.symm,h1.2.2⟩
 ·rintro ⟨h1,h2⟩ i hi
  have h3:=zBB (d:=(0:Int)) h1 i hi
  have h4:=h2 i hi
  simp only [zMc,Bool.and_eq_true] at h4
  simp only [psK,Bool.and_eq_true]
  exact ⟨h3,by rw [hk i h3];exact h4.1,h4.2⟩
end Go.Eng
set_option maxRecDepth 10000
set_option maxHeartbeats 4000000
namespace Go.Eng
open Go Go.Proofs
end Go.Eng
set_option maxRecDepth 10000
set_option maxHeartbeats 4000000
namespace Go.Eng
open Go Go.Proofs
theorem zQT {n:Nw} {cs:List (Int×Int)} (ho:CrW n cs) (e:Nat) {h i:Nat} (hh:h<n.h.toNat) (hi:i<n.n.length):zHo n (zP2 n cs e) h i=decide ((zAY n cs e).getD (h*8+((zAj n).getD i 0).toNat) 0=i):=zQ4 ho.nw (zHB ho e) hh hi
theorem f40_1 (n:Nw) (cs:List (Int×Int)) (h:Int) (x:Int) (k:Nat) (ho:CrW n cs) (hh:0≤h∧h<n.h) (hx:0≤x∧x<n.n.length) (hk:k≤12) (jB:(zAY n cs k).getD (h.toNat*8+((zAj n).getD x.toNat 0).toNat) 0=x) (hm:∀ j,j<k→(zAY n cs j).getD (h.toNat*8+((zAj n).getD x.toNat 0).toNat) 0≠x):FG 40 [nwV n,prs cs,I h,I x] (I k):=by
 have hn:=ho.nw
 obtain ⟨a,rfl⟩:∃ a:Nat,h=a:=⟨h.toNat,by omega⟩
 obtain ⟨b,rfl⟩:∃ b:Nat,x=b:=⟨x.toNat,by omega⟩
 simp only [Int.toNat_natCast] at jB hm
 refine zAg Tryz.f40 ?_
 refine zAd 2<|zAa<|zAd 2<|S_a [(8,.ret (PV.own 1 (List.map lsB (zLC n cs n.h.toNat))) [])] (ap (f112 n cs (by omega)) an)<|zAc 1<|zAa<|zAf<|zAd 1<|zAa<|zAi 0 ?_
 refine zAq (fun (i,K)=>i≤k∧K=zP2 n cs i) (fun ((i:Nat),(K:List (List Bool)))=>[(9,.own 1 (K.map lsB)),(10,I (i:Nat))]) (fun (i,_)=>k-i) ((0:Nat),zLC n cs n.h.toNat) ⟨Nat.zero_le _,rfl⟩ fun (i,K) ⟨hi,hK⟩=>?_
 have ue:∃ w,RelK n K w:=⟨_,hK▸zHB ho i⟩
 have kf:K.length=n.h.toNat:=by obtain ⟨_,h⟩:=ue;exact h.len
 have hld:=zQT ho i (h:=a) (i:=b) (by omega) (by omega)
 rw [← hK] at hld
 have ya:zEk n K=zP2 n cs (i+1):=by rw [hK];rfl
 by_cases vG:i<k
 ·have h0:zHo n K a b=false:=by rw [hld,decide_eq_false_iff_not];exact hm i vG
  clear hK hm jB hld
  refine zAf<|zAd 2<|zAa<|zAI ((↑i:Int)≤12) (by omega)<|zAk<|zAf<|zAi 1<|zAf<|zAd 4<|S_a [(5,.ob),(0,.v (PV.sl (List.map bls K))),(6,.ret (PV.bool (zHo n K a b)) [])] (ap (blz (List.map lsB K))<|ap (frC lsB bls K)<|ap (f113 n K a b (by omega) (by omega) (by first | omega | (simp<;>omega)) (by first | omega | (simp<;>omega))) an)<|zAa<|zDt (zHo n K a b) (fun k1=>(zAd 2<|zAa<|zAm<|E_a [] an (I (↑i:Int)) [] ?_ rfl)) (fun k1=>(zAk<|zAe<|zAc 2<|S_a [(5,.ob),(0,.v (PV.sl (List.map bls K))),(2,.ret (PV.own 1 (List.map lsB (zEk n K))) []),(1,.yes)] (ap (blz (List.map lsB K))<|ap (frC lsB bls K)<|ap (f115 n K (by omega) (by omega))<|ap (?_:(PV.own 1 (List.map lsB (zEk n K))).free=true) an)<|zAc 1<|zAa<|zAe<|zAc 1<|S_a [(1,.v (I (↑(i+1):Int)))] (ap (wrN i) an)<|zAc 1<|zAa ?_))
  ·rw [h0] at k1;cases k1
  ·exact zF5 _
  ·exact ⟨(i+1,zEk n K),⟨by omega,ya⟩,by simp only;omega,by kernel_rfl,by kernel_rfl⟩
 ·have e:i=k:=by omega
  subst e
  have h0:zHo n K a b=true:=by rw [hld,decide_eq_true_eq];exact jB
  clear hK hm jB hld
  refine zAf<|zAd 2<|zAa<|zAI ((↑i:Int)≤12) (by omega)<|zAk<|zAf<|zAi 1<|zAf<|zAd 4<|S_a [(5,.ob),(0,.v (PV.sl (List.map bls K))),(6,.ret (PV.bool (zHo n K a b)) [])] (ap (blz (List.map lsB K))<|ap (frC lsB bls K)<|ap (f113 n K a b (by omega) (by omega) (by first | omega | (simp<;>omega)) (by first | omega | (simp<;>omega))) an)<|zAa<|zDt (zHo n K a b) (fun k0=>(zAd 2<|zAa<|zAm<|E_a [] an (I (↑i:Int)) [] rfl rfl)) (fun k0=>(zAk<|zAe<|zAc 2<|S_a [(5,.ob),(0,.v (PV.sl (List.map bls K))),(2,.ret (PV.own 1 (List.map lsB (zEk n K))) []),(1,.yes)] (ap (blz (List.map lsB K))<|ap (frC lsB bls K)<|ap (f115 n K (by omega) (by omega))<|ap (?_:(PV.own 1 (List.map lsB (zEk n K))).free=true) an)<|zAc 1<|zAa<|zAe<|zAc 1<|S_a [(1,.v (I (↑(i+1):Int)))] (ap (wrN i) an)<|zAc 1<|zAa ?_))
  all_goals (rw [h0] at k0;cases k0)
theorem f40_2 (n:Nw) (cs:List (Int×Int)) (h:Int) (x:Int) (ho:CrW n cs) (hh:0≤h∧h<n.h) (hx:0≤x∧x<n.n.length) (hm:∀ j,j≤12→(zAY n cs j).getD (h.toNat*8+((zAj n).getD x.toNat 0).toNat) 0≠x):FG 40 [nwV n,prs cs,I h,I x] (I (-1)):=by
 have hn:=ho.nw
 obtain ⟨a,rfl⟩:∃ a:Nat,h=a:=⟨h.toNat,by omega⟩
 obtain ⟨b,rfl⟩:∃ b:Nat,x=b:=⟨x.toNat,by omega⟩
 simp only [Int.toNat_natCast] at hm
 refine zAg Tryz.f40 ?_
 refine zAd 2<|zAa<|zAd 2<|S_a [(8,.ret (PV.own 1 (List.map lsB (zLC n cs n.h.toNat))) [])] (ap (f112 n cs (by omega)) an)<|zAc 1<|zAa<|zAf<|zAd 1<|zAa<|zAi 0 ?_
 refine zAq (fun (i,K)=>i≤13∧K=zP2 n cs i) (fun ((i:Nat),(K:List (List Bool)))=>[(9,.own 1 (K.map lsB)),(10,I (i:Nat))]) (fun (i,_)=>13-i) ((0:Nat),zLC n cs n.h.toNat) ⟨Nat.zero_le _,rfl⟩ fun (i,K) ⟨hi,hK⟩=>?_
 have ue:∃ w,RelK n K w:=⟨_,hK▸zHB ho i⟩
 have kf:K.length=n.h.toNat:=by obtain ⟨_,h⟩:=ue;exact h.len
 have hld:=zQT ho i (h:=a) (i:=b) (by omega) (by omega)
 rw [← hK] at hld
 have ya:zEk n K=zP2 n cs (i+1):=by rw [hK];rfl
 by_cases vG:i<13
 ·have h0:zHo n K a b=false:=by rw [hld,decide_eq_false_iff_not];exact hm i (by omega)
  clear hK hm hld
  refine zAf<|zAd 2<|zAa<|zAI ((↑i:Int)≤12) (by omega)<|zAk<|zAf<|zAi 1<|zAf<|zAd 4<|S_a [(5,.ob),(0,.v (PV.sl (List.map bls K))),(6,.ret (PV.bool (zHo n K a b)) [])] (ap (blz (List.map lsB K))<|ap (frC lsB bls K)<|ap (f113 n K a b (by omega) (by omega) (by first | omega | (simp<;>omega)) (by first | omega | (simp<;>omega))) an)<|zAa<|zDt (zHo n K a b) (fun k0=>(zAd 2<|zAa<|zAm<|E_a [] an (I (↑i:Int)) [] ?_ rfl)) (fun k0=>(zAk<|zAe<|zAc 2<|S_a [(5,.ob),(0,.v (PV.sl (List.map bls K))),(2,.ret (PV.own 1 (List.map lsB (zEk n K))) []),(1,.yes)] (ap (blz (List.map lsB K))<|ap (frC lsB bls K)<|ap (f115 n K (by omega) (by omega))<|ap (?_:(PV.own 1 (List.map lsB (zEk n K))).free=true) an)<|zAc 1<|zAa<|zAe<|zAc 1<|S_a [(1,.v (I (↑(i+1):Int)))] (ap (wrN i) an)<|zAc 1<|zAa ?_))
  ·rw [h0] at k0;cases k0
  ·exact zF5 _
  ·exact ⟨(i+1,zEk n K),⟨by omega,ya⟩,by simp only;omega,by kernel_rfl,by kernel_rfl⟩
 ·clear hK hm hld
  refine zAf<|zAd 2<|zAa<|zAQ ((↑i:Int)≤12) (by omega)<|zAA 0<|zAd 1<|zAa<|zAm<|E_a [] an (I (-1)) [] rfl rfl
theorem f37_1 (n:Nw) (cs:List (Int×Int)) (l:List Int) (x:Int) (ho:CrOk n cs) (hl:l.length<1000000) (hx:0≤x∧x<n.n.length):FG 37 [nwV n,prs cs,zAB l,I x] (.tup [.bool (psB n cs l x),I 0]):=by
 have uV:=ho.w
 have hn:=ho.nw
 have jp:=hn.small
 have jA:=ho.err
 have hX:=ho.len
 have hb:=hn.h
 have jo:=hn.nl
 obtain ⟨b,rfl⟩:∃ b:Nat,x=b:=⟨x.toNat,by omega⟩
 have qg:inB (b:Int) 0 ((n.n.length-1:Nat):Int)=true:=by simp only [inB,Bool.and_eq_true,decide_eq_true_eq];omega
 rw [← zYf uV hx]
 refine zAg Tryz.f37 ?_
 refine zAd 3<|zAa<|zAf<|zAd 2<|S_a [(8,.ret (I (zBm n cs)) [])] (ap (f39 n cs (by omega) (by omega)) an)<|zAc 1<|zAa<|zAd 2<|zAa<|zFL (zBm n cs=0) (by omega)<|zAk<|zAf<|zAd 3<|S_a [(0,.n n.n.length)] (ap (lnS ntV n.n) an)<|S_a [(1,.v (I (↑(n.n.length-1):Int)))] (ap ((zCj (by omega) (by omega)):I (IntKind.i64.wrap ((↑n.n.length:Int)-1))=I (↑(n.n.length-1):Int)) an)<|S_a [(10,.ret (PV.bool !inB (↑b:Int) 0 (↑(n.n.length-1):Int)) [])] (ap (f111 ((↑b:Int)) (0) ((↑(n.n.length-1):Int))) an)<|zAa<|zDt (!inB (↑b:Int) 0 (↑(n.n.length-1):Int)) (fun k0=>(zAd 2<|zAa<|zAm<|E_a [] an (PV.tup [PV.bool false,I 1]) [] ?_ rfl)) (fun k0=>(zAk<|zAf<|zAd 1<|S_a [(0,.n l.length)] (ap (lnS I l) an)<|S_a [(10,.ret (PV.bool !inB (↑l.length:Int) 1 13) [])] (ap (f111 ((↑l.length:Int)) (1) (13)) an)<|zAa<|zDt (!inB (↑l.length:Int) 1 13) (fun k1=>(zAd 2<|zAa<|zAm<|E_a [] an (PV.tup [PV.bool false,I 0]) [] ?_ rfl)) (fun k1=>(zAk<|zAd 2<|S_a [(8,.ret (PV.own 1 (List.map lsB (zLC n cs n.h.toNat))) [])] (ap (f112 n cs (by omega)) an)<|zAc 1<|zAa<|zAf<|zAd 1<|zAa<|zAi 0 ?_))))
 ·rw [qg] at k0;cases k0
 ·simp only [psR,ntt k1,Bool.false_and]
 have hl13:=zCL (ntf k1)
 have y5:psR n cs l b=(List.range l.length).all (psK n cs l b):=by simp only [psR,ntf k1,Bool.true_and]
 rw [y5]
 clear y5 k0 k1
 refine zAq (fun (i,K)=>i≤l.length∧K=zP2 n cs i∧∀ j,j<i→psK n cs l b j=true) (fun ((i:Nat),(K:List (List Bool)))=>[(11,.own 1 (K.map lsB)),(12,I (i:Nat))]) (fun (i,_)=>l.length-i) ((0:Nat),zLC n cs n.h.toNat) ⟨Nat.zero_le _,rfl,fun j hj=>absurd hj (Nat.not_lt_zero j)⟩ fun (i,K) ⟨hi,hK,ha⟩=>?_
 have ue:∃ w,RelK n K w:=⟨_,hK▸zHB uV i⟩
 have kf:K.length=n.h.toNat:=by obtain ⟨_,h⟩:=ue;exact h.len
 have ya:zEk n K=zP2 n cs (i+1):=by rw [hK];rfl
 by_cases yH:i<l.length
 ·have j1:=zHJ ha
  have LB:psK n cs l b i=(inB (l.getD i 0) 0 (n.h-1)&&(zHo n K (l.getD i 0).toNat b&&(decide (i=0)||zDq n (l.getD (i-1) 0) (l.getD i 0)))):=by rw [hK];rfl
  have jJ:psK n cs l b i=false→(List.range l.length).all (psK n cs l b)=false:=fun h=>List.all_eq_false.2 ⟨i,List.mem_range.2 yH,by rw [h];simp⟩
  clear ha hK
  by_cases hin:inB (l.getD i 0) 0 (n.h-1)=true
  ·have hr:=zCL hin
   obtain ⟨a,hai⟩:∃ a:Nat,l.getD i 0=a:=⟨(l.getD i 0).toNat,by omega⟩
   have hH:FG 113 [nwV n,knV K,I (l.getD i 0),I (b:Int)] (.bool (zHo n K (l.getD i 0).toNat b)):=by
    rw [hai];exact f113 n K a b hn ue (by omega) (by omega)
   by_cases h0:i=0
   ·subst h0
    refine zAf<|zAd 2<|S_a [(0,.n l.length)] (ap (lnS I l) an)<|zAc 1<|zAa<|zAI ((↑0:Int)<(↑l.length:Int)) (by omega)<|zAk<|zAf<|zAi 1<|zAf<|zAd 2<|S_a [(2,.v (I (l.getD 0 0)))] (ap (zBv (0) (by omega):(List.map I l)[0]? = some (I (l.getD 0 0))) an)<|zAc 3<|S_a [(1,.v (I (n.h-1)))] (ap ((zCj rfl (by omega)):I (IntKind.i64.wrap (n.h-1))=I (n.h-1)) an)<|S_a [(10,.ret (PV.bool !inB (l.getD 0 0) 0 (n.h-1)) [])] (ap (f111 (l.getD 0 0) (0) (n.h-1)) an)<|zAc 1<|zCn 45 (!inB (l.getD 0 0) 0 (n.h-1)) (fun k0=>(zAc 28<|zAa<|zA8<|zAd 2<|zAa<|zAm<|E_a [] an (PV.tup [PV.bool false,I 0]) [] ?_ rfl)) (fun k0=>(zAc 4<|S_a [(2,.v (I (l.getD 0 0)))] (ap (zBv (0) (by omega):(List.map I l)[0]? = some (I (l.getD 0 0))) an)<|zAc 2<|S_a [(5,.ob),(0,.v (PV.sl (List.map bls K))),(6,.ret (PV.bool (zHo n K (l.getD 0 0).toNat b)) [])] (ap (blz (List.map lsB K))<|ap (frC lsB bls K)<|ap hH an)<|zAc 3<|zCn 56 (!zHo n K (l.getD 0 0).toNat b) (fun k1=>(zAc 17<|zAa<|zA8<|zAd 2<|zAa<|zAm<|E_a [] an (PV.tup [PV.bool false,I 0]) [] ?_ rfl)) (fun k1=>(zAc 17<|zAa<|zAw<|zAk<|zAe<|zAc 2<|S_a [(5,.ob),(0,.v (PV.sl (List.map bls K))),(2,.ret (PV.own 1 (List.map lsB (zEk n K))) []),(1,.yes)] (ap (blz (List.map lsB K))<|ap (frC lsB bls K)<|ap (f115 n K (by omega) (by omega))<|ap (?_:(PV.own 1 (List.map lsB (zEk n K))).free=true) an)<|zAc 1<|zAa<|zAe<|zAc 3<|zAa ?_))))
    ·rw [hin] at k0;cases k0
    ·rw [jJ (by rw [LB,hin,ntt k1];rfl)]
    ·exact zF5 _
    ·exact ⟨(1,zEk n K),⟨by omega,ya,j1 (by rw [LB,hin,ntf k1];rfl)⟩,by simp only;omega,by kernel_rfl,by kernel_rfl⟩
   ·refine zAf<|zAd 2<|S_a [(0,.n l.length)] (ap (lnS I l) an)<|zAc 1<|zAa<|zAI ((↑i:Int)<(↑l.length:Int)) (by omega)<|zAk<|zAf<|zAi 1<|zAf<|zAd 2<|S_a [(2,.v (I (l.getD i 0)))] (ap (zBv (0) (by omega):(List.map I l)[i]? = some (I (l.getD i 0))) an)<|zAc 3<|S_a [(1,.v (I (n.h-1)))] (ap ((zCj rfl (by omega)):I (IntKind.i64.wrap (n.h-1))=I (n.h-1)) an)<|S_a [(10,.ret (PV.bool !inB (l.getD i 0) 0 (n.h-1)) [])] (ap (f111 (l.getD i 0) (0) (n.h-1)) an)<|zAc 1<|zCn 45 (!inB (l.getD i 0) 0 (n.h-1)) (fun k0=>(zAc 28<|zAa<|zA8<|zAd 2<|zAa<|zAm<|E_a [] an (PV.tup [PV.bool false,I 0]) [] ?_ rfl)) (fun k0=>(zAc 4<|S_a [(2,.v (I (l.getD i 0)))] (ap (zBv (0) (by omega):(List.map I l)[i]? = some (I (l.getD i 0))) an)<|zAc 2<|S_a [(5,.ob),(0,.v (PV.sl (List.map bls K))),(6,.ret (PV.bool (zHo n K (l.getD i 0).toNat b)) [])] (ap (blz (List.map lsB K))<|ap (frC lsB bls K)<|ap hH an)<|zAc 3<|zCn 56 (!zHo n K (l.getD i 0).toNat b) (fun k1=>(zAc 17<|zAa<|zA8<|zAd 2<|zAa<|zAm<|E_a [] an (PV.tup [PV.bool false,I 0]) [] ?_ rfl)) (fun k1=>(zAc 3<|zBL 59 ((↑i:Int)>0) (by omega) (zAc 3<|S_a [(1,.v (I (↑(i-1):Int)))] (ap ((zCj (by omega) (by omega)):I (IntKind.i64.wrap ((↑i:Int)-1))=I (↑(i-1):Int)) an)<|S_a [(2,.v (I (l.getD (i-1) 0)))] (ap (zBv (0) (by omega):(List.map I l)[i-1]? = some (I (l.getD (i-1) 0))) an)<|zAc 3<|S_a [(2,.v (I (l.getD i 0)))] (ap (zBv (0) (by omega):(List.map I l)[i]? = some (I (l.getD i 0))) an)<|zAc 1<|S_a [(10,.ret (PV.bool (zDq n (l.getD (i-1) 0) (l.getD i 0))) [])] (ap (f114 n (l.getD (i-1) 0) (l.getD i 0) ?_) an)<|zAc 3<|zAa<|zDt (!zDq n (l.getD (i-1) 0) (l.getD i 0)) (fun k2=>(zAd 2<|zAa<|zAm<|E_a [] an (PV.tup [PV.bool false,I 0]) [] ?_ rfl)) (fun k2=>(zAk<|zAe<|zAc 2<|S_a [(5,.ob),(0,.v (PV.sl (List.map bls K))),(2,.ret (PV.own 1 (List.map lsB (zEk n K))) []),(1,.yes)] (ap (blz (List.map lsB K))<|ap (frC lsB bls K)<|ap (f115 n K (by omega) (by omega))<|ap (?_:(PV.own 1 (List.map lsB (zEk n K))).free=true) an)<|zAc 1<|zAa<|zAe<|zAc 1<|S_a [(1,.v (I (↑(i+1):Int)))] (ap (wrN i) an)<|zAc 1<|zAa ?_)))))))
    ·rw [hin] at k0;cases k0
    ·rw [jJ (by rw [LB,hin,ntt k1];rfl)]
    ·have:=hn.ll;omega
    ·rw [jJ (by rw [LB,ntt k2,decide_eq_false h0];simp)]
    ·exact zF5 _
    ·exact ⟨(i+1,zEk n K),⟨by omega,ya,j1 (by rw [LB,hin,ntf k1,ntf k2];simp)⟩,by simp only;omega,by kernel_rfl,by kernel_rfl⟩
  ·rw [Bool.not_eq_true] at hin
   rw [jJ (by rw [LB,hin,Bool.false_and])]
   refine zAf<|zAd 2<|S_a [(0,.n l.length)] (ap (lnS I l) an)<|zAc 1<|zAa<|zAI ((↑i:Int)<(↑l.length:Int)) (by omega)<|zAk<|zAf<|zAi 1<|zAf<|zAd 2<|S_a [(2,.v (I (l.getD i 0)))] (ap (zBv (0) (by omega):(List.map I l)[i]? = some (I (l.getD i 0))) an)<|zAc 3<|S_a [(1,.v (I (n.h-1)))] (ap ((zCj rfl (by omega)):I (IntKind.i64.wrap (n.h-1))=I (n.h-1)) an)<|S_a [(10,.ret (PV.bool !inB (l.getD i 0) 0 (n.h-1)) [])] (ap (f111 (l.getD i 0) (0) (n.h-1)) an)<|zAc 1<|zCn 45 (!inB (l.getD i 0) 0 (n.h-1)) (fun k0=>(zAc 28<|zAa<|zA8<|zAd 2<|zAa<|zAm<|E_a [] an (PV.tup [PV.bool false,I 0]) [] rfl rfl)) (fun k0=>(zAc 4<|S_a [(2,.v (I (l.getD i 0)))] (ap (zBv (0) (by omega):(List.map I l)[i]? = some (I (l.getD i 0))) an)<|zAc 2 ?_))
   rw [hin] at k0;cases k0
 ·have hx:(List.range l.length).all (psK n cs l b)=true:=List.all_eq_true.2 fun j hj=>ha j (by have:=List.mem_range.1 hj;omega)
  rw [hx]
  clear ha hK
  refine zAf<|zAd 2<|S_a [(0,.n l.length)] (ap (lnS I l) an)<|zAc 1<|zAa<|zAQ ((↑i:Int)<(↑l.length:Int)) (by omega)<|zAA 0<|zAd 2<|zAa<|zAm<|E_a [] an (PV.tup [PV.bool true,I 0]) [] rfl rfl
theorem f37_2 (n:Nw) (cs:List (Int×Int)) (l:List Int) (x:Int) (ho:CrOk n cs) (hx:inB x 0 (n.n.length-1)=false):FG 37 [nwV n,prs cs,zAB l,I x] (.tup [.bool false,I 1]):=by
 have hn:=ho.nw
 have jp:=hn.small
 have jA:=ho.err
 have hX:=ho.len
 have jo:=hn.nl
 refine zAg Tryz.f37 ?_
 refine zAd 3<|zAa<|zAf<|zAd 2<|S_a [(8,.ret (I (zBm n cs)) [])] (ap (f39 n cs (by omega) (by omega)) an)<|zAc 1<|zAa<|zAd 2<|zAa<|zFL (zBm n cs=0) (by omega)<|zAk<|zAf<|zAd 3<|S_a [(0,.n n.n.length)] (ap (lnS ntV n.n) an)<|S_a [(1,.v (I (↑(n.n.length-1):Int)))] (ap ((zCj (by omega) (by omega)):I (IntKind.i64.wrap ((↑n.n.length:Int)-1))=I (↑(n.n.length-1):Int)) an)<|S_a [(10,.ret (PV.bool !inB x 0 (↑(n.n.length-1):Int)) [])] (ap (f111 x (0) ((↑(n.n.length-1):Int))) an)<|zAa<|zDt (!inB x 0 (↑(n.n.length-1):Int)) (fun k0=>(zAd 2<|zAa<|zAm<|E_a [] an (PV.tup [PV.bool false,I 1]) [] rfl rfl)) (fun k0=>(zAk<|zAf<|zAd 1<|S_a [(0,.n l.length)] (ap (lnS I l) an)<|S_a [(10,.ret (PV.bool !inB (↑l.length:Int) 1 13) [])] (ap (f111 ((↑l.length:Int)) (1) (13)) an)<|zAa<|zDt (!inB (↑l.length:Int) 1 13) (fun k1=>(zAd 2<|zAa<|zAm<|E_a [] an (PV.tup [PV.bool false,I 0]) [] ?_ rfl)) (fun k1=>(zAk<|zAd 2<|S_a [(8,.ret (PV.own 1 (List.map lsB (zLC n cs n.h.toNat))) [])] (ap (f112 n cs ?_) an)<|zAc 1<|zAa<|zAf<|zAd 1<|zAa<|zAi 0 ?_))))
 all_goals (exfalso;rw [show ((n.n.length-1:Nat):Int)=n.n.length-1 by omega,hx] at k0;cases k0)
theorem f37_3 (n:Nw) (cs:List (Int×Int)) (l:List Int) (x:Int) (hs:Small n) (hl:cs.length<1000000) (ho:¬ zBm n cs=0):FG 37 [nwV n,prs cs,zAB l,I x] (.tup [.bool false,I (zBm n cs)]):=by
 refine zAg Tryz.f37 ?_
 refine zAd 3<|zAa<|zAf<|zAd 2<|S_a [(8,.ret (I (zBm n cs)) [])] (ap (f39 n cs (by omega) (by omega)) an)<|zAc 1<|zAa<|zAd 2<|zAa<|zEy (zBm n cs=0) (by omega)<|zAd 3<|zAa<|zAm<|E_a [] an (PV.tup [PV.bool false,I (zBm n cs)]) [] rfl rfl
end Go.Eng
set_option maxRecDepth 10000
set_option maxHeartbeats 4000000
namespace Go.Eng
open Go Go.Proofs
theorem zUR {n:Nw} {cs:List (Int×Int)} (h:zGi n cs=false):cs.length≤24∧Small n:=by
 simp only [zGi,Bool.or_eq_false_iff,decide_eq_false_iff_not,List.any_eq_false,decide_eq_true_eq] at h
 exact ⟨by omega,by omega,by omega,by omega,fun r hr=>by have:=h.2.2.2.2 r hr;omega⟩
end Go.Eng
set_option maxRecDepth 10000
set_option maxHeartbeats 4000000
namespace Go.Eng
open Go Go.Proofs
theorem zVy {l:List Int} {h:Int} (hl:l.getLast? = some h) {k:Nat} (hk:l.length=k+1):l.getD k 0=h:=by
 rw [List.getLast?_eq_getElem?,hk,Nat.add_sub_cancel] at hl
 rw [List.getD_eq_getElem?_getD,hl];rfl
theorem zPJ (n:Nw) (cs:List (Int×Int)) (c:Nat) (x:Int) (h:Nat):(∃ k,k≤12∧(zAY n cs k).getD (h*8+c) 0=x∧∀ j,j<k→(zAY n cs j).getD (h*8+c) 0≠x)∨∀ j,j≤12→(zAY n cs j).getD (h*8+c) 0≠x:=by
 have key:∀ m,(∃ k,k≤m∧(zAY n cs k).getD (h*8+c) 0=x∧∀ j,j<k→(zAY n cs j).getD (h*8+c) 0≠x)∨∀ j,j≤m→(zAY n cs j).getD (h*8+c) 0≠x:=by
  intro m
  induction m with
  | zero =>
   by_cases he:(zAY n cs 0).getD (h*8+c) 0=x
   ·exact .inl ⟨0,Nat.le_refl _,he,fun j hj=>absurd hj (Nat.not_lt_zero j)⟩
   ·exact .inr fun j hj=>by rw [show j=0 by omega];exact he
  | succ m ih =>
   rcases ih with ⟨k,h1,h2⟩ | h1
   ·exact .inl ⟨k,by omega,h2⟩
   ·by_cases he:(zAY n cs (m+1)).getD (h*8+c) 0=x
    ·exact .inl ⟨m+1,Nat.le_refl _,he,fun j hj=>h1 j (by omega)⟩
    ·refine .inr fun j hj=>?_
     by_cases e:j=m+1
     ·rw [e];exact he
     ·exact h1 j (by omega)
 exact key 12
theorem zM4 (n:Nw) (cs:List (Int×Int)) (l:List Int) (x:Int) (hs:Small n) (hl:cs.length≤24) (w5:l.length≤20):∃ (b:Bool) (e:Int),FG 36 [nwV n,prs cs,zAB l,I x] (.tup [.bool b,I e])∧FG 37 [nwV n,prs cs,zAB l,I x] (.tup [.bool b,I e]):=by
 by_cases kY:zBm n cs=0
 ·have kF:=zTx kY
  cases hi:inB x 0 (n.n.length-1) with
  | true =>
   have hx:=zCL hi
   exact ⟨_,_,f36_1 n cs l x kF (by omega) (by omega),f37_1 n cs l x kF (by omega) (by omega)⟩
  | false=>exact ⟨_,_,f36_2 n cs l x kF hi,f37_2 n cs l x kF hi⟩
 ·exact ⟨_,_,f36_3 n cs l x hs (by omega) kY,f37_3 n cs l x hs (by omega) kY⟩
theorem zPU (n:Nw) (cs:List (Int×Int)) (h x:Int) (hs:Small n) (hl:cs.length≤24):∃ v,FG 38 [nwV n,prs cs,I h,I x] v ∧
  ((v = .tup [.own 1 [],I (zBm n cs)]∧¬ zBm n cs=0) ∨
  (v = .tup [.own 1 [],I 1]∧zBm n cs=0∧NwOk n∧¬ (0≤x∧x<n.n.length)) ∨
  (v = .tup [.own 1 [],I 1]∧zBm n cs=0∧NwOk n∧(0≤x∧x<n.n.length)∧¬ (0≤h∧h<n.h)) ∨
  (v = .tup [.own 1 [],I 6]∧zBm n cs=0∧NwOk n∧(0≤x∧x<n.n.length)∧(0≤h∧h<n.h)∧FG 40 [nwV n,prs cs,I h,I x] (I (-1))) ∨
  ∃ (R:List Int) (k:Nat),v = .tup [.own 1 (R.map I),I 0]∧zBm n cs=0∧NwOk n∧(0≤x∧x<n.n.length)∧(0≤h∧h<n.h)∧FG 40 [nwV n,prs cs,I h,I x] (I k)∧k≤12∧R.length=k+1∧R.getD k 0=h∧FG 37 [nwV n,prs cs,zAB R,I x] (.tup [.bool true,I 0])):=by
 by_cases kY:zBm n cs=0
 ·have kF:=zTx kY
  have uV:=kF.w
  have hn:=kF.nw
  by_cases hx:0≤x∧x<n.n.length
  ·by_cases hh:0≤h∧h<n.h
   ·rcases zPJ n cs ((zAj n).getD x.toNat 0).toNat x h.toNat with ⟨k,hk,jB,hm⟩ | hm
    ·obtain ⟨vM,uQ,hp3⟩:=zUI (n:=n) (cs:=cs) hn hh hx hk jB hm
     refine ⟨_,f38_1 n cs h x k kF hh hx hk jB hm,.inr (.inr (.inr (.inr ⟨_,k,rfl,kY,hn,hx,hh,f40_1 n cs h x k uV hh hx hk jB hm,hk,uQ,zVy hp3 uQ,?_⟩)))⟩
     have:=f37_1 n cs _ x kF (by rw [uQ];omega) hx
     rw [vM] at this
     exact this
    ·exact ⟨_,f38_2 n cs h x kF hh hx hm,.inr (.inr (.inr (.inl ⟨rfl,kY,hn,hx,hh,f40_2 n cs h x uV hh hx hm⟩)))⟩
   ·exact ⟨_,f38_3 n cs h x kF (fun hc=>hh (by have:=zCL hc.1;omega)),.inr (.inr (.inl ⟨rfl,kY,hn,hx,hh⟩))⟩
  ·exact ⟨_,f38_3 n cs h x kF (fun hc=>hx (by have:=zCL hc.2;omega)),.inr (.inl ⟨rfl,kY,hn,hx⟩)⟩
 ·exact ⟨_,f38_4 n cs h x hs (by omega) kY,.inl ⟨rfl,kY⟩⟩
theorem f4 (n:Nw) (cs:List (Int×Int)) (h x:Int) (l:List Int) (w5:l.length<9223372036854775808):FG 4 [nwV n,prs cs,I h,I x,zAB l] (.bool true):=by
 cases hg:zGi n cs with
 | true =>
  have v6:FG 16 [nwV n,prs cs] (.bool true):=hg▸f16 n cs
  refine zAg Tryz.f4 ?_
  refine zAd 2<|zAa<|zAf<|zAd 2<|S_a [(8,.ret (PV.bool true) [])] (ap v6 an)<|zAc 5<|zAa<|zA8<|zAf<|zAe<|S_a [(4,.ret (PV.bool true) [])] (ap f17 an)<|zAc 1<|zAa<|zAm<|E_a [] an (PV.bool true) [] rfl rfl
 | false =>
  have v6:FG 16 [nwV n,prs cs] (.bool false):=hg▸f16 n cs
  obtain ⟨yO,hs⟩:=zUR hg
  clear hg
  by_cases hl20:l.length>20
  ·refine zAg Tryz.f4 ?_
   refine zAd 2<|zAa<|zAf<|zAd 2<|S_a [(8,.ret (PV.bool false) [])] (ap v6 an)<|zAc 2<|S_a [(0,.n l.length)] (ap (lnS I l) an)<|zAc 2<|zAa<|zAI ((↑l.length:Int)>20) (by omega)<|zAf<|zAe<|S_a [(4,.ret (PV.bool true) [])] (ap f17 an)<|zAc 1<|zAa<|zAm<|E_a [] an (PV.bool true) [] rfl rfl
  obtain ⟨pb,pe,p1,p2⟩:=zM4 n cs l x hs yO (by omega)
  obtain ⟨v,hv,hd⟩:=zPU n cs h x hs yO
  refine zAg Tryz.f4 ?_
  refine zAd 2<|zAa<|zAf<|zAd 2<|S_a [(8,.ret (PV.bool false) [])] (ap v6 an)<|zAc 2<|S_a [(0,.n l.length)] (ap (lnS I l) an)<|zAc 2<|zAa<|zAQ ((↑l.length:Int)>20) (by omega)<|zAk<|zAd 1<|S_a [(6,.ret (nwO n) [])] (ap (f18 n (by omega)) an)<|zAc 1<|S_a [(6,.ret (nwO n) [])] (ap (f19 n (by omega)) an)<|zAc 1<|S_a [(6,.ret (PV.own 2 (List.map prV cs)) [])] (ap (f20 cs (by omega)) an)<|zAc 1<|S_a [(6,.ret (PV.own 1 (List.map I l)) [])] (ap (f35 l (by omega)) an)<|zAc 6<|zAa<|zAd 1<|S_a [(6,.ret (PV.own 2 (List.map prV cs)) [])] (ap (f21 cs (by omega)) an)<|zAc 1<|zAa<|zAd 4<|S_a [(6,.ob),(0,.v (prs n.l)),(1,.ob),(0,.v (PV.sl (List.map ntV n.n))),(1,.ob),(0,.v (PV.sl (List.map zAB n.s))),(1,.ob),(0,.v (prs cs)),(1,.ob),(0,.v (zAB l)),(4,.ret (PV.tup [PV.bool pb,I pe]) [])] (ap (blz (List.map prV n.l))<|ap (frT prV n.l)<|ap (blz (List.map ntV n.n))<|ap (frT ntV n.n)<|ap (blz (List.map zBY n.s))<|ap (frC zBY zAB n.s)<|ap (blz (List.map prV cs))<|ap (frT prV cs)<|ap (blz (List.map I l))<|ap (frT I l)<|ap p1 an)<|zAc 5<|zAa<|zAd 4<|S_a [(6,.ob),(0,.v (prs n.l)),(1,.ob),(0,.v (PV.sl (List.map ntV n.n))),(1,.ob),(0,.v (PV.sl (List.map zAB n.s))),(1,.ob),(0,.v (prs cs)),(6,.ret (PV.tup [PV.bool pb,I pe]) [])] (ap (blz (List.map prV n.l))<|ap (frT prV n.l)<|ap (blz (List.map ntV n.n))<|ap (frT ntV n.n)<|ap (blz (List.map zBY n.s))<|ap (frC zBY zAB n.s)<|ap (blz (List.map prV cs))<|ap (frT prV cs)<|ap p2 an)<|zAc 5<|zAa<|zAf<|zAd 4<|zCn 62 (!pb==pb) (fun k0=>(zAc 4<|zAa<|zA8<|zAd 1<|zAa<|zAm<|E_a [] an (PV.bool false) [] ?_ rfl)) (fun k0=>(zAc 4<|zAa<|zFL (pe=pe) (by omega)<|zAk<|zAd 4 ?_))
  ·exfalso;simp at k0
  rcases hd with ⟨rfl,kY⟩ | ⟨rfl,kY,hn,hx⟩ | ⟨rfl,kY,hn,hx,hh⟩ | ⟨rfl,kY,hn,hx,hh,yp⟩ | ⟨R,k,rfl,kY,hn,hx,hh,yp,hk,uQ,hR,kq⟩
  ·refine S_a [(6,.ob),(0,.v (prs n.l)),(1,.ob),(0,.v (PV.sl (List.map ntV n.n))),(1,.ob),(0,.v (PV.sl (List.map zAB n.s))),(1,.ob),(0,.v (prs cs)),(6,.ret (PV.tup [PV.own 1 [],I (zBm n cs)]) [])] (ap (blz (List.map prV n.l))<|ap (frT prV n.l)<|ap (blz (List.map ntV n.n))<|ap (frT ntV n.n)<|ap (blz (List.map zBY n.s))<|ap (frC zBY zAB n.s)<|ap (blz (List.map prV cs))<|ap (frT prV cs)<|ap hv an)<|zAc 5<|zAa<|zAd 2<|S_a [(6,.ob),(0,.v (prs n.l)),(1,.ob),(0,.v (PV.sl (List.map ntV n.n))),(1,.ob),(0,.v (PV.sl (List.map zAB n.s))),(1,.ob),(0,.v (prs cs)),(2,.ret (I (zBm n cs)) [])] (ap (blz (List.map prV n.l))<|ap (frT prV n.l)<|ap (blz (List.map ntV n.n))<|ap (frT ntV n.n)<|ap (blz (List.map zBY n.s))<|ap (frC zBY zAB n.s)<|ap (blz (List.map prV cs))<|ap (frT prV cs)<|ap (f39 n cs (by omega) (by omega)) an)<|zAc 1<|zAa<|zAf<|zAd 3<|zG0 80 (zBm n cs=0) (by omega) (zAc 20<|zAa<|zAw<|zAk<|zAd 1<|zAa<|zAf<|zAd 2<|zAa<|zAQ (zBm n cs=0) (by omega)<|zAk<|zAf<|zAd 4<|zQK 113 (zBm n cs=zBm n cs) (by omega) (zAc 1<|zAc 5<|zAa<|zAw<|zAk<|zAf<|zAd 2<|zAa<|zAQ (zBm n cs=0) (by omega)<|zAk<|zAd 2<|S_a [(6,.ob),(0,.v (prs n.l)),(1,.ob),(0,.v (PV.sl (List.map ntV n.n))),(1,.ob),(0,.v (PV.sl (List.map zAB n.s))),(4,.ret (PV.bool true) [])] (ap (blz (List.map prV n.l))<|ap (frT prV n.l)<|ap (blz (List.map ntV n.n))<|ap (frT ntV n.n)<|ap (blz (List.map zBY n.s))<|ap (frC zBY zAB n.s)<|ap (f33 n (by omega)) an)<|zAc 3<|S_a [(3,.ob),(0,.v (prs cs)),(4,.ret (PV.bool (decide (cs=cs))) [])] (ap (blz (List.map prV cs))<|ap (frT prV cs)<|ap (f34 cs cs (by omega)) an)<|zAc 2<|zBL 154 (cs=cs) (by (simp;done)) (zAc 2<|S_a [(3,.ob),(0,.v (zAB l)),(4,.ret (PV.bool (decide (l=l))) [])] (ap (blz (List.map I l))<|ap (frT I l)<|ap (f28 l l (by omega)) an)<|zAc 2<|zBL 159 (l=l) (by (simp;done)) (S_a [(4,.ret (PV.bool true) [])] (ap f17 an)<|zAc 2<|zAa<|zAm<|E_a [] an (PV.bool true) [] rfl rfl))))
  ·have jo:=hn.nl
   refine S_a [(6,.ob),(0,.v (prs n.l)),(1,.ob),(0,.v (PV.sl (List.map ntV n.n))),(1,.ob),(0,.v (PV.sl (List.map zAB n.s))),(1,.ob),(0,.v (prs cs)),(6,.ret (PV.tup [PV.own 1 [],I 1]) [])] (ap (blz (List.map prV n.l))<|ap (frT prV n.l)<|ap (blz (List.map ntV n.n))<|ap (frT ntV n.n)<|ap (blz (List.map zBY n.s))<|ap (frC zBY zAB n.s)<|ap (blz (List.map prV cs))<|ap (frT prV cs)<|ap hv an)<|zAc 5<|zAa<|zAd 2<|S_a [(6,.ob),(0,.v (prs n.l)),(1,.ob),(0,.v (PV.sl (List.map ntV n.n))),(1,.ob),(0,.v (PV.sl (List.map zAB n.s))),(1,.ob),(0,.v (prs cs)),(2,.ret (I (zBm n cs)) [])] (ap (blz (List.map prV n.l))<|ap (frT prV n.l)<|ap (blz (List.map ntV n.n))<|ap (frT ntV n.n)<|ap (blz (List.map zBY n.s))<|ap (frC zBY zAB n.s)<|ap (blz (List.map prV cs))<|ap (frT prV cs)<|ap (f39 n cs (by omega) (by omega)) an)<|zAc 1<|zAa<|zAf<|zAd 3<|zBL 80 (zBm n cs=0) (by omega) (zAc 3<|zD5 83 (h<0) (fun k1=>(zAc 17<|zAa<|zA8<|zAe<|zAc 1<|zAa<|zAd 1<|zAa<|zAf<|zAd 2<|zAa<|zAw<|zAk<|zAf<|zAd 5<|zAc 5<|zAa<|zAw<|zAk<|zAf<|zAd 2<|zAa<|zAw<|zAk<|zAd 2<|S_a [(6,.ob),(0,.v (prs n.l)),(1,.ob),(0,.v (PV.sl (List.map ntV n.n))),(1,.ob),(0,.v (PV.sl (List.map zAB n.s))),(4,.ret (PV.bool true) [])] (ap (blz (List.map prV n.l))<|ap (frT prV n.l)<|ap (blz (List.map ntV n.n))<|ap (frT ntV n.n)<|ap (blz (List.map zBY n.s))<|ap (frC zBY zAB n.s)<|ap (f33 n (by omega)) an)<|zAc 3<|S_a [(3,.ob),(0,.v (prs cs)),(4,.ret (PV.bool (decide (cs=cs))) [])] (ap (blz (List.map prV cs))<|ap (frT prV cs)<|ap (f34 cs cs (by omega)) an)<|zAc 2<|zBL 154 (cs=cs) (by (simp;done)) (zAc 2<|S_a [(3,.ob),(0,.v (zAB l)),(4,.ret (PV.bool (decide (l=l))) [])] (ap (blz (List.map I l))<|ap (frT I l)<|ap (f28 l l (by omega)) an)<|zAc 2<|zBL 159 (l=l) (by (simp;done)) (S_a [(4,.ret (PV.bool true) [])] (ap f17 an)<|zAc 2<|zAa<|zAm<|E_a [] an (PV.bool true) [] rfl rfl)))) (fun k1=>(zAc 6<|zD5 89 (h≥n.h) (fun k2=>(zAc 11<|zAa<|zA8<|zAe<|zAc 1<|zAa<|zAd 1<|zAa<|zAf<|zAd 2<|zAa<|zAw<|zAk<|zAf<|zAd 5<|zAc 5<|zAa<|zAw<|zAk<|zAf<|zAd 2<|zAa<|zAw<|zAk<|zAd 2<|S_a [(6,.ob),(0,.v (prs n.l)),(1,.ob),(0,.v (PV.sl (List.map ntV n.n))),(1,.ob),(0,.v (PV.sl (List.map zAB n.s))),(4,.ret (PV.bool true) [])] (ap (blz (List.map prV n.l))<|ap (frT prV n.l)<|ap (blz (List.map ntV n.n))<|ap (frT ntV n.n)<|ap (blz (List.map zBY n.s))<|ap (frC zBY zAB n.s)<|ap (f33 n (by omega)) an)<|zAc 3<|S_a [(3,.ob),(0,.v (prs cs)),(4,.ret (PV.bool (decide (cs=cs))) [])] (ap (blz (List.map prV cs))<|ap (frT prV cs)<|ap (f34 cs cs (by omega)) an)<|zAc 2<|zBL 154 (cs=cs) (by (simp;done)) (zAc 2<|S_a [(3,.ob),(0,.v (zAB l)),(4,.ret (PV.bool (decide (l=l))) [])] (ap (blz (List.map I l))<|ap (frT I l)<|ap (f28 l l (by omega)) an)<|zAc 2<|zBL 159 (l=l) (by (simp;done)) (S_a [(4,.ret (PV.bool true) [])] (ap f17 an)<|zAc 2<|zAa<|zAm<|E_a [] an (PV.bool true) [] rfl rfl)))) (fun k2=>(zAc 4<|zD5 93 (x<0) (fun k3=>(zAc 7<|zAa<|zA8<|zAe<|zAc 1<|zAa<|zAd 1<|zAa<|zAf<|zAd 2<|zAa<|zAw<|zAk<|zAf<|zAd 5<|zAc 5<|zAa<|zAw<|zAk<|zAf<|zAd 2<|zAa<|zAw<|zAk<|zAd 2<|S_a [(6,.ob),(0,.v (prs n.l)),(1,.ob),(0,.v (PV.sl (List.map ntV n.n))),(1,.ob),(0,.v (PV.sl (List.map zAB n.s))),(4,.ret (PV.bool true) [])] (ap (blz (List.map prV n.l))<|ap (frT prV n.l)<|ap (blz (List.map ntV n.n))<|ap (frT ntV n.n)<|ap (blz (List.map zBY n.s))<|ap (frC zBY zAB n.s)<|ap (f33 n (by omega)) an)<|zAc 3<|S_a [(3,.ob),(0,.v (prs cs)),(4,.ret (PV.bool (decide (cs=cs))) [])] (ap (blz (List.map prV cs))<|ap (frT prV cs)<|ap (f34 cs cs (by omega)) an)<|zAc 2<|zBL 154 (cs=cs) (by (simp;done)) (zAc 2<|S_a [(3,.ob),(0,.v (zAB l)),(4,.ret (PV.bool (decide (l=l))) [])] (ap (blz (List.map I l))<|ap (frT I l)<|ap (f28 l l (by omega)) an)<|zAc 2<|zBL 159 (l=l) (by (simp;done)) (S_a [(4,.ret (PV.bool true) [])] (ap f17 an)<|zAc 2<|zAa<|zAm<|E_a [] an (PV.bool true) [] rfl rfl)))) (fun k3=>(zAc 3<|S_a [(0,.n n.n.length)] (ap (lnS ntV n.n) an)<|zAc 3<|zAa<|zAI (x≥(↑n.n.length:Int)) (by omega)<|zAe<|zAc 1<|zAa<|zAd 1<|zAa<|zAf<|zAd 2<|zAa<|zAw<|zAk<|zAf<|zAd 5<|zAc 5<|zAa<|zAw<|zAk<|zAf<|zAd 2<|zAa<|zAw<|zAk<|zAd 2<|S_a [(6,.ob),(0,.v (prs n.l)),(1,.ob),(0,.v (PV.sl (List.map ntV n.n))),(1,.ob),(0,.v (PV.sl (List.map zAB n.s))),(4,.ret (PV.bool true) [])] (ap (blz (List.map prV n.l))<|ap (frT prV n.l)<|ap (blz (List.map ntV n.n))<|ap (frT ntV n.n)<|ap (blz (List.map zBY n.s))<|ap (frC zBY zAB n.s)<|ap (f33 n (by omega)) an)<|zAc 3<|S_a [(3,.ob),(0,.v (prs cs)),(4,.ret (PV.bool (decide (cs=cs))) [])] (ap (blz (List.map prV cs))<|ap (frT prV cs)<|ap (f34 cs cs (by omega)) an)<|zAc 2<|zBL 154 (cs=cs) (by (simp;done)) (zAc 2<|S_a [(3,.ob),(0,.v (zAB l)),(4,.ret (PV.bool (decide (l=l))) [])] (ap (blz (List.map I l))<|ap (frT I l)<|ap (f28 l l (by omega)) an)<|zAc 2<|zBL 159 (l=l) (by (simp;done)) (S_a [(4,.ret (PV.bool true) [])] (ap f17 an)<|zAc 2<|zAa<|zAm<|E_a [] an (PV.bool true) [] rfl rfl)))))))))
  ·have jo:=hn.nl
   have hH:=hn.h
   refine S_a [(6,.ob),(0,.v (prs n.l)),(1,.ob),(0,.v (PV.sl (List.map ntV n.n))),(1,.ob),(0,.v (PV.sl (List.map zAB n.s))),(1,.ob),(0,.v (prs cs)),(6,.ret (PV.tup [PV.own 1 [],I 1]) [])] (ap (blz (List.map prV n.l))<|ap (frT prV n.l)<|ap (blz (List.map ntV n.n))<|ap (frT ntV n.n)<|ap (blz (List.map zBY n.s))<|ap (frC zBY zAB n.s)<|ap (blz (List.map prV cs))<|ap (frT prV cs)<|ap hv an)<|zAc 5<|zAa<|zAd 2<|S_a [(6,.ob),(0,.v (prs n.l)),(1,.ob),(0,.v (PV.sl (List.map ntV n.n))),(1,.ob),(0,.v (PV.sl (List.map zAB n.s))),(1,.ob),(0,.v (prs cs)),(2,.ret (I (zBm n cs)) [])] (ap (blz (List.map prV n.l))<|ap (frT prV n.l)<|ap (blz (List.map ntV n.n))<|ap (frT ntV n.n)<|ap (blz (List.map zBY n.s))<|ap (frC zBY zAB n.s)<|ap (blz (List.map prV cs))<|ap (frT prV cs)<|ap (f39 n cs (by omega) (by omega)) an)<|zAc 1<|zAa<|zAf<|zAd 3<|zBL 80 (zBm n cs=0) (by omega) (zAc 3<|zD5 83 (h<0) (fun k1=>(zAc 17<|zAa<|zA8<|zAe<|zAc 1<|zAa<|zAd 1<|zAa<|zAf<|zAd 2<|zAa<|zAw<|zAk<|zAf<|zAd 5<|zAc 5<|zAa<|zAw<|zAk<|zAf<|zAd 2<|zAa<|zAw<|zAk<|zAd 2<|S_a [(6,.ob),(0,.v (prs n.l)),(1,.ob),(0,.v (PV.sl (List.map ntV n.n))),(1,.ob),(0,.v (PV.sl (List.map zAB n.s))),(4,.ret (PV.bool true) [])] (ap (blz (List.map prV n.l))<|ap (frT prV n.l)<|ap (blz (List.map ntV n.n))<|ap (frT ntV n.n)<|ap (blz (List.map zBY n.s))<|ap (frC zBY zAB n.s)<|ap (f33 n (by omega)) an)<|zAc 3<|S_a [(3,.ob),(0,.v (prs cs)),(4,.ret (PV.bool (decide (cs=cs))) [])] (ap (blz (List.map prV cs))<|ap (frT prV cs)<|ap (f34 cs cs (by omega)) an)<|zAc 2<|zBL 154 (cs=cs) (by (simp;done)) (zAc 2<|S_a [(3,.ob),(0,.v (zAB l)),(4,.ret (PV.bool (decide (l=l))) [])] (ap (blz (List.map I l))<|ap (frT I l)<|ap (f28 l l (by omega)) an)<|zAc 2<|zBL 159 (l=l) (by (simp;done)) (S_a [(4,.ret (PV.bool true) [])] (ap f17 an)<|zAc 2<|zAa<|zAm<|E_a [] an (PV.bool true) [] rfl rfl)))) (fun k1=>(zAc 6<|zBL 89 (h≥n.h) (by omega) (zAc 11<|zAa<|zA8<|zAe<|zAc 1<|zAa<|zAd 1<|zAa<|zAf<|zAd 2<|zAa<|zAw<|zAk<|zAf<|zAd 5<|zAc 5<|zAa<|zAw<|zAk<|zAf<|zAd 2<|zAa<|zAw<|zAk<|zAd 2<|S_a [(6,.ob),(0,.v (prs n.l)),(1,.ob),(0,.v (PV.sl (List.map ntV n.n))),(1,.ob),(0,.v (PV.sl (List.map zAB n.s))),(4,.ret (PV.bool true) [])] (ap (blz (List.map prV n.l))<|ap (frT prV n.l)<|ap (blz (List.map ntV n.n))<|ap (frT ntV n.n)<|ap (blz (List.map zBY n.s))<|ap (frC zBY zAB n.s)<|ap (f33 n (by omega)) an)<|zAc 3<|S_a [(3,.ob),(0,.v (prs cs)),(4,.ret (PV.bool (decide (cs=cs))) [])] (ap (blz (List.map prV cs))<|ap (frT prV cs)<|ap (f34 cs cs (by omega)) an)<|zAc 2<|zBL 154 (cs=cs) (by (simp;done)) (zAc 2<|S_a [(3,.ob),(0,.v (zAB l)),(4,.ret (PV.bool (decide (l=l))) [])] (ap (blz (List.map I l))<|ap (frT I l)<|ap (f28 l l (by omega)) an)<|zAc 2<|zBL 159 (l=l) (by (simp;done)) (S_a [(4,.ret (PV.bool true) [])] (ap f17 an)<|zAc 2<|zAa<|zAm<|E_a [] an (PV.bool true) [] rfl rfl))))))
  ·have jo:=hn.nl
   have hH:=hn.h
   refine S_a [(6,.ob),(0,.v (prs n.l)),(1,.ob),(0,.v (PV.sl (List.map ntV n.n))),(1,.ob),(0,.v (PV.sl (List.map zAB n.s))),(1,.ob),(0,.v (prs cs)),(6,.ret (PV.tup [PV.own 1 [],I 6]) [])] (ap (blz (List.map prV n.l))<|ap (frT prV n.l)<|ap (blz (List.map ntV n.n))<|ap (frT ntV n.n)<|ap (blz (List.map zBY n.s))<|ap (frC zBY zAB n.s)<|ap (blz (List.map prV cs))<|ap (frT prV cs)<|ap hv an)<|zAc 5<|zAa<|zAd 2<|S_a [(6,.ob),(0,.v (prs n.l)),(1,.ob),(0,.v (PV.sl (List.map ntV n.n))),(1,.ob),(0,.v (PV.sl (List.map zAB n.s))),(1,.ob),(0,.v (prs cs)),(2,.ret (I (zBm n cs)) [])] (ap (blz (List.map prV n.l))<|ap (frT prV n.l)<|ap (blz (List.map ntV n.n))<|ap (frT ntV n.n)<|ap (blz (List.map zBY n.s))<|ap (frC zBY zAB n.s)<|ap (blz (List.map prV cs))<|ap (frT prV cs)<|ap (f39 n cs (by omega) (by omega)) an)<|zAc 1<|zAa<|zAf<|zAd 3<|zBL 80 (zBm n cs=0) (by omega) (zAc 3<|zG0 83 (h<0) (by omega) (zAc 6<|zG0 89 (h≥n.h) (by omega) (zAc 4<|zG0 93 (x<0) (by omega) (zAc 3<|S_a [(0,.n n.n.length)] (ap (lnS ntV n.n) an)<|zAc 3<|zAa<|zAQ (x≥(↑n.n.length:Int)) (by omega)<|zAk<|zAd 1<|zAa<|zAf<|zAd 2<|zAa<|zAI (zBm n cs=0) (by omega)<|zAd 4<|S_a [(6,.ob),(0,.v (prs n.l)),(1,.ob),(0,.v (PV.sl (List.map ntV n.n))),(1,.ob),(0,.v (PV.sl (List.map zAB n.s))),(1,.ob),(0,.v (prs cs)),(6,.ret (I (-1)) [])] (ap (blz (List.map prV n.l))<|ap (frT prV n.l)<|ap (blz (List.map ntV n.n))<|ap (frT ntV n.n)<|ap (blz (List.map zBY n.s))<|ap (frC zBY zAB n.s)<|ap (blz (List.map prV cs))<|ap (frT prV cs)<|ap yp an)<|zAc 1<|zAa<|zAd 2<|zAa<|zA8<|zAe<|zAc 1<|zAa<|zAf<|zAd 5<|zAc 5<|zAa<|zAw<|zAk<|zAf<|zAd 2<|zAa<|zAw<|zAk<|zAd 2<|S_a [(6,.ob),(0,.v (prs n.l)),(1,.ob),(0,.v (PV.sl (List.map ntV n.n))),(1,.ob),(0,.v (PV.sl (List.map zAB n.s))),(4,.ret (PV.bool true) [])] (ap (blz (List.map prV n.l))<|ap (frT prV n.l)<|ap (blz (List.map ntV n.n))<|ap (frT ntV n.n)<|ap (blz (List.map zBY n.s))<|ap (frC zBY zAB n.s)<|ap (f33 n (by omega)) an)<|zAc 3<|S_a [(3,.ob),(0,.v (prs cs)),(4,.ret (PV.bool (decide (cs=cs))) [])] (ap (blz (List.map prV cs))<|ap (frT prV cs)<|ap (f34 cs cs (by omega)) an)<|zAc 2<|zBL 154 (cs=cs) (by (simp;done)) (zAc 2<|S_a [(3,.ob),(0,.v (zAB l)),(4,.ret (PV.bool (decide (l=l))) [])] (ap (blz (List.map I l))<|ap (frT I l)<|ap (f28 l l (by omega)) an)<|zAc 2<|zBL 159 (l=l) (by (simp;done)) (S_a [(4,.ret (PV.bool true) [])] (ap f17 an)<|zAc 2<|zAa<|zAm<|E_a [] an (PV.bool true) [] rfl rfl))))))
  ·have jo:=hn.nl
   have hH:=hn.h
   refine S_a [(6,.ob),(0,.v (prs n.l)),(1,.ob),(0,.v (PV.sl (List.map ntV n.n))),(1,.ob),(0,.v (PV.sl (List.map zAB n.s))),(1,.ob),(0,.v (prs cs)),(6,.ret (PV.tup [PV.own 1 (List.map I R),I 0]) []),(1,.yes)] (ap (blz (List.map prV n.l))<|ap (frT prV n.l)<|ap (blz (List.map ntV n.n))<|ap (frT ntV n.n)<|ap (blz (List.map zBY n.s))<|ap (frC zBY zAB n.s)<|ap (blz (List.map prV cs))<|ap (frT prV cs)<|ap hv<|ap ((by exact zWn (zLW _) rfl):(PV.tup [PV.own 1 (List.map I R),I 0]).free=true) an)<|zAc 5<|zAa<|zAd 2<|S_a [(6,.ob),(0,.v (prs n.l)),(1,.ob),(0,.v (PV.sl (List.map ntV n.n))),(1,.ob),(0,.v (PV.sl (List.map zAB n.s))),(1,.ob),(0,.v (prs cs)),(2,.ret (I (zBm n cs)) [])] (ap (blz (List.map prV n.l))<|ap (frT prV n.l)<|ap (blz (List.map ntV n.n))<|ap (frT ntV n.n)<|ap (blz (List.map zBY n.s))<|ap (frC zBY zAB n.s)<|ap (blz (List.map prV cs))<|ap (frT prV cs)<|ap (f39 n cs (by omega) (by omega)) an)<|zAc 1<|zAa<|zAf<|zAd 3<|zBL 80 (zBm n cs=0) (by omega) (zAc 3<|zG0 83 (h<0) (by omega) (zAc 6<|zG0 89 (h≥n.h) (by omega) (zAc 4<|zG0 93 (x<0) (by omega) (zAc 3<|S_a [(0,.n n.n.length)] (ap (lnS ntV n.n) an)<|zAc 3<|zAa<|zAQ (x≥(↑n.n.length:Int)) (by omega)<|zAk<|zAd 1<|zAa<|zAf<|zAd 2<|zAa<|zAI (zBm n cs=0) (by omega)<|zAd 4<|S_a [(6,.ob),(0,.v (prs n.l)),(1,.ob),(0,.v (PV.sl (List.map ntV n.n))),(1,.ob),(0,.v (PV.sl (List.map zAB n.s))),(1,.ob),(0,.v (prs cs)),(6,.ret (I (↑k:Int)) [])] (ap (blz (List.map prV n.l))<|ap (frT prV n.l)<|ap (blz (List.map ntV n.n))<|ap (frT ntV n.n)<|ap (blz (List.map zBY n.s))<|ap (frC zBY zAB n.s)<|ap (blz (List.map prV cs))<|ap (frT prV cs)<|ap yp an)<|zAc 1<|zAa<|zAd 2<|zAa<|zAw<|zAk<|zAf<|zAd 4<|zQK 113 (0=zBm n cs) (by omega) (zAc 1<|S_a [(0,.n R.length)] (ap (lnS I R) an)<|zAc 1<|S_a [(1,.v (I (↑(k+1):Int)))] (ap (wrN k) an)<|zAc 2<|zAa<|zFL ((↑R.length:Int)=(↑(k+1):Int)) (by omega)<|zAk<|zAf<|zAd 2<|zAa<|zA8<|zAd 4<|S_a [(6,.ob),(0,.v (prs n.l)),(1,.ob),(0,.v (PV.sl (List.map ntV n.n))),(1,.ob),(0,.v (PV.sl (List.map zAB n.s))),(1,.ob),(0,.v (prs cs)),(1,.ob),(0,.v (zAB R)),(4,.ret (PV.tup [PV.bool true,I 0]) [])] (ap (blz (List.map prV n.l))<|ap (frT prV n.l)<|ap (blz (List.map ntV n.n))<|ap (frT ntV n.n)<|ap (blz (List.map zBY n.s))<|ap (frC zBY zAB n.s)<|ap (blz (List.map prV cs))<|ap (frT prV cs)<|ap (blz (List.map I R))<|ap (frT I R)<|ap kq an)<|zAc 5<|zAa<|zAd 9<|S_a [(0,.n R.length)] (ap (lnS I R) an)<|S_a [(1,.v (I (↑(R.length-1):Int)))] (ap ((zCj (by omega) (by omega)):I (IntKind.i64.wrap ((↑R.length:Int)-1))=I (↑(R.length-1):Int)) an)<|S_a [(2,.ob),(1,.n (R.length-1))] (ap ((by exact zAp (by simp only [List.length_map,zzLn]<;>omega)):decide (R.length-1<(List.map I R).length)=true)<|ap ((by simp):some (0+(R.length-1))=some (R.length-1)) an)<|S_a [(0,.cs false ([I (R.getD (R.length-1) 0)]))] (ap (zC9 (q:=PV.own 1 (List.map I R)) (xs:=List.map I R) (x:=I (R.getD (R.length-1) 0)) rfl (zBv (0) (by omega)):zAs 20 (PV.own 1 (List.map I R)) [] (R.length-1) 0 1=some (false,[I (R.getD (R.length-1) 0)])) an)<|zAc 3<|zAa<|zDc (R.getD (R.length-1) 0=h) (fun k2=>(zAd 1<|zAa<|zAm<|E_a [] an (PV.bool false) [] ?_ rfl)) (fun k2=>(zAk<|zAd 2<|S_a [(6,.ob),(0,.v (prs n.l)),(1,.ob),(0,.v (PV.sl (List.map ntV n.n))),(1,.ob),(0,.v (PV.sl (List.map zAB n.s))),(4,.ret (PV.bool true) [])] (ap (blz (List.map prV n.l))<|ap (frT prV n.l)<|ap (blz (List.map ntV n.n))<|ap (frT ntV n.n)<|ap (blz (List.map zBY n.s))<|ap (frC zBY zAB n.s)<|ap (f33 n (by omega)) an)<|zAc 3<|S_a [(3,.ob),(0,.v (prs cs)),(4,.ret (PV.bool (decide (cs=cs))) [])] (ap (blz (List.map prV cs))<|ap (frT prV cs)<|ap (f34 cs cs (by omega)) an)<|zAc 2<|zBL 154 (cs=cs) (by (simp;done)) (zAc 2<|S_a [(3,.ob),(0,.v (zAB l)),(4,.ret (PV.bool (decide (l=l))) [])] (ap (blz (List.map I l))<|ap (frT I l)<|ap (f28 l l (by omega)) an)<|zAc 2<|zBL 159 (l=l) (by (simp;done)) (S_a [(4,.ret (PV.bool true) [])] (ap f17 an)<|zAc 2<|zAa<|zAm<|E_a [] an (PV.bool true) [] rfl rfl)))))))))
   exfalso
   rw [uQ,Nat.add_sub_cancel] at k2
   exact k2 hR
end Go.Eng
set_option maxRecDepth 100000
namespace Go.Proofs.YtppbomajegnkeaaGreat
open Go.ChangeShapes Go.WideShapes Go.ChangeAt Go.RowKit Go.Eng
theorem newsPaths_gives (ss:List (Bool×List Sh)) (wU:zEV Tryz.prog Tryz.f4.params.toList=some ss) (qs:List PV) (hq:zK7 ss qs):@zDp (yo1 Tryz.prog zKO) Tryz.prog zKO 4 qs [] (.bool true) []:=by
 have he:zEV Tryz.prog Tryz.f4.params.toList=some [(true,[.num .i64,.list true [.num .i64,.num .i64],.list true [.num .i64,.bool],.list false [.list false [.num .i64]]]),(false,[.list true [.num .i64,.num .i64]]),(false,[.num .i64]),(false,[.num .i64]),(false,[.list false [.num .i64]])]:=by kernel_rfl
 rw [he] at wU
 cases wU
 obtain ⟨p0,qs0,rfl,h0,hq0⟩:=hq
 obtain ⟨p1,qs1,rfl,h1,uL⟩:=hq0
 obtain ⟨p2,qs2,rfl,h2,vK⟩:=uL
 obtain ⟨p3,qs3,rfl,h3,hq3⟩:=vK
 obtain ⟨p4,qs4,rfl,h4,hq4⟩:=hq3
 simp only [zK7] at hq4
 subst hq4
 obtain ⟨x0,rfl⟩:=zUP h0
 obtain ⟨x1,rfl⟩:=zTJ h1
 obtain ⟨x2,rfl,b2⟩:=zTQ h2
 simp only [IntKind.min,IntKind.max,IntKind.signed,IntKind.bits] at b2
 simp at b2
 obtain ⟨x3,rfl,b3⟩:=zTQ h3
 simp only [IntKind.min,IntKind.max,IntKind.signed,IntKind.bits] at b3
 simp at b3
 obtain ⟨x4,rfl,l4,b4⟩:=zUQ h4
 unfold maxLen at l4
 simp only [IntKind.min,IntKind.max,IntKind.signed,IntKind.bits] at b4
 simp at b4
 exact f4 x0 x1 x2 x3 x4 (by omega)
theorem newsPaths_lifted (os:Os) (started:os.Started) (H:Type) (enc:TypeId×Value→H) :
  ReturnsInHanded {} Tryz.checked os 4 .any (Rows.newsPathsSpec.pre6 enc Tryz.prog Tryz.f4 Rows.newsPathsRow.domain false) (Rows.newsPathsSpec.post enc Tryz.prog Tryz.f4 false true false false):=by
 refine returnsInHanded_of_change (C:=Tryz.checked) Tryz.own started (by kernel_rfl) Tryz.func4
  (ChangeSpec.witness6 (enc:=enc) (C:=Tryz.checked) false ⟨#[],#[.agg #[.int .i64 0,.slice none 0 0,.slice none 0 0,.slice none 0 0],.slice none 0 0,.int .i64 0,.int .i64 0,.slice none 0 0],[]⟩ 8 (by kernel_rfl) (by kernel_rfl) (by kernel_rfl) (by kernel_rfl)) ?_
 intro W base args ds gs before hval0 hW hcnd _
 obtain ⟨p,q,hA0,hV,_,_,_⟩:=id hW
 obtain ⟨rfl,rfl⟩:=trodVars_none hV
 obtain ⟨ss,wU⟩:∃ ss,zEV Tryz.prog Tryz.f4.params.toList=some ss:=Option.isSome_iff_exists.1 (by kernel_rfl)
 have hX:ss.length≤1000:=by
  have h:((zEV Tryz.prog Tryz.f4.params.toList).map fun s=>Nat.ble s.length 1000)=some true:=by kernel_rfl
  rw [wU] at h
  simpa using h
 exact zVj zE4 hnm zMr hin Tryz.laidOut rfl Tryz.underlying4 (by kernel_rfl) (by kernel_rfl) (fun ds hd=>by match ds,hd with | [d0,d1,d2,d3,d4],_=>rfl) wU hX (newsPaths_gives ss wU) hval0 hW
theorem newsPaths_holds:Rows.NewsPathsSaid :=
 OpenClaim.holds_of_wide 4 Tryz.f4 rfl rfl rfl rfl rfl rfl rfl ⟨rfl,rfl,rfl,rfl,rfl⟩ rfl rfl rfl rfl rfl (by kernel_rfl) Tryz.func4 (by kernel_rfl)
  (of_decide_eq_true (by kernel_rfl)) (by unfold Func.isWrapper;first | (rw [if_pos (by decide +kernel)];kernel_rfl) | (rw [if_neg (by decide +kernel)];exact ⟨rfl,rfl⟩))
  (fun os started H enc _=>newsPaths_lifted os started H enc)
end Go.Proofs.YtppbomajegnkeaaGreat
