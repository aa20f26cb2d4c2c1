/- For whatever news, cries, evenings, cry and stands, the law NewsMends returns true and changes no argument: the gaps that a further cry mends, and those that none does, are as the reference tells them. -/
import Derived.Test.YtppbomajegnkeaaGreatPh
import Derived.Test.YtppbomajegnkeaaGreatPd
import Derived.Test.YtppbomajegnkeaaGreatPi
import Derived.Test.YtppbomajegnkeaaGreatPe
set_option linter.unusedVariables false
set_option linter.unusedSimpArgs false
set_option linter.unusedSectionVars false
set_option maxRecDepth 10000
set_option maxHeartbeats 4000000
namespace Go.Eng
open Go Go.Proofs
def zGu (n:Nw) (cs:List (Int×Int)):Bool:=decide ((n.l.length:Int)>20)||(decide ((n.n.length:Int)>12)||(decide ((n.s.length:Int)>10)||(decide ((cs.length:Int)>24)||n.s.any fun l=>decide ((l.length:Int)>14))))
theorem f16 (n:Nw) (cs:List (Int×Int)):FG 16 [nwV n,prs cs] (.bool (zGu n cs)):=by
 refine zAf Tryz.f16 ?_
 refine zAd 2<|zAa<|zAg<|zAd 2<|S_a [(0,.n n.l.length)] (ap (lnS prV n.l) an)<|zAc 2<|zDa 11 ((↑n.l.length:Int)>20) (fun k0=>(zAc 16<|zAa<|zBM<|zAd 1<|zAa<|zAm<|E_a [] an (PV.bool true) [] ?_ rfl)) (fun k0=>(zAc 2<|S_a [(0,.n n.n.length)] (ap (lnS ntV n.n) an)<|zAc 3<|zDa 17 ((↑n.n.length:Int)>12) (fun k1=>(zAc 10<|zAa<|zBM<|zAd 1<|zAa<|zAm<|E_a [] an (PV.bool true) [] ?_ rfl)) (fun k1=>(zAc 2<|S_a [(0,.n n.s.length)] (ap (lnS zAw n.s) an)<|zAc 3<|zDa 23 ((↑n.s.length:Int)>10) (fun k2=>(zAc 4<|zAa<|zBM<|zAd 1<|zAa<|zAm<|E_a [] an (PV.bool true) [] ?_ rfl)) (fun k2=>(zAc 1<|S_a [(0,.n cs.length)] (ap (lnS prV cs) an)<|zAc 2<|zAa<|zBZ ((↑cs.length:Int)>24) (fun k3=>(zAd 1<|zAa<|zAm<|E_a [] an (PV.bool true) [] ?_ rfl)) (fun k3=>(zAj<|zAg<|zAd 2<|S_a [(0,.n n.s.length)] (ap (lnS zAw n.s) an)<|zAc 1<|zAa<|zAh 0 ?_))))))))
 ·simp only [zGu,decide_eq_true k0,Bool.true_or]
 ·simp only [zGu,decide_eq_true k1,Bool.true_or,Bool.or_true]
 ·simp only [zGu,decide_eq_true k2,Bool.true_or,Bool.or_true]
 ·simp only [zGu,decide_eq_true k3,Bool.true_or,Bool.or_true]
 have e:zGu n cs=n.s.any fun l=>decide ((l.length:Int)>14):=by
  simp only [zGu,decide_eq_false k0,decide_eq_false k1,decide_eq_false k2,decide_eq_false k3,Bool.false_or]
 rw [e]
 refine zAo (fun i=>i≤n.s.length∧∀ j,j<i→decide (((n.s.getD j []).length:Int)>14)=false) (fun (i:Nat)=>[(31,I (i:Nat))]) (fun i=>n.s.length-i) (0:Nat) ⟨Nat.zero_le _,fun j hj=>absurd hj (Nat.not_lt_zero j)⟩ fun i ⟨hi,ha⟩=>?_
 by_cases yB:i<n.s.length
 ·have uh:decide (((n.s.getD i []).length:Int)>14)=true→(n.s.any fun l=>decide ((l.length:Int)>14))=true:=fun h=>by
   rw [zAq yB] at h
   exact List.any_eq_true.2 ⟨_,List.getElem_mem yB,h⟩
  have jG:decide (((n.s.getD i []).length:Int)>14)=false→∀ j,j<i+1→decide (((n.s.getD j []).length:Int)>14)=false:=fun h j hj=>by
   rcases Nat.lt_succ_iff_lt_or_eq.1 hj with h2 | rfl
   ·exact ha j h2
   ·exact h
  clear ha
  refine zAd 1<|zAa<|zAg<|zAJ ((↑i:Int)<(↑n.s.length:Int)) (by omega)<|zAj<|zAg<|zAh 1<|zAg<|zAe<|S_a [(2,.v (zAw (n.s.getD i [])))] (ap (zBx [] (by omega):(List.map zAw n.s)[i]? = some (zAw (n.s.getD i []))) an)<|zAc 2<|zAa<|zAd 1<|S_a [(0,.n ((n.s.getD i []).length))] (ap (lnS I (n.s.getD i [])) an)<|zAc 1<|zAa<|zBZ ((↑(n.s.getD i []).length:Int)>14) (fun k4=>(zAd 1<|zAa<|zAm<|E_a [] an (PV.bool true) [] ?_ rfl)) (fun k4=>(zAj<|zAe<|S_a [(1,.v (I (↑(i+1):Int)))] (ap (wrN i) an)<|zAc 1<|zAa ?_))
  ·rw [uh (decide_eq_true k4)]
  ·exact ⟨i+1,⟨by omega,jG (decide_eq_false k4)⟩,by omega,by kernel_rfl,by kernel_rfl⟩
 ·have hx:(n.s.any fun l=>decide ((l.length:Int)>14))=false:=by
   rw [List.any_eq_false]
   intro x hx
   obtain ⟨j,hj,rfl⟩:=List.getElem_of_mem hx
   have:=ha j (by omega)
   rw [zAq hj] at this
   rw [this];simp
  rw [hx]
  clear ha
  refine zAd 1<|zAa<|zAg<|zAK ((↑i:Int)<(↑n.s.length:Int)) (by omega)<|zAs 0<|zAd 1<|zAa<|zAm<|E_a [] an (PV.bool false) [] rfl rfl
theorem f18 (n:Nw) (hs:Small n):FG 18 [nwV n] (nwO n):=by
 have h1:=hs.hl
 have h2:=hs.hn
 have h3:=hs.hs
 have h4:=hs.hr
 refine zAf Tryz.f18 ?_
 refine zAd 2<|zAa<|zAd 4<|S_a [(6,.ret (PV.own 2 (List.map prV n.l)) [])] (ap (f87 n.l (by omega)) an)<|zAc 2<|S_a [(6,.ret (PV.own 2 (List.map ntV n.n)) [])] (ap (f88 n.n (by omega)) an)<|zAc 2<|S_a [(6,.ret (PV.own 1 (List.map zDX n.s)) [])] (ap (f89 n.s (by omega) (by omega)) an)<|zAc 2<|zAa<|zAm<|E_a [(4,.yes),(1,.v (PV.own 2 (List.map prV n.l))),(1,.yes),(1,.v (PV.own 2 (List.map ntV n.n))),(1,.yes),(1,.v (PV.own 1 (List.map zDX n.s)))] (ap (blz (List.map prV n.l))<|ap ((zAE zAz):PV.own 2 (List.take (List.map prV n.l).length (List.drop 0 (List.map prV n.l)))=PV.own 2 (List.map prV n.l))<|ap (blz (List.map ntV n.n))<|ap ((zAE zAz):PV.own 2 (List.take (List.map ntV n.n).length (List.drop 0 (List.map ntV n.n)))=PV.own 2 (List.map ntV n.n))<|ap (blz (List.map zDX n.s))<|ap ((zAE zAz):PV.own 1 (List.take (List.map zDX n.s).length (List.drop 0 (List.map zDX n.s)))=PV.own 1 (List.map zDX n.s)) an) (PV.agg [I n.h,PV.own 2 (List.map prV n.l),PV.own 2 (List.map ntV n.n),PV.own 1 (List.map zDX n.s)]) [] rfl rfl
theorem f33 (a:Nw) (hs:Small a):FG 33 [nwV a,nwV a] (.bool true):=by
 have h1:=hs.hl
 have h2:=hs.hn
 have h3:=hs.hs
 have h4:=hs.hr
 refine zAf Tryz.f33 ?_
 refine zAd 3<|zAa<|zAd 6<|zFP 10 (a.h=a.h) (by omega) (zAc 4<|S_a [(8,.ret (PV.bool (decide (a.l=a.l))) [])] (ap (f103 a.l a.l (by omega)) an)<|zAc 2<|zFP 17 (a.l=a.l) (by (simp;done)) (zAc 4<|S_a [(8,.ret (PV.bool (decide (a.n=a.n))) [])] (ap (f104 a.n a.n (by omega)) an)<|zAc 2<|zFP 24 (a.n=a.n) (by (simp;done)) (zAc 4<|S_a [(8,.ret (PV.bool (decide (a.s=a.s))) [])] (ap (f62 a.s a.s (by omega) ?_) an)<|zAc 2<|zAa<|zAm<|E_a [] an (PV.bool (decide (a.s=a.s))) [] (by simp [*]) rfl)))
 exact fun r hr=>by have:=h4 r hr;omega
theorem f19 (n:Nw) (hs:Small n):FG 19 [nwV n] (nwO n):=by
 have h1:=hs.hl
 have h2:=hs.hn
 have h3:=hs.hs
 have h4:=hs.hr
 refine zAf Tryz.f19 ?_
 refine zAd 2<|zAa<|zAd 4<|S_a [(6,.ret (PV.own 2 (List.map prV n.l)) [])] (ap (f87 n.l (by omega)) an)<|zAc 2<|S_a [(6,.ret (PV.own 1 (List.map zDX n.s)) [])] (ap (f89 n.s (by omega) (by omega)) an)<|zAc 3<|zAa<|zAg<|zAd 2<|S_a [(0,.n n.n.length)] (ap (lnS ntV n.n) an)<|zAc 1<|zAa<|zAh 0 ?_
 refine zAo (fun (i,q)=>i≤n.n.length∧q=n.n.take i) (fun (i,q)=>[(3,.box (.agg [I n.h,.own 2 (n.l.map prV),.own 2 (q.map ntV),.own 1 (n.s.map zDX)])),(18,I (i:Nat))]) (fun (i,_)=>n.n.length-i) ((0:Nat),([]:List (Int×Bool))) ⟨Nat.zero_le _,rfl⟩ fun (i,q) ⟨hi,hq⟩=>?_
 have km:q.length≤i:=by rw [hq,List.length_take];omega
 by_cases yB:i<n.n.length
 ·have yQ:=zBP (d:=default) yB
  rw [← hq] at yQ
  clear hq
  refine zAd 1<|zAa<|zAg<|zAJ ((↑i:Int)<(↑n.n.length:Int)) (by omega)<|zAj<|zAg<|zAh 1<|zAg<|zAe<|S_a [(2,.v (PV.agg [I (n.n.getD i default).fst,PV.bool (n.n.getD i default).snd]))] (ap (zBx default (by omega):(List.map ntV n.n)[i]? = some (PV.agg [I (n.n.getD i default).fst,PV.bool (n.n.getD i default).snd])) an)<|zAc 3<|zAa<|zAe<|zAc 1<|S_a [(1,.v (PV.bor 3 [(0,2)] 2 0 q.length))] (ap ((by simp):PV.bor 3 [(0,2)] 2 0 (List.map ntV q).length=PV.bor 3 [(0,2)] 2 0 q.length) an)<|zAc 2<|S_a [(4,.ob),(0,.ob),(0,.yes),(2,.v (PV.own 2 (List.map ntV (q++[n.n.getD i default]))))] (ap ((by exact zA9 (by simp only [List.length_map,zzLn,zA1]<;>omega)):(0+q.length).ble (List.map ntV q).length=true)<|ap ((by exact zA9 (by simp only [List.length_map,zzLn,zA1]<;>omega)):((List.map ntV q).length + [PV.agg [I (n.n.getD i default).fst,PV.bool (n.n.getD i default).snd]].length).ble zA1=true)<|ap ((by exact zBj (by simp<;>omega)):(0+q.length).beq (List.map ntV q).length=true)<|ap ((zAE (zB0 (by kernel_rfl))):PV.own 2 (List.map ntV q++[PV.agg [I (n.n.getD i default).fst,PV.bool (n.n.getD i default).snd]])=PV.own 2 (List.map ntV (q++[n.n.getD i default]))) an)<|zAc 2<|zAa<|zAe<|S_a [(1,.v (I (↑(i+1):Int)))] (ap (wrN i) an)<|zAc 1<|zAa ?_
  exact ⟨(i+1,q++[n.n.getD i default]),⟨by omega,yQ.symm⟩,by simp only;omega,by kernel_rfl,by kernel_rfl⟩
 ·have vH:q=n.n:=by rw [hq,List.take_of_length_le (by omega)]
  clear hq
  subst vH
  refine zAd 1<|zAa<|zAg<|zAK ((↑i:Int)<(↑n.n.length:Int)) (by omega)<|zAs 0<|zAd 1<|S_a [(4,.yes),(2,.yes),(2,.yes)] (ap ((by exact zBj (by simp<;>omega)):(Nat.beq 0 0&&(List.map prV n.l).length.beq (List.map prV n.l).length)=true)<|ap ((by exact zBj (by simp<;>omega)):(Nat.beq 0 0&&(List.map ntV n.n).length.beq (List.map ntV n.n).length)=true)<|ap ((by exact zBj (by simp<;>omega)):(Nat.beq 0 0&&(List.map zDX n.s).length.beq (List.map zDX n.s).length)=true) an)<|zAa<|zAm<|E_a [(4,.yes),(1,.v (PV.own 2 (List.map prV n.l))),(1,.yes),(1,.v (PV.own 2 (List.map ntV n.n))),(1,.yes),(1,.v (PV.own 1 (List.map zDX n.s)))] (ap (blz (List.map prV n.l))<|ap ((zAE zAz):PV.own 2 (List.take (List.map prV n.l).length (List.drop 0 (List.map prV n.l)))=PV.own 2 (List.map prV n.l))<|ap (blz (List.map ntV n.n))<|ap ((zAE zAz):PV.own 2 (List.take (List.map ntV n.n).length (List.drop 0 (List.map ntV n.n)))=PV.own 2 (List.map ntV n.n))<|ap (blz (List.map zDX n.s))<|ap ((zAE zAz):PV.own 1 (List.take (List.map zDX n.s).length (List.drop 0 (List.map zDX n.s)))=PV.own 1 (List.map zDX n.s)) an) (PV.agg [I n.h,PV.own 2 (List.map prV n.l),PV.own 2 (List.map ntV n.n),PV.own 1 (List.map zDX n.s)]) [] rfl rfl
theorem f21 (l:List (Int×Int)) (hl:l.length<1000000):FG 21 [prs l] (.own 2 (l.map prV)):=by
 refine zAf Tryz.f21 ?_
 refine zAd 1<|zAa<|zAd 1<|zAa<|zAg<|zAd 1<|S_a [(0,.n l.length)] (ap (lnS prV l) an)<|zAc 1<|zAa<|zAh 0 ?_
 refine zAo (fun (i,q)=>i≤l.length∧q=l.take i) (fun (i,q)=>[(3,.own 2 (q.map prV)),(8,I (i:Nat))]) (fun (i,_)=>l.length-i) ((0:Nat),([]:List (Int×Int))) ⟨Nat.zero_le _,rfl⟩ fun (i,q) ⟨hi,hq⟩=>?_
 have km:q.length≤i:=by rw [hq,List.length_take];omega
 by_cases yB:i<l.length
 ·have yQ:=zBP (d:=default) yB
  rw [← hq] at yQ
  clear hq
  refine zAd 1<|zAa<|zAg<|zAJ ((↑i:Int)<(↑l.length:Int)) (by omega)<|zAj<|zAg<|zAh 1<|zAg<|zAe<|S_a [(2,.v (PV.agg [I (l.getD i default).fst,I (l.getD i default).snd]))] (ap (zBx default (by omega):(List.map prV l)[i]? = some (PV.agg [I (l.getD i default).fst,I (l.getD i default).snd])) an)<|zAc 3<|zAa<|zAe<|zAc 3<|S_a [(4,.ob),(0,.ob),(0,.yes),(2,.v (PV.own 2 (List.map prV (q++[l.getD i default]))))] (ap (blz (List.map prV q))<|ap ((by exact zA9 (by simp only [List.length_map,zzLn,zA1]<;>omega)):((List.map prV q).length + [PV.agg [I (l.getD i default).fst,I (l.getD i default).snd]].length).ble zA1=true)<|ap ((by exact zBj (by simp<;>omega)):(0+(List.map prV q).length).beq (List.map prV q).length=true)<|ap ((zAE (zB0 (by kernel_rfl))):PV.own 2 (List.map prV q++[PV.agg [I (l.getD i default).fst,I (l.getD i default).snd]])=PV.own 2 (List.map prV (q++[l.getD i default]))) an)<|zAc 1<|zAa<|zAe<|S_a [(1,.v (I (↑(i+1):Int)))] (ap (wrN i) an)<|zAc 1<|zAa ?_
  exact ⟨(i+1,q++[l.getD i default]),⟨by omega,yQ.symm⟩,by simp only;omega,by kernel_rfl,by kernel_rfl⟩
 ·rw [List.take_of_length_le (by omega)] at hq
  rw [← hq]
  clear hq
  refine zAd 1<|zAa<|zAg<|zAK ((↑i:Int)<(↑q.length:Int)) (by omega)<|zAs 0<|zAd 1<|S_a [(2,.yes)] (ap ((by exact zBj (by simp<;>omega)):(Nat.beq 0 0&&(List.map prV q).length.beq (List.map prV q).length)=true) an)<|zAa<|zAm<|E_a [(1,.yes),(1,.v (PV.own 2 (List.map prV q)))] (ap (blz (List.map prV q))<|ap ((zAE zAz):PV.own 2 (List.take (List.map prV q).length (List.drop 0 (List.map prV q)))=PV.own 2 (List.map prV q)) an) (PV.own 2 (List.map prV q)) [] rfl rfl
theorem f25 (l:List (Int×Int)) (hl:l.length<1000000):FG 25 [prs l] (.own 2 (l.map prV)):=by
 refine zAf Tryz.f25 ?_
 refine zAd 1<|zAa<|zAd 1<|zAa<|zAg<|zAd 1<|S_a [(0,.n l.length)] (ap (lnS prV l) an)<|zAc 1<|zAa<|zAh 0 ?_
 refine zAo (fun (i,q)=>i≤l.length∧q=l.take i) (fun (i,q)=>[(3,.own 2 (q.map prV)),(8,I (i:Nat))]) (fun (i,_)=>l.length-i) ((0:Nat),([]:List (Int×Int))) ⟨Nat.zero_le _,rfl⟩ fun (i,q) ⟨hi,hq⟩=>?_
 have km:q.length≤i:=by rw [hq,List.length_take];omega
 by_cases yB:i<l.length
 ·have yQ:=zBP (d:=default) yB
  rw [← hq] at yQ
  clear hq
  refine zAd 1<|zAa<|zAg<|zAJ ((↑i:Int)<(↑l.length:Int)) (by omega)<|zAj<|zAg<|zAh 1<|zAg<|zAe<|S_a [(2,.v (PV.agg [I (l.getD i default).fst,I (l.getD i default).snd]))] (ap (zBx default (by omega):(List.map prV l)[i]? = some (PV.agg [I (l.getD i default).fst,I (l.getD i default).snd])) an)<|zAc 3<|zAa<|zAe<|zAc 3<|S_a [(4,.ob),(0,.ob),(0,.yes),(2,.v (PV.own 2 (List.map prV (q++[l.getD i default]))))] (ap (blz (List.map prV q))<|ap ((by exact zA9 (by simp only [List.length_map,zzLn,zA1]<;>omega)):((List.map prV q).length + [PV.agg [I (l.getD i default).fst,I (l.getD i default).snd]].length).ble zA1=true)<|ap ((by exact zBj (by simp<;>omega)):(0+(List.map prV q).length).beq (List.map prV q).length=true)<|ap ((zAE (zB0 (by kernel_rfl))):PV.own 2 (List.map prV q++[PV.agg [I (l.getD i default).fst,I (l.getD i default).snd]])=PV.own 2 (List.map prV (q++[l.getD i default]))) an)<|zAc 1<|zAa<|zAe<|S_a [(1,.v (I (↑(i+1):Int)))] (ap (wrN i) an)<|zAc 1<|zAa ?_
  exact ⟨(i+1,q++[l.getD i default]),⟨by omega,yQ.symm⟩,by simp only;omega,by kernel_rfl,by kernel_rfl⟩
 ·rw [List.take_of_length_le (by omega)] at hq
  rw [← hq]
  clear hq
  refine zAd 1<|zAa<|zAg<|zAK ((↑i:Int)<(↑q.length:Int)) (by omega)<|zAs 0<|zAd 1<|S_a [(2,.yes)] (ap ((by exact zBj (by simp<;>omega)):(Nat.beq 0 0&&(List.map prV q).length.beq (List.map prV q).length)=true) an)<|zAa<|zAm<|E_a [(1,.yes),(1,.v (PV.own 2 (List.map prV q)))] (ap (blz (List.map prV q))<|ap ((zAE zAz):PV.own 2 (List.take (List.map prV q).length (List.drop 0 (List.map prV q)))=PV.own 2 (List.map prV q)) an) (PV.own 2 (List.map prV q)) [] rfl rfl
end Go.Eng
set_option maxRecDepth 100000
set_option maxHeartbeats 4000000
namespace Go.Eng
open Go Go.Proofs
def zD3:Nw:=⟨4,[(0,1),(1,2),(2,3)],[(-1,false),(0,true)],[[0],[0,3]]⟩
def zFs:List (Int×Int):=[(0,1),(1,0)]
def zJk:List (Int×Int):=[(2,0),(3,0)]
theorem zUv:NwOk zD3:=zS8 (by decide +kernel)
theorem zKs:CrOk zD3 zFs:=zVb (by decide +kernel)
theorem zOp:zAT zD3 (zAL zD3 zFs (1:Int).toNat)=zJk:=by decide +kernel
theorem zV6:OffOk zD3 zFs 1 [0,1]:=⟨by decide +kernel,zPY (by decide +kernel),by decide,by decide⟩
theorem zWM:zCn zD3 (zAL zD3 (zFs++[(1,0)]) (1:Int).toNat) zJk=[]:=by decide +kernel
theorem zXu:zCn zD3 (zAL zD3 (zFs++[(1,1)]) (1:Int).toNat) zJk=zJk:=by decide +kernel
def zZU:List (PV×PV):=[(.agg [I 1,I 0],.sl []),(.agg [I 1,I 1],.sl (zJk.map prV))]
abbrev zR6:List PV:=[.addr 50000000 [] 0 0 none,.addr 50000001 [] 0 0 none,.addr 50000002 [] 0 0 none,.addr 50000003 [] 0 0 none,.addr 50000004 [] 0 0 none]
abbrev zQI (b:Bool) (l:List PV):List PV:=[.box (.bool b),.box (.own 2 l),.box (.own 2 [prV (1,0),prV (1,1)]),.box (.omap [(prV (1,0),.sl []),(prV (1,1),prs zJk)]),.box (.func 187 [] zR6)]
theorem zPJ:zDs Tryz.prog zLb 187 (.nils 0::prs zJk::zR6) (zQI false []) (.tup []) (zQI true [prV (1,1)]):=zDs.closed 60
theorem zR3:FG 134 [zDv zD3 zFs,.agg [zXC zD3 zFs 1 zJk],prs zJk,I 0,zAw [0,1]] (.tup [.own 2 [.agg [I 1,I 1]],.bool true]):=by
 have h0:FG 173 [.agg [I 1,I 0],.ref (zDv zD3 zFs),.ref (prs zJk),.ref (I 1)] (.sl []):=by
  have:=f173 zD3 zFs zJk 1 (1,0) zKs.w (by decide) (by decide) (by decide) (by decide) (by decide)
  rw [zWM] at this;exact this
 have h1:FG 173 [.agg [I 1,I 1],.ref (zDv zD3 zFs),.ref (prs zJk),.ref (I 1)] (.sl (zJk.map prV)):=by
  have:=f173 zD3 zFs zJk 1 (1,1) zKs.w (by decide) (by decide) (by decide) (by decide) (by decide)
  rw [zXu] at this;exact this
 refine zAf Tryz.f134 ?_
 refine zAd 3<|zAa<|zAd 3<|zAa<|zAd 1<|zAa<|zAg<|zAd 1<|zAc 1<|zAc 1<|zAa<|zAh 0 ?_
 refine zAo (fun j=>j≤2) (fun (j:Nat)=>[(12,.box (.omap (zZU.take j))),(13,.box (.own 2 (([(1,0),(1,1)]:List (Int×Int)).take j |>.map prV))),(23,I (j:Nat))]) (fun j=>2-j) (0:Nat) (by omega) fun j hj=>?_
 have hj3:j=0∨j=1∨j=2:=by omega
 rcases hj3 with e | e | e
 ·subst e
  refine zAd 1<|zAa<|zAg<|zBM<|zAj<|zAg<|zAh 1<|zAd 3<|zAa<|zAd 10<|zAa<|zAe<|zAc 2<|zAc 1<|zAc 6<|S_a [(9,.ret (PV.sl []) [])] (ap h0 an)<|zAc 4<|zAa<|zAe<|zAc 2<|zAa ?_
  exact ⟨1,by omega,by omega,by kernel_rfl,by kernel_rfl⟩
 ·subst e
  refine zAd 1<|zAa<|zAg<|zBM<|zAj<|zAg<|zAh 1<|zAd 3<|zAa<|zAd 10<|zAa<|zAe<|zAc 2<|zAc 1<|zAc 6<|S_a [(9,.ret (prs zJk) [])] (ap h1 an)<|zAc 4<|zAa<|zAe<|zAc 2<|zAa ?_
  exact ⟨2,by omega,by omega,by kernel_rfl,by kernel_rfl⟩
 ·subst e
  have y9:=zPJ
  refine zAd 1<|zAa<|zAg<|zAW<|zAs 0<|zAd 1<|zAa<|zAd 2<|zAa<|zAd 1<|zAa<|zAd 2<|zAa<|zAd 2<|S_a [(8,.ret (PV.tup []) (zQI true [prV (1,1)]))] (ap y9 an)<|zAa<|zAd 1<|zAc 1<|zAc 1<|zAc 1<|zAa<|zAm<|E_a [] an (PV.tup [PV.own 2 [PV.agg [I (1,1).fst,I (1,1).snd]],PV.bool true]) [] rfl rfl
theorem zQo:FG 57 [nwV zD3,prs zFs,I 1,zAw [0,1]] (.tup [.own 2 [.agg [I 1,I 1]],I 0]):=by
 have ho:=f121_1 zD3 zFs 1 [0,1] zV6 (by decide)
 rw [zOp] at ho
 have uR:FG 135 [zDv zD3 zFs,prs zJk,I 0] (.own 2 (zJk.map prV)):=by
  have:=f135 zD3 zFs zJk 0 zUv (by decide) (by decide)
  rwa [show ofL zD3 0 zJk=zJk from by decide +kernel] at this
 have hc:=zR3
 refine zAf Tryz.f57 ?_
 refine zAd 3<|zAa<|zAd 4<|S_a [(12,.ret (PV.tup [zDv zD3 zFs,prs zJk,PV.agg [zXC zD3 zFs 1 zJk],I 0]) [])] (ap ho an)<|zAc 10<|zAa<|zAg<|zAd 2<|zAa<|zAW<|zAj<|zAd 1<|zAa<|zAg<|zAd 2<|zAc 1<|zAc 1<|zAa<|zAh 0 ?_
 refine zAo (fun j=>j≤2) (fun (j:Nat)=>[(14,.own 2 (([(1,1)]:List (Int×Int)).take j |>.map prV)),(34,I (j:Nat))]) (fun j=>2-j) (0:Nat) (by omega) fun j hj=>?_
 have hj3:j=0∨j=1∨j=2:=by omega
 rcases hj3 with e | e | e
 ·subst e
  refine zAd 1<|zAa<|zAg<|zBM<|zAj<|zAg<|zAh 1<|zAd 2<|zAa<|zAg<|zAd 8<|zAa<|zAW<|zAj<|zAd 5<|S_a [(9,.ret (PV.own 2 (List.map prV zJk)) [])] (ap uR an)<|zAc 2<|S_a [(14,.ret (PV.tup [PV.own 2 [PV.agg [I 1,I 1]],PV.bool true]) [])] (ap hc an)<|zAc 5<|zAa<|zAg<|zAd 2<|zAa<|zAW<|zAj<|zAe<|zAc 4<|zAa<|zAe<|zAc 2<|zAa ?_
  exact ⟨1,by omega,by omega,by kernel_rfl,by kernel_rfl⟩
 ·subst e
  refine zAd 1<|zAa<|zAg<|zBM<|zAj<|zAg<|zAh 1<|zAd 2<|zAa<|zAg<|zAd 8<|zAa<|zBM<|zAs 1<|zAe<|zAc 2<|zAa ?_
  exact ⟨2,by omega,by omega,by kernel_rfl,by kernel_rfl⟩
 ·subst e
  refine zAd 1<|zAa<|zAg<|zAW<|zAs 0<|zAd 3<|zAa<|zAm<|E_a [] an (PV.tup [PV.own 2 [PV.agg [I (1,1).fst,I (1,1).snd]],I 0]) [] rfl rfl
end Go.Eng
set_option maxRecDepth 10000
set_option maxHeartbeats 4000000
namespace Go.Eng
open Go Go.Proofs
theorem f38_2 (n:Nw) (cs:List (Int×Int)) (h:Int) (x:Int) (ho:CrOk n cs) (hh:0≤h∧h<n.h) (hx:0≤x∧x<n.n.length) (hm:∀ j,j≤12→(zAL n cs j).getD (h.toNat*8+((zAk n).getD x.toNat 0).toNat) 0≠x):FG 38 [nwV n,prs cs,I h,I x] (.tup [.own 1 [],I 6]):=by
 have hn:=ho.nw
 have kg:=ho.w
 have hb:=hn.h
 have ka:=hn.nl
 have hin:inB x 0 (n.n.length-1)=true:=by simp only [inB,Bool.and_eq_true,decide_eq_true_eq];omega
 have hih:inB h 0 (n.h-1)=true:=by simp only [inB,Bool.and_eq_true,decide_eq_true_eq];omega
 have hfb:=zCj hn x.toNat (by omega)
 refine zAf Tryz.f38 ?_
 refine zAd 4<|zAa<|zAd 2<|S_a [(8,.ret (PV.tup [zDv n cs,I 0]) [])] (ap (f99_1 n cs (by omega)) an)<|zAc 5<|zAa<|zAg<|zAh 0<|zAd 3<|zAa<|zAW<|zAd 2<|S_a [(8,.ret (PV.bool (inB h 0 (n.h-1))) [])] (ap (f109 n h (by omega)) an)<|zAc 2<|zDt 32 (!inB h 0 (n.h-1)) (fun k0=>(zAc 6<|zAa<|zBM<|zAd 2<|zAa<|zAm<|E_a [] an (PV.tup [PV.own 1 [],I 1]) [] ?_ rfl)) (fun k0=>(zAc 2<|S_a [(8,.ret (PV.bool (inB x 0 ((↑n.n.length:Int)-1))) [])] (ap (f106 n x (by first | omega | (simp<;>omega))) an)<|zAc 3<|zAa<|zDf (!inB x 0 ((↑n.n.length:Int)-1)) (fun k1=>(zAd 2<|zAa<|zAm<|E_a [] an (PV.tup [PV.own 1 [],I 1]) [] ?_ rfl)) (fun k1=>(zAj<|zAd 4<|S_a [(0,.ob),(1,.ob),(0,.v ((I ((zAk n).getD x.toNat 0)).ref))] (ap ((by exact zAr (by omega)):decide (0≤x)=true)<|ap ((by exact zAr (by omega)):decide (x.toNat<8)=true)<|ap (zGQ (F:=zAk n) (m:=8) (j:=x.toNat) (by omega):zCo (PV.agg (zAQ (zAk n) 8)).ref (x.toNat*(fun x=>x.size) Tryz.prog.types[3]) none=some (I ((zAk n).getD x.toNat 0)).ref) an)<|zAc 3<|zAa<|zAd 1<|S_a [(5,.ret (hdV (zOf n cs)) [])] (ap (f100 n cs (by omega)) an)<|zAc 3<|zAa<|zAg<|zAh 1 ?_))))
 ·exact absurd (by assumption:(!inB h 0 (n.h-1))=true) (by rw [hih];simp)
 ·exact absurd (by assumption:(!inB x 0 (n.n.length-1))=true) (by rw [hin];simp)
 ·generalize hc:((zAk n).getD x.toNat 0)=c at *
  refine zAo (fun (j,S)=>j≤12∧S=zQV n cs (j+1)) (fun (j,S)=>[(13,zUC S)]) (fun (j,_)=>12-j) ((0:Nat),[zOf n cs]) ⟨by omega,rfl⟩ fun (j,S) ⟨hj,hS⟩=>?_
  have hSl:S.length=j+1:=by rw [hS];simp [zQV]
  have qH:S.getD (S.length-1) []=zAL n cs j:=by rw [hSl,hS];exact zLs (by omega)
  have hwl:(S.getD (S.length-1) []).length=80:=by rw [qH];exact zCT j
  have hI:=hm j hj
  rw [← qH] at hI
  have hSS:S++[zDZ n (S.getD (S.length-1) [])]=zQV n cs (j+1+1):=by rw [zMy (k:=j+1),← hS,qH];rfl
  by_cases wI:j<12
  ·refine zAg<|zAg<|zAe<|S_a [(1,.v (PV.bor 13 [(0,0)] 80 0 S.length))] (ap ((by simp):PV.bor 13 [(0,0)] 80 0 (List.map hdV S).length=PV.bor 13 [(0,0)] 80 0 S.length) an)<|S_a [(1,.v (PV.bor 13 [(0,0)] 80 0 S.length))] (ap ((by simp):PV.bor 13 [(0,0)] 80 0 (List.map hdV S).length=PV.bor 13 [(0,0)] 80 0 S.length) an)<|zAc 1<|S_a [(1,.v (I (↑(S.length-1):Int)))] (ap ((zCP (by omega) (by omega)):I (IntKind.i64.wrap ((↑S.length:Int)-1))=I (↑(S.length-1):Int)) an)<|zAc 2<|S_a [(2,.ob),(1,.n (S.length-1))] (ap ((by exact zAr (by omega)):decide (S.length-1<S.length)=true)<|ap ((by simp):some (0+(S.length-1))=some (S.length-1)) an)<|S_a [(0,.ob),(1,.ob)] (ap ((by exact zAr (by omega)):decide (0≤h)=true)<|ap ((by exact zAr (by omega)):decide (h.toNat<10)=true) an)<|S_a [(0,.ob),(1,.ob)] (ap ((by exact zAr (by omega)):decide (0≤c)=true)<|ap ((by exact zAr (by omega)):decide (c.toNat<8)=true) an)<|S_a [(0,.cs true ([I ((S.getD (S.length-1) []).getD (h.toNat*8+c.toNat) 0)]))] (ap (zDb (q:=PV.own 80 (List.map hdV S)) (xs:=List.map hdV S) (x:=PV.agg (zAQ (S.getD (S.length-1) []) 80)) (zKO (xs:=[PV.own 80 (List.map hdV S)]) (x:=PV.own 80 (List.map hdV S)) (y:=PV.own 80 (List.map hdV S)) rfl rfl) (zBx [] (by omega)) (zFj (F:=S.getD (S.length-1) []) (m:=80) (j:=h.toNat*8+c.toNat) (by first | rfl | exact zB3 (by kernel_rfl) | exact zB5 (by kernel_rfl) | exact zDN (by kernel_rfl) (by kernel_rfl) | exact zDV (by kernel_rfl) | exact zD5 (by kernel_rfl) (by kernel_rfl) | exact zDO (by kernel_rfl) | (simp;done)) (by omega)):zAv 13 (PV.own 80 (List.map hdV S)).box [(0,0)] (S.length-1) (0+h.toNat*(fun x=>x.size) Tryz.prog.types[128]+c.toNat*(fun x=>x.size) Tryz.prog.types[3]) 1=some (true,[I ((S.getD (S.length-1) []).getD (h.toNat*8+c.toNat) 0)])) an)<|zAc 2<|zAa<|zCH ((S.getD (S.length-1) []).getD (h.toNat*8+c.toNat) 0=x) (by omega)<|zAj<|zAh 2<|zAg<|zAg<|zAe<|S_a [(1,.v (PV.bor 13 [(0,0)] 80 0 S.length))] (ap ((by simp):PV.bor 13 [(0,0)] 80 0 (List.map hdV S).length=PV.bor 13 [(0,0)] 80 0 S.length) an)<|zAc 2<|zAa<|zAK ((↑S.length:Int)>12) (by omega)<|zAj<|zAe<|S_a [(1,.v (PV.bor 13 [(0,0)] 80 0 S.length))] (ap ((by simp):PV.bor 13 [(0,0)] 80 0 (List.map hdV S).length=PV.bor 13 [(0,0)] 80 0 S.length) an)<|zAc 1<|S_a [(1,.v (PV.bor 13 [(0,0)] 80 0 S.length))] (ap ((by simp):PV.bor 13 [(0,0)] 80 0 (List.map hdV S).length=PV.bor 13 [(0,0)] 80 0 S.length) an)<|S_a [(1,.v (PV.bor 13 [(0,0)] 80 0 S.length))] (ap ((by simp):PV.bor 13 [(0,0)] 80 0 (List.map hdV S).length=PV.bor 13 [(0,0)] 80 0 S.length) an)<|zAc 1<|S_a [(1,.v (I (↑(S.length-1):Int)))] (ap ((zCP (by omega) (by omega)):I (IntKind.i64.wrap ((↑S.length:Int)-1))=I (↑(S.length-1):Int)) an)<|S_a [(2,.ob),(1,.n (S.length-1))] (ap ((by exact zAr (by omega)):decide (S.length-1<S.length)=true)<|ap ((by simp):some (0+(S.length-1))=some (S.length-1)) an)<|S_a [(0,.cs true (zAQ (S.getD (S.length-1) []) 80))] (ap (zDb (q:=PV.own 80 (List.map hdV S)) (xs:=List.map hdV S) (x:=PV.agg (zAQ (S.getD (S.length-1) []) 80)) (zKO (xs:=[PV.own 80 (List.map hdV S)]) (x:=PV.own 80 (List.map hdV S)) (y:=PV.own 80 (List.map hdV S)) rfl rfl) (zBx [] (by omega)):zAv 13 (PV.own 80 (List.map hdV S)).box [(0,0)] (S.length-1) 0 Tryz.prog.types[130].size=some (true,zAQ (S.getD (S.length-1) []) 80)) an)<|S_a [(7,.ret (hdV (zDZ n (S.getD (S.length-1) []))) [])] (ap (f101 n cs (S.getD (S.length-1) []) (by omega) (by omega)) an)<|zAc 1<|S_a [(4,.ob),(0,.ob),(0,.yes),(2,.v (PV.own 80 (List.map hdV (S++[zDZ n (S.getD (S.length-1) [])]))))] (ap ((by exact zA9 (by simp only [List.length_map,zzLn,zA1]<;>omega)):(0+S.length).ble (List.map hdV S).length=true)<|ap ((by exact zA9 (by simp only [List.length_map,zzLn,zA1]<;>omega)):((List.map hdV S).length + [PV.agg (zAQ (zDZ n (S.getD (S.length-1) [])) 80)].length).ble zA1=true)<|ap ((by exact zBj (by simp<;>omega)):(0+S.length).beq (List.map hdV S).length=true)<|ap ((zAE (zB0 (by kernel_rfl))):PV.own 80 (List.map hdV S++[PV.agg (zAQ (zDZ n (S.getD (S.length-1) [])) 80)])=PV.own 80 (List.map hdV (S++[zDZ n (S.getD (S.length-1) [])]))) an)<|zAc 1<|zAa ?_
   exact ⟨(j+1,S++[zDZ n (S.getD (S.length-1) [])]),⟨by omega,hSS⟩,by simp only;omega,by kernel_rfl,by kernel_rfl⟩
  ·refine zAg<|zAg<|zAe<|S_a [(1,.v (PV.bor 13 [(0,0)] 80 0 S.length))] (ap ((by simp):PV.bor 13 [(0,0)] 80 0 (List.map hdV S).length=PV.bor 13 [(0,0)] 80 0 S.length) an)<|S_a [(1,.v (PV.bor 13 [(0,0)] 80 0 S.length))] (ap ((by simp):PV.bor 13 [(0,0)] 80 0 (List.map hdV S).length=PV.bor 13 [(0,0)] 80 0 S.length) an)<|zAc 1<|S_a [(1,.v (I (↑(S.length-1):Int)))] (ap ((zCP (by omega) (by omega)):I (IntKind.i64.wrap ((↑S.length:Int)-1))=I (↑(S.length-1):Int)) an)<|zAc 2<|S_a [(2,.ob),(1,.n (S.length-1))] (ap ((by exact zAr (by omega)):decide (S.length-1<S.length)=true)<|ap ((by simp):some (0+(S.length-1))=some (S.length-1)) an)<|S_a [(0,.ob),(1,.ob)] (ap ((by exact zAr (by omega)):decide (0≤h)=true)<|ap ((by exact zAr (by omega)):decide (h.toNat<10)=true) an)<|S_a [(0,.ob),(1,.ob)] (ap ((by exact zAr (by omega)):decide (0≤c)=true)<|ap ((by exact zAr (by omega)):decide (c.toNat<8)=true) an)<|S_a [(0,.cs true ([I ((S.getD (S.length-1) []).getD (h.toNat*8+c.toNat) 0)]))] (ap (zDb (q:=PV.own 80 (List.map hdV S)) (xs:=List.map hdV S) (x:=PV.agg (zAQ (S.getD (S.length-1) []) 80)) (zKO (xs:=[PV.own 80 (List.map hdV S)]) (x:=PV.own 80 (List.map hdV S)) (y:=PV.own 80 (List.map hdV S)) rfl rfl) (zBx [] (by omega)) (zFj (F:=S.getD (S.length-1) []) (m:=80) (j:=h.toNat*8+c.toNat) (by first | rfl | exact zB3 (by kernel_rfl) | exact zB5 (by kernel_rfl) | exact zDN (by kernel_rfl) (by kernel_rfl) | exact zDV (by kernel_rfl) | exact zD5 (by kernel_rfl) (by kernel_rfl) | exact zDO (by kernel_rfl) | (simp;done)) (by omega)):zAv 13 (PV.own 80 (List.map hdV S)).box [(0,0)] (S.length-1) (0+h.toNat*(fun x=>x.size) Tryz.prog.types[128]+c.toNat*(fun x=>x.size) Tryz.prog.types[3]) 1=some (true,[I ((S.getD (S.length-1) []).getD (h.toNat*8+c.toNat) 0)])) an)<|zAc 2<|zAa<|zCH ((S.getD (S.length-1) []).getD (h.toNat*8+c.toNat) 0=x) (by omega)<|zAj<|zAh 2<|zAg<|zAg<|zAe<|S_a [(1,.v (PV.bor 13 [(0,0)] 80 0 S.length))] (ap ((by simp):PV.bor 13 [(0,0)] 80 0 (List.map hdV S).length=PV.bor 13 [(0,0)] 80 0 S.length) an)<|zAc 2<|zAa<|zAJ ((↑S.length:Int)>12) (by omega)<|zAd 2<|zAa<|zAm<|E_a [] an (PV.tup [PV.own 1 [],I 6]) [] rfl rfl
end Go.Eng
set_option maxRecDepth 100000
set_option maxHeartbeats 4000000
namespace Go.Eng
open Go Go.Proofs
theorem zVS:FG 83 [] (.tup [nwO zD3,.own 2 (zFs.map prV)]):=zDs.closed 20
theorem zTf:FG 22 [nwV zD3,prs zFs,I 1] (.tup [.own 2 [.agg [I 2,I 0],.agg [I 3,I 0]],I 0]):=by
 have:=f22_1 zD3 zFs 1 (zPY (by decide +kernel))
 rw [zOp] at this;exact this
theorem zN4:FG 29 [nwV zD3,prs zFs] (.tup [I 3,I 0]):=f29_1 zD3 zFs 3 zKs (by decide) (by decide +kernel) (by decide +kernel)
theorem zSN:FG 38 [nwV zD3,prs zFs,I 2,I 0] (.tup [.own 1 [I 3,I 2],I 0]):=by
 have:=f38_1 zD3 zFs 2 0 1 zKs (by decide) (by decide) (by decide) (by decide +kernel) (by decide +kernel)
 rw [show bkL zD3 zFs ((zAk zD3).getD (0:Int).toNat 0).toNat 0 1 [2]=[3,2] from by decide +kernel] at this;exact this
theorem zWW:FG 38 [nwV zD3,prs zFs,I 1,I 0] (.tup [.own 1 [],I 6]):=f38_2 zD3 zFs 1 0 zKs (by decide) (by decide) (by decide +kernel)
theorem zQD:FG 31 [nwV zD3,prs zFs] (.tup [I 3,I 0]):=by
 have:=f31_1 zD3 zFs zKs
 rw [if_pos (show zAT zD3 (zAL zD3 zFs 12)=[] from by decide +kernel),if_pos (show zAT zD3 (zAL zD3 zFs 12)=[] from by decide +kernel),show zUU zD3 zFs 12=3 from by decide +kernel] at this;exact this
theorem zP1:FG 26 [nwV zD3,prs zFs,I 0] (.tup [.own 1 [I 3],I 0]):=by
 have:=f26_1 zD3 zFs 0 (zPY (by decide +kernel))
 rw [show zGT (msl zD3 (zAT zD3 (zAL zD3 zFs (0:Int).toNat)))=[3] from by decide +kernel] at this;exact this
theorem zSb:FG 86 [nwV zD3] (.tup [.own 1 [],I 0]):=by
 have:=f86_1 zD3 zUv
 rw [show zJR (zTM zD3) zD3.n.length=[] from by decide +kernel] at this;exact this
theorem f17:FG 17 [] (.bool true):=by
 have h1:=zVS
 have h2:=zTf
 have h3:=zN4
 have h4:=zSN
 have h5:=zWW
 have h6:=zQo
 have h7:=zQD
 have h8:=zP1
 have h9:=zSb
 have l1:FG 78 [.sl [.agg [I 2,I 0],.agg [I 3,I 0]],.sl [.agg [I 2,I 0],.agg [I 3,I 0]]] (.bool true):=f78 [(2,0),(3,0)] [(2,0),(3,0)] (by decide)
 have l2:FG 28 [.sl [I 3,I 2],.sl [I 3,I 2]] (.bool true):=f28 [3,2] [3,2] (by decide)
 have l3:FG 34 [.sl [.agg [I 1,I 1]],.sl [.agg [I 1,I 1]]] (.bool true):=f34 [(1,1)] [(1,1)] (by decide)
 have l4:FG 28 [.sl [I 3],.sl [I 3]] (.bool true):=f28 [3] [3] (by decide)
 refine zAf Tryz.f17 ?_
 refine zAd 1<|zAa<|zAg<|zAe<|S_a [(4,.ret (PV.tup [nwO zD3,PV.own 2 (List.map prV zFs)]) [])] (ap h1 an)<|zAc 6<|zAa<|zAd 2<|S_a [(21,.ret (PV.tup [PV.own 2 [PV.agg [I 2,I 0],PV.agg [I 3,I 0]],I 0]) [])] (ap h2 an)<|zAc 5<|zAa<|zAd 2<|S_a [(19,.ret (PV.tup [I 3,I 0]) [])] (ap h3 an)<|zAc 5<|zAa<|zAd 2<|S_a [(23,.ret (PV.tup [PV.own 1 [I 3,I 2],I 0]) [])] (ap h4 an)<|zAc 5<|zAa<|zAd 2<|S_a [(23,.ret (PV.tup [PV.own 1 [],I 6]) [])] (ap h5 an)<|zAc 5<|zAa<|zAg<|zAd 19<|S_a [(10,.ret (PV.bool true) [])] (ap l1 an)<|zAc 9<|S_a [(10,.ret (PV.bool true) [])] (ap l2 an)<|zAc 2<|zAa<|zAW<|zAj<|zAd 3<|S_a [(24,.ret (PV.tup [PV.own 2 [PV.agg [I 1,I 1]],I 0]) [])] (ap h6 an)<|zAc 5<|zAa<|zAd 2<|S_a [(19,.ret (PV.tup [I 3,I 0]) [])] (ap h7 an)<|zAc 5<|zAa<|zAd 2<|S_a [(21,.ret (PV.tup [PV.own 1 [I 3],I 0]) [])] (ap h8 an)<|zAc 5<|zAa<|zAd 1<|S_a [(16,.ret (PV.tup [PV.own 1 [],I 0]) [])] (ap h9 an)<|zAc 5<|zAa<|zAd 18<|S_a [(10,.ret (PV.bool true) [])] (ap l3 an)<|zAc 8<|S_a [(10,.ret (PV.bool true) [])] (ap l4 an)<|zAc 3<|zAc 4<|zAa<|zAm<|E_a [] an (PV.bool true) [] rfl rfl
end Go.Eng
set_option maxRecDepth 10000
set_option maxHeartbeats 4000000
namespace Go.Eng
open Go Go.Proofs
theorem zUN {n:Nw} {cs:List (Int×Int)} (h:zGu n cs=false):cs.length≤24∧Small n:=by
 simp only [zGu,Bool.or_eq_false_iff,decide_eq_false_iff_not,List.any_eq_false,decide_eq_true_eq] at h
 exact ⟨by omega,by omega,by omega,by omega,fun r hr=>by have:=h.2.2.2.2 r hr;omega⟩
end Go.Eng
set_option maxRecDepth 10000
set_option maxHeartbeats 4000000
namespace Go.Eng
open Go Go.Proofs
def zV1 (n:Nw) (e:Int):Bool:=(decide (n.h>6)&&decide (n.h≤10))||((decide ((n.s.length:Int)>4)&&decide ((n.s.length:Int)≤6))||(decide (e>4)&&decide (e≤12)))
theorem f41 (n:Nw) (e:Int):FG 41 [nwV n,I e] (.bool (zV1 n e)):=by
 refine zAf Tryz.f41 ?_
 refine zAd 2<|zAa<|zAd 4<|zDa 8 (n.h>6) (fun k0=>(zAc 5<|zDa 13 (n.h≤10) (fun k1=>(zAc 20<|zAa<|zAm<|E_a [] an (PV.bool true) [] ?_ rfl)) (fun k1=>(zAc 2<|S_a [(0,.n n.s.length)] (ap (lnS zAw n.s) an)<|zAc 2<|zDa 18 ((↑n.s.length:Int)>4) (fun k2=>(zAc 2<|S_a [(0,.n n.s.length)] (ap (lnS zAw n.s) an)<|zAc 4<|zDa 25 ((↑n.s.length:Int)≤6) (fun k3=>(zAc 8<|zAa<|zAm<|E_a [] an (PV.bool true) [] ?_ rfl)) (fun k3=>(zAc 3<|zDa 28 (e>4) (fun k4=>(zAc 5<|zAa<|zAm<|E_a [] an (PV.bool (decide (e≤12))) [] ?_ rfl)) (fun k4=>(zAc 5<|zAa<|zAm<|E_a [] an (PV.bool false) [] ?_ rfl)))))) (fun k2=>(zAc 10<|zDa 28 (e>4) (fun k5=>(zAc 5<|zAa<|zAm<|E_a [] an (PV.bool (decide (e≤12))) [] ?_ rfl)) (fun k5=>(zAc 5<|zAa<|zAm<|E_a [] an (PV.bool false) [] ?_ rfl)))))))) (fun k0=>(zAc 7<|S_a [(0,.n n.s.length)] (ap (lnS zAw n.s) an)<|zAc 2<|zDa 18 ((↑n.s.length:Int)>4) (fun k6=>(zAc 2<|S_a [(0,.n n.s.length)] (ap (lnS zAw n.s) an)<|zAc 4<|zDa 25 ((↑n.s.length:Int)≤6) (fun k7=>(zAc 8<|zAa<|zAm<|E_a [] an (PV.bool true) [] ?_ rfl)) (fun k7=>(zAc 3<|zDa 28 (e>4) (fun k8=>(zAc 5<|zAa<|zAm<|E_a [] an (PV.bool (decide (e≤12))) [] ?_ rfl)) (fun k8=>(zAc 5<|zAa<|zAm<|E_a [] an (PV.bool false) [] ?_ rfl)))))) (fun k6=>(zAc 10<|zDa 28 (e>4) (fun k9=>(zAc 5<|zAa<|zAm<|E_a [] an (PV.bool (decide (e≤12))) [] ?_ rfl)) (fun k9=>(zAc 5<|zAa<|zAm<|E_a [] an (PV.bool false) [] ?_ rfl))))))
 all_goals simp [zV1, *]
theorem zPX (n:Nw) (cs:List (Int×Int)) (e:Int) (c:Int×Int) (hs:Small n) (hl:cs.length≤24):∃ (l:List (Int×Int)) (x:Int),FG 42 [nwV n,prs cs,I e,prV c] (.tup [.own 2 (l.map prV),I x])∧FG 43 [nwV n,prs cs,I e,prV c] (.tup [.own 2 (l.map prV),I x])∧l.length≤80:=by
 by_cases yi:zBT n cs e=0
 ·have qm:=zPY yi
  cases hc:zEt n c with
  | true=>exact ⟨_,_,f42_1 n cs e c qm hc,f43_1 n cs e c qm hc,Nat.le_trans (List.length_filter_le _ _) (zDi qm.cr.nw)⟩
  | false=>exact ⟨[],_,f42_2 n cs e c qm hc,f43_2 n cs e c qm hc,by simp⟩
 ·exact ⟨[],_,f42_3 n cs e c hs (by omega) yi,f43_3 n cs e c hs (by omega) yi,by simp⟩
theorem zP7 (n:Nw) (cs:List (Int×Int)) (e:Int) (st:List Int) (hs:Small n) (hl:cs.length≤24) (yC:st.length≤8):∃ (v:PV) (l:List (Int×Int)) (x:Int),v = .tup [.sl (l.map prV),I x]∧FG 44 [nwV n,prs cs,I e,zAw st] v∧FG 45 [nwV n,prs cs,I e,zAw st] (.tup [.own 2 (l.map prV),I x])∧l.length≤80:=by
 by_cases ho:zB7 n cs e st=0
 ·have gc:=zWl ho
  exact ⟨_,_,_,rfl,f44_1 n cs e st gc (by omega),f45_1 n cs e st gc (by omega),Nat.le_trans (List.length_filter_le _ _) (zDi gc.ev.cr.nw)⟩
 ·exact ⟨_,[],_,rfl,f44_2 n cs e st hs (by omega) (by omega) ho,f45_2 n cs e st hs (by omega) (by omega) ho,by simp⟩
theorem zTO:FG 25 [.sl []] (.own 2 []):=f25 [] (by decide)
theorem zVK:FG 24 [.sl [],.sl []] (.bool true):=f24 [] [] (by decide)
theorem f5 (n:Nw) (cs:List (Int×Int)) (e:Int) (c:Int×Int) (st:List Int) (yC:st.length<9223372036854775808):FG 5 [nwV n,prs cs,I e,prV c,zAw st] (.bool true):=by
 cases hg:zGu n cs with
 | true =>
  have vO:FG 16 [nwV n,prs cs] (.bool true):=hg▸f16 n cs
  refine zAf Tryz.f5 ?_
  refine zAd 3<|zAa<|zAg<|zAd 2<|S_a [(8,.ret (PV.bool true) [])] (ap vO an)<|zAc 10<|zAa<|zBM<|zAg<|zAe<|S_a [(4,.ret (PV.bool true) [])] (ap f17 an)<|zAc 1<|zAa<|zAm<|E_a [] an (PV.bool true) [] rfl rfl
 | false =>
  have vO:FG 16 [nwV n,prs cs] (.bool false):=hg▸f16 n cs
  obtain ⟨yN,hs⟩:=zUN hg
  clear hg
  cases hw:zV1 n e with
  | true =>
   have h41:FG 41 [nwV n,I e] (.bool true):=hw▸f41 n e
   refine zAf Tryz.f5 ?_
   refine zAd 3<|zAa<|zAg<|zAd 2<|S_a [(8,.ret (PV.bool false) [])] (ap vO an)<|zAc 3<|S_a [(8,.ret (PV.bool true) [])] (ap h41 an)<|zAc 6<|zAa<|zBM<|zAg<|zAe<|S_a [(4,.ret (PV.bool true) [])] (ap f17 an)<|zAc 1<|zAa<|zAm<|E_a [] an (PV.bool true) [] rfl rfl
  | false =>
   have h41:FG 41 [nwV n,I e] (.bool false):=hw▸f41 n e
   clear hw
   by_cases hl8:st.length>8
   ·refine zAf Tryz.f5 ?_
    refine zAd 3<|zAa<|zAg<|zAd 2<|S_a [(8,.ret (PV.bool false) [])] (ap vO an)<|zAc 3<|S_a [(8,.ret (PV.bool false) [])] (ap h41 an)<|zAc 3<|S_a [(0,.n st.length)] (ap (lnS I st) an)<|zAc 2<|zAa<|zAJ ((↑st.length:Int)>8) (by omega)<|zAg<|zAe<|S_a [(4,.ret (PV.bool true) [])] (ap f17 an)<|zAc 1<|zAa<|zAm<|E_a [] an (PV.bool true) [] rfl rfl
   obtain ⟨G,x1,a1,b1,g1⟩:=zPX n cs e c hs yN
   obtain ⟨v,M,x2,hv,a2,b2,g2⟩:=zP7 n cs e st hs yN (by omega)
   refine zAf Tryz.f5 ?_
   have g0:=zTO
   have g3:=zVK
   refine zAd 3<|zAa<|zAg<|zAd 2<|S_a [(8,.ret (PV.bool false) [])] (ap vO an)<|zAc 3<|S_a [(8,.ret (PV.bool false) [])] (ap h41 an)<|zAc 3<|S_a [(0,.n st.length)] (ap (lnS I st) an)<|zAc 2<|zAa<|zAK ((↑st.length:Int)>8) (by omega)<|zAj<|zAd 1<|S_a [(6,.ret (nwO n) [])] (ap (f18 n (by omega)) an)<|zAc 1<|S_a [(6,.ret (nwO n) [])] (ap (f19 n (by omega)) an)<|zAc 1<|S_a [(6,.ret (PV.own 2 (List.map prV cs)) [])] (ap (f20 cs (by omega)) an)<|zAc 1<|S_a [(6,.ret (PV.own 1 (List.map I st)) [])] (ap (f35 st (by omega)) an)<|zAc 2<|S_a [(3,.v (PV.agg [I n.h,prs n.l,PV.sl (List.map ntV n.n),PV.sl (List.map zAw n.s)]))] (ap ((by simp only [show zAu (List.map prV n.l)=List.map prV n.l from (by first | exact zAD _ | exact zAN _ | exact zAI _ | exact zA5 (zAN _) | exact zA5 (zAI _) | exact zCw (by simp [zB4]) (zAD _)),show zAu (List.map ntV n.n)=List.map ntV n.n from (by first | exact zAD _ | exact zAN _ | exact zAI _ | exact zA5 (zAN _) | exact zA5 (zAI _) | exact zCw (by simp [zB4]) (zAD _)),show zAu (List.map zDX n.s)=List.map zAw n.s from (by first | exact zAD _ | exact zAN _ | exact zAI _ | exact zA5 (zAN _) | exact zA5 (zAI _) | exact zCw (by simp [zB4]) (zAD _))]):PV.agg [I n.h,PV.sl (zAu (List.map prV n.l)),PV.sl (zAu (List.map ntV n.n)),PV.sl (zAu (List.map zDX n.s))]=PV.agg [I n.h,prs n.l,PV.sl (List.map ntV n.n),PV.sl (List.map zAw n.s)]) an)<|zAc 3<|zAa<|zAd 1<|S_a [(6,.ret (PV.own 2 (List.map prV cs)) [])] (ap (f21 cs (by omega)) an)<|zAc 1<|zAa<|zAd 4<|S_a [(5,.ob),(0,.v (prs cs)),(6,.ret (PV.tup [PV.own 2 (List.map prV G),I x1]) []),(1,.yes)] (ap (blz (List.map prV cs))<|ap (frT prV cs)<|ap a1<|ap ((by exact zRq (zBF _) rfl):(PV.tup [PV.own 2 (List.map prV G),I x1]).free=true) an)<|zAc 5<|zAa<|zAd 4<|S_a [(6,.ob),(0,.v (prs n.l)),(1,.ob),(0,.v (PV.sl (List.map ntV n.n))),(1,.ob),(0,.v (PV.sl (List.map zAw n.s))),(1,.ob),(0,.v (prs cs)),(6,.ret (PV.tup [PV.own 2 (List.map prV G),I x1]) []),(1,.yes)] (ap (blz (List.map prV n.l))<|ap (frT prV n.l)<|ap (blz (List.map ntV n.n))<|ap (frT ntV n.n)<|ap (blz (List.map zDX n.s))<|ap (frC zDX zAw n.s)<|ap (blz (List.map prV cs))<|ap (frT prV cs)<|ap b1<|ap ((by exact zRq (zBF _) rfl):(PV.tup [PV.own 2 (List.map prV G),I x1]).free=true) an)<|zAc 5<|zAa<|zAg<|zAd 4<|zU0 63 (x1=x1) (by omega) (zAc 1<|S_a [(3,.ob),(0,.v (prs G)),(2,.ret (PV.own 2 (List.map prV G)) []),(1,.yes)] (ap (blz (List.map prV G))<|ap (frT prV G)<|ap (f25 G (by omega))<|ap ((by exact zBF _):(PV.own 2 (List.map prV G)).free=true) an)<|zAc 1<|S_a [(3,.ob),(0,.v (prs G)),(1,.ob),(0,.v (prs G)),(2,.ret (PV.bool (decide (G=G))) [])] (ap (blz (List.map prV G))<|ap (frT prV G)<|ap (blz (List.map prV G))<|ap (frT prV G)<|ap (f24 G G (by omega)) an)<|zAc 2<|zAa<|zFF (G=G) (by (simp;done))<|zAj<|zAd 4 ?_)
   subst hv
   by_cases hM:M=[]
   ·subst hM
    refine S_a [(5,.ob),(0,.v (prs cs)),(3,.ob),(0,.v (zAw st)),(2,.ret (PV.tup [PV.sl (List.map prV []),I x2]) [])] (ap (blz (List.map prV cs))<|ap (frT prV cs)<|ap (blz (List.map I st))<|ap (frT I st)<|ap a2 an)<|zAc 5<|zAa<|zAd 4<|S_a [(6,.ob),(0,.v (prs n.l)),(1,.ob),(0,.v (PV.sl (List.map ntV n.n))),(1,.ob),(0,.v (PV.sl (List.map zAw n.s))),(1,.ob),(0,.v (prs cs)),(6,.ret (PV.tup [PV.own 2 (List.map prV []),I x2]) [])] (ap (blz (List.map prV n.l))<|ap (frT prV n.l)<|ap (blz (List.map ntV n.n))<|ap (frT ntV n.n)<|ap (blz (List.map zDX n.s))<|ap (frC zDX zAw n.s)<|ap (blz (List.map prV cs))<|ap (frT prV cs)<|ap b2 an)<|zAc 5<|zAa<|zAd 4<|zFP 89 (x2=x2) (by omega) (zAc 1<|S_a [(6,.ret (PV.own 2 []) [])] (ap g0 an)<|zAc 1<|S_a [(10,.ret (PV.bool true) [])] (ap g3 an)<|zAc 4<|S_a [(3,.ob),(0,.v (zAw st)),(4,.ret (PV.bool (decide (st=st))) [])] (ap (blz (List.map I st))<|ap (frT I st)<|ap (f28 st st (by omega)) an)<|zAc 2<|zFP 100 (st=st) (by (simp;done)) (zAc 2<|S_a [(8,.ret (PV.bool true) [])] (ap (f33 n (by omega)) an)<|zAc 4<|S_a [(3,.ob),(0,.v (prs cs)),(4,.ret (PV.bool (decide (cs=cs))) [])] (ap (blz (List.map prV cs))<|ap (frT prV cs)<|ap (f34 cs cs (by omega)) an)<|zAc 2<|zFP 110 (cs=cs) (by (simp;done)) (S_a [(4,.ret (PV.bool true) [])] (ap f17 an)<|zAc 2<|zAa<|zAm<|E_a [] an (PV.bool true) [] rfl rfl)))
   ·have qK:(PV.tup [PV.sl (M.map prV),I x2]).free=false:=by
     cases M with
     | nil=>exact absurd rfl hM
     | cons y M=>rfl
    refine S_a [(5,.ob),(0,.v (prs cs)),(3,.ob),(0,.v (zAw st)),(2,.ret (PV.tup [prs M,I x2]) []),(1,.no),(2,.envv ([(1,prs cs),(2,I e),(4,zAw st),(5,(PV.agg [I n.h,prs n.l,PV.sl (List.map ntV n.n),PV.sl (List.map zAw n.s)]).box),(8,(PV.agg [I c.fst,I c.snd]).box),(11,(PV.agg [I n.h,prs n.l,PV.sl (List.map ntV n.n),PV.sl (List.map zAw n.s)]).box),(12,(PV.agg [I n.h,PV.own 2 (List.map prV n.l),PV.own 2 (List.map ntV n.n),PV.own 1 (List.map zDX n.s)]).box),(13,prs cs),(14,PV.own 1 (List.map I st)),(15,PV.own 2 (List.map prV cs)),(32,PV.bool (decide ((↑st.length:Int)>8))),(44,PV.tup [PV.bad,PV.bad]),(49,PV.tup [PV.bad,PV.bad]),(52,PV.tup [PV.bad,PV.bad]),(57,PV.tup [PV.bad,PV.bad]),(69,PV.bool !decide (G=G)),(71,PV.agg [I n.h,prs n.l,PV.sl (List.map ntV n.n),PV.sl (List.map zAw n.s)]),(72,prs cs),(73,I e),(74,PV.bor 14 [] 1 0 (List.map I st).length),(2000705,I x1),(2000833,I x1)]) (prs cs)),(3,.envv ([(1,prs cs),(2,I e),(4,zAw st),(5,(PV.agg [I n.h,prs n.l,PV.sl (List.map ntV n.n),PV.sl (List.map zAw n.s)]).box),(8,(PV.agg [I c.fst,I c.snd]).box),(11,(PV.agg [I n.h,prs n.l,PV.sl (List.map ntV n.n),PV.sl (List.map zAw n.s)]).box),(12,(PV.agg [I n.h,PV.own 2 (List.map prV n.l),PV.own 2 (List.map ntV n.n),PV.own 1 (List.map zDX n.s)]).box),(13,prs cs),(14,zAw st),(15,PV.own 2 (List.map prV cs)),(32,PV.bool (decide ((↑st.length:Int)>8))),(44,PV.tup [PV.bad,PV.bad]),(49,PV.tup [PV.bad,PV.bad]),(52,PV.tup [PV.bad,PV.bad]),(57,PV.tup [PV.bad,PV.bad]),(69,PV.bool !decide (G=G)),(71,PV.agg [I n.h,prs n.l,PV.sl (List.map ntV n.n),PV.sl (List.map zAw n.s)]),(72,prs cs),(73,I e),(74,zAw st),(2000705,I x1),(2000833,I x1)]) (zAw st)),(3,.ret (PV.tup [prs M,I x2]) [])] (ap (blz (List.map prV cs))<|ap (frT prV cs)<|ap (blz (List.map I st))<|ap (frT I st)<|ap a2<|ap ((by assumption):(PV.tup [prs M,I x2]).free=false)<|ap (And.intro (Eq.trans (by kernel_rfl:Env.frz [(1,prs cs),(2,I e),(4,zAw st),(5,(PV.agg [I n.h,prs n.l,PV.sl (List.map ntV n.n),PV.sl (List.map zAw n.s)]).box),(8,(PV.agg [I c.fst,I c.snd]).box),(11,(PV.agg [I n.h,prs n.l,PV.sl (List.map ntV n.n),PV.sl (List.map zAw n.s)]).box),(12,(PV.agg [I n.h,PV.own 2 (List.map prV n.l),PV.own 2 (List.map ntV n.n),PV.own 1 (List.map zDX n.s)]).box),(13,PV.own 2 (List.map prV cs)),(14,PV.own 1 (List.map I st)),(15,PV.own 2 (List.map prV cs)),(32,PV.bool (decide ((↑st.length:Int)>8))),(44,PV.tup [PV.bad,PV.bad]),(49,PV.tup [PV.bad,PV.bad]),(52,PV.tup [PV.bad,PV.bad]),(57,PV.tup [PV.bad,PV.bad]),(69,PV.bool !decide (G=G)),(71,PV.agg [I n.h,prs n.l,PV.sl (List.map ntV n.n),PV.sl (List.map zAw n.s)]),(72,PV.bor 13 [] 2 0 (List.map prV cs).length),(73,I e),(74,PV.bor 14 [] 1 0 (List.map I st).length),(2000705,I x1),(2000833,I x1)] 13 []=some [(1,prs cs),(2,I e),(4,zAw st),(5,(PV.agg [I n.h,prs n.l,PV.sl (List.map ntV n.n),PV.sl (List.map zAw n.s)]).box),(8,(PV.agg [I c.fst,I c.snd]).box),(11,(PV.agg [I n.h,prs n.l,PV.sl (List.map ntV n.n),PV.sl (List.map zAw n.s)]).box),(12,(PV.agg [I n.h,PV.own 2 (List.map prV n.l),PV.own 2 (List.map ntV n.n),PV.own 1 (List.map zDX n.s)]).box),(13,PV.sl (zAu (List.map prV cs))),(14,PV.own 1 (List.map I st)),(15,PV.own 2 (List.map prV cs)),(32,PV.bool (decide ((↑st.length:Int)>8))),(44,PV.tup [PV.bad,PV.bad]),(49,PV.tup [PV.bad,PV.bad]),(52,PV.tup [PV.bad,PV.bad]),(57,PV.tup [PV.bad,PV.bad]),(69,PV.bool !decide (G=G)),(71,PV.agg [I n.h,prs n.l,PV.sl (List.map ntV n.n),PV.sl (List.map zAw n.s)]),(72,PV.mapW (inl 13 [] (PV.own 2 (List.map prV cs))) (PV.bor 13 [] 2 0 (List.map prV cs).length)),(73,I e),(74,PV.bor 14 [] 1 0 (List.map I st).length),(2000705,I x1),(2000833,I x1)]) ((by simp only [show zAu (List.map prV cs)=List.map prV cs from (by first | exact zAD _ | exact zAN _ | exact zAI _ | exact zA5 (zAN _) | exact zA5 (zAI _) | exact zCw (by simp [zB4]) (zAD _)),show PV.mapW (inl 13 [] (PV.own 2 (List.map prV cs))) (PV.bor 13 [] 2 0 (List.map prV cs).length)=prs cs from (by first | exact zGe (zAD _) | exact zGe (zAN _) | exact zGe (zAI _))]):some [(1,prs cs),(2,I e),(4,zAw st),(5,(PV.agg [I n.h,prs n.l,PV.sl (List.map ntV n.n),PV.sl (List.map zAw n.s)]).box),(8,(PV.agg [I c.fst,I c.snd]).box),(11,(PV.agg [I n.h,prs n.l,PV.sl (List.map ntV n.n),PV.sl (List.map zAw n.s)]).box),(12,(PV.agg [I n.h,PV.own 2 (List.map prV n.l),PV.own 2 (List.map ntV n.n),PV.own 1 (List.map zDX n.s)]).box),(13,PV.sl (zAu (List.map prV cs))),(14,PV.own 1 (List.map I st)),(15,PV.own 2 (List.map prV cs)),(32,PV.bool (decide ((↑st.length:Int)>8))),(44,PV.tup [PV.bad,PV.bad]),(49,PV.tup [PV.bad,PV.bad]),(52,PV.tup [PV.bad,PV.bad]),(57,PV.tup [PV.bad,PV.bad]),(69,PV.bool !decide (G=G)),(71,PV.agg [I n.h,prs n.l,PV.sl (List.map ntV n.n),PV.sl (List.map zAw n.s)]),(72,PV.mapW (inl 13 [] (PV.own 2 (List.map prV cs))) (PV.bor 13 [] 2 0 (List.map prV cs).length)),(73,I e),(74,PV.bor 14 [] 1 0 (List.map I st).length),(2000705,I x1),(2000833,I x1)]=some [(1,prs cs),(2,I e),(4,zAw st),(5,(PV.agg [I n.h,prs n.l,PV.sl (List.map ntV n.n),PV.sl (List.map zAw n.s)]).box),(8,(PV.agg [I c.fst,I c.snd]).box),(11,(PV.agg [I n.h,prs n.l,PV.sl (List.map ntV n.n),PV.sl (List.map zAw n.s)]).box),(12,(PV.agg [I n.h,PV.own 2 (List.map prV n.l),PV.own 2 (List.map ntV n.n),PV.own 1 (List.map zDX n.s)]).box),(13,prs cs),(14,PV.own 1 (List.map I st)),(15,PV.own 2 (List.map prV cs)),(32,PV.bool (decide ((↑st.length:Int)>8))),(44,PV.tup [PV.bad,PV.bad]),(49,PV.tup [PV.bad,PV.bad]),(52,PV.tup [PV.bad,PV.bad]),(57,PV.tup [PV.bad,PV.bad]),(69,PV.bool !decide (G=G)),(71,PV.agg [I n.h,prs n.l,PV.sl (List.map ntV n.n),PV.sl (List.map zAw n.s)]),(72,prs cs),(73,I e),(74,PV.bor 14 [] 1 0 (List.map I st).length),(2000705,I x1),(2000833,I x1)])) (zKQ (by first | exact zAD _ | exact zAN _ | exact zAI _):PV.mapW (inl 13 [] (PV.own 2 (List.map prV cs))) (PV.bor 13 [] 2 0 (List.map prV cs).length)=prs cs))<|ap (And.intro (Eq.trans (by kernel_rfl:Env.frz [(1,prs cs),(2,I e),(4,zAw st),(5,(PV.agg [I n.h,prs n.l,PV.sl (List.map ntV n.n),PV.sl (List.map zAw n.s)]).box),(8,(PV.agg [I c.fst,I c.snd]).box),(11,(PV.agg [I n.h,prs n.l,PV.sl (List.map ntV n.n),PV.sl (List.map zAw n.s)]).box),(12,(PV.agg [I n.h,PV.own 2 (List.map prV n.l),PV.own 2 (List.map ntV n.n),PV.own 1 (List.map zDX n.s)]).box),(13,prs cs),(14,PV.own 1 (List.map I st)),(15,PV.own 2 (List.map prV cs)),(32,PV.bool (decide ((↑st.length:Int)>8))),(44,PV.tup [PV.bad,PV.bad]),(49,PV.tup [PV.bad,PV.bad]),(52,PV.tup [PV.bad,PV.bad]),(57,PV.tup [PV.bad,PV.bad]),(69,PV.bool !decide (G=G)),(71,PV.agg [I n.h,prs n.l,PV.sl (List.map ntV n.n),PV.sl (List.map zAw n.s)]),(72,prs cs),(73,I e),(74,PV.bor 14 [] 1 0 (List.map I st).length),(2000705,I x1),(2000833,I x1)] 14 []=some [(1,prs cs),(2,I e),(4,zAw st),(5,(PV.agg [I n.h,prs n.l,PV.sl (List.map ntV n.n),PV.sl (List.map zAw n.s)]).box),(8,(PV.agg [I c.fst,I c.snd]).box),(11,(PV.agg [I n.h,prs n.l,PV.sl (List.map ntV n.n),PV.sl (List.map zAw n.s)]).box),(12,(PV.agg [I n.h,PV.own 2 (List.map prV n.l),PV.own 2 (List.map ntV n.n),PV.own 1 (List.map zDX n.s)]).box),(13,prs cs),(14,PV.sl (zAu (List.map I st))),(15,PV.own 2 (List.map prV cs)),(32,PV.bool (decide ((↑st.length:Int)>8))),(44,PV.tup [PV.bad,PV.bad]),(49,PV.tup [PV.bad,PV.bad]),(52,PV.tup [PV.bad,PV.bad]),(57,PV.tup [PV.bad,PV.bad]),(69,PV.bool !decide (G=G)),(71,PV.agg [I n.h,prs n.l,PV.sl (List.map ntV n.n),PV.sl (List.map zAw n.s)]),(72,prs cs),(73,I e),(74,PV.mapW (inl 14 [] (PV.own 1 (List.map I st))) (PV.bor 14 [] 1 0 (List.map I st).length)),(2000705,I x1),(2000833,I x1)]) ((by simp only [show zAu (List.map I st)=List.map I st from (by first | exact zAD _ | exact zAN _ | exact zAI _ | exact zA5 (zAN _) | exact zA5 (zAI _) | exact zCw (by simp [zB4]) (zAD _)),show PV.mapW (inl 14 [] (PV.own 1 (List.map I st))) (PV.bor 14 [] 1 0 (List.map I st).length)=zAw st from (by first | exact zGe (zAD _) | exact zGe (zAN _) | exact zGe (zAI _))]):some [(1,prs cs),(2,I e),(4,zAw st),(5,(PV.agg [I n.h,prs n.l,PV.sl (List.map ntV n.n),PV.sl (List.map zAw n.s)]).box),(8,(PV.agg [I c.fst,I c.snd]).box),(11,(PV.agg [I n.h,prs n.l,PV.sl (List.map ntV n.n),PV.sl (List.map zAw n.s)]).box),(12,(PV.agg [I n.h,PV.own 2 (List.map prV n.l),PV.own 2 (List.map ntV n.n),PV.own 1 (List.map zDX n.s)]).box),(13,prs cs),(14,PV.sl (zAu (List.map I st))),(15,PV.own 2 (List.map prV cs)),(32,PV.bool (decide ((↑st.length:Int)>8))),(44,PV.tup [PV.bad,PV.bad]),(49,PV.tup [PV.bad,PV.bad]),(52,PV.tup [PV.bad,PV.bad]),(57,PV.tup [PV.bad,PV.bad]),(69,PV.bool !decide (G=G)),(71,PV.agg [I n.h,prs n.l,PV.sl (List.map ntV n.n),PV.sl (List.map zAw n.s)]),(72,prs cs),(73,I e),(74,PV.mapW (inl 14 [] (PV.own 1 (List.map I st))) (PV.bor 14 [] 1 0 (List.map I st).length)),(2000705,I x1),(2000833,I x1)]=some [(1,prs cs),(2,I e),(4,zAw st),(5,(PV.agg [I n.h,prs n.l,PV.sl (List.map ntV n.n),PV.sl (List.map zAw n.s)]).box),(8,(PV.agg [I c.fst,I c.snd]).box),(11,(PV.agg [I n.h,prs n.l,PV.sl (List.map ntV n.n),PV.sl (List.map zAw n.s)]).box),(12,(PV.agg [I n.h,PV.own 2 (List.map prV n.l),PV.own 2 (List.map ntV n.n),PV.own 1 (List.map zDX n.s)]).box),(13,prs cs),(14,zAw st),(15,PV.own 2 (List.map prV cs)),(32,PV.bool (decide ((↑st.length:Int)>8))),(44,PV.tup [PV.bad,PV.bad]),(49,PV.tup [PV.bad,PV.bad]),(52,PV.tup [PV.bad,PV.bad]),(57,PV.tup [PV.bad,PV.bad]),(69,PV.bool !decide (G=G)),(71,PV.agg [I n.h,prs n.l,PV.sl (List.map ntV n.n),PV.sl (List.map zAw n.s)]),(72,prs cs),(73,I e),(74,zAw st),(2000705,I x1),(2000833,I x1)])) (zKQ (by first | exact zAD _ | exact zAN _ | exact zAI _):PV.mapW (inl 14 [] (PV.own 1 (List.map I st))) (PV.bor 14 [] 1 0 (List.map I st).length)=zAw st))<|ap a2 an)<|zAc 5<|zAa<|zAd 4<|S_a [(6,.ob),(0,.v (prs n.l)),(1,.ob),(0,.v (PV.sl (List.map ntV n.n))),(1,.ob),(0,.v (PV.sl (List.map zAw n.s))),(1,.ob),(0,.v (prs cs)),(6,.ret (PV.tup [PV.own 2 (List.map prV M),I x2]) []),(1,.yes)] (ap (blz (List.map prV n.l))<|ap (frT prV n.l)<|ap (blz (List.map ntV n.n))<|ap (frT ntV n.n)<|ap (blz (List.map zDX n.s))<|ap (frC zDX zAw n.s)<|ap (blz (List.map prV cs))<|ap (frT prV cs)<|ap b2<|ap ((by exact zRq (zBF _) rfl):(PV.tup [PV.own 2 (List.map prV M),I x2]).free=true) an)<|zAc 5<|zAa<|zAd 4<|zFP 89 (x2=x2) (by omega) (zAc 1<|S_a [(6,.ret (PV.own 2 (List.map prV M)) [])] (ap (f25 M (by omega)) an)<|zAc 1<|S_a [(3,.ob),(0,.v (prs M)),(1,.ob),(0,.v (prs M)),(2,.ret (PV.bool (decide (M=M))) [])] (ap (blz (List.map prV M))<|ap (frT prV M)<|ap (blz (List.map prV M))<|ap (frT prV M)<|ap (f24 M M (by omega)) an)<|zAc 2<|zFP 95 (M=M) (by (simp;done)) (zAc 2<|S_a [(8,.ret (PV.bool (decide (st=st))) [])] (ap (f28 st st (by omega)) an)<|zAc 2<|zFP 100 (st=st) (by (simp;done)) (zAc 2<|S_a [(8,.ret (PV.bool true) [])] (ap (f33 n (by omega)) an)<|zAc 4<|S_a [(8,.ret (PV.bool (decide (cs=cs))) [])] (ap (f34 cs cs (by omega)) an)<|zAc 2<|zFP 110 (cs=cs) (by (simp;done)) (S_a [(4,.ret (PV.bool true) [])] (ap f17 an)<|zAc 2<|zAa<|zAm<|E_a [] an (PV.bool true) [] rfl rfl))))
end Go.Eng
set_option maxRecDepth 100000
namespace Go.Proofs.YtppbomajegnkeaaGreat
open Go.ChangeShapes Go.WideShapes Go.ChangeAt Go.RowKit Go.Eng
theorem newsMends_gives (ss:List (Bool×List Sh)) (wT:zE3 Tryz.prog Tryz.f5.params.toList=some ss) (qs:List PV) (hq:zLA ss qs):@zDs (yo1 Tryz.prog zLb) Tryz.prog zLb 5 qs [] (.bool true) []:=by
 have he:zE3 Tryz.prog Tryz.f5.params.toList=some [(true,[.num .i64,.list true [.num .i64,.num .i64],.list true [.num .i64,.bool],.list false [.list false [.num .i64]]]),(false,[.list true [.num .i64,.num .i64]]),(false,[.num .i64]),(true,[.num .i64,.num .i64]),(false,[.list false [.num .i64]])]:=by kernel_rfl
 rw [he] at wT
 cases wT
 obtain ⟨p0,qs0,rfl,h0,hq0⟩:=hq
 obtain ⟨p1,qs1,rfl,h1,uN⟩:=hq0
 obtain ⟨p2,qs2,rfl,h2,vH⟩:=uN
 obtain ⟨p3,qs3,rfl,h3,hq3⟩:=vH
 obtain ⟨p4,qs4,rfl,h4,hq4⟩:=hq3
 simp only [zLA] at hq4
 subst hq4
 obtain ⟨x0,rfl⟩:=zV3 h0
 obtain ⟨x1,rfl⟩:=zTJ h1
 obtain ⟨x2,rfl,b2⟩:=zXj h2
 simp only [IntKind.min,IntKind.max,IntKind.signed,IntKind.bits] at b2
 simp at b2
 obtain ⟨x3,rfl⟩:=zWF h3
 obtain ⟨x4,rfl,l4,b4⟩:=zVt h4
 unfold maxLen at l4
 simp only [IntKind.min,IntKind.max,IntKind.signed,IntKind.bits] at b4
 simp at b4
 exact f5 x0 x1 x2 x3 x4 (by omega)
theorem newsMends_lifted (os:Os) (started:os.Started) (H:Type) (enc:TypeId×Value→H) :
  ReturnsInHanded {} Tryz.checked os 5 .any (Rows.newsMendsSpec.pre6 enc Tryz.prog Tryz.f5 Rows.newsMendsRow.domain false) (Rows.newsMendsSpec.post enc Tryz.prog Tryz.f5 false true false false):=by
 refine returnsInHanded_of_change (C:=Tryz.checked) Tryz.own started (by kernel_rfl) Tryz.func5
  (ChangeSpec.witness6 (enc:=enc) (C:=Tryz.checked) false ⟨#[],#[.agg #[.int .i64 0,.slice none 0 0,.slice none 0 0,.slice none 0 0],.slice none 0 0,.int .i64 0,.agg #[.int .i64 0,.int .i64 0],.slice none 0 0],[]⟩ 8 (by kernel_rfl) (by kernel_rfl) (by kernel_rfl) (by kernel_rfl)) ?_
 intro W base args ds gs before hval0 hW hcnd _
 obtain ⟨p,q,hA0,hV,_,_,_⟩:=id hW
 obtain ⟨rfl,rfl⟩:=trodVars_none hV
 obtain ⟨ss,wT⟩:∃ ss,zE3 Tryz.prog Tryz.f5.params.toList=some ss:=Option.isSome_iff_exists.1 (by kernel_rfl)
 have hX:ss.length≤1000:=by
  have h:((zE3 Tryz.prog Tryz.f5.params.toList).map fun s=>Nat.ble s.length 1000)=some true:=by kernel_rfl
  rw [wT] at h
  simpa using h
 exact zVD zEX hnm zMo hin Tryz.laidOut rfl Tryz.underlying4 (by kernel_rfl) (by kernel_rfl) (fun ds hd=>by match ds,hd with | [d0,d1,d2,d3,d4],_=>rfl) wT hX (newsMends_gives ss wT) hval0 hW
theorem newsMends_holds:Rows.NewsMendsSaid :=
 OpenClaim.holds_of_wide 5 Tryz.f5 rfl rfl rfl rfl rfl rfl rfl ⟨rfl,rfl,rfl,rfl,rfl⟩ rfl rfl rfl rfl rfl (by kernel_rfl) Tryz.func5 (by kernel_rfl)
  (of_decide_eq_true (by kernel_rfl)) (by unfold Func.isWrapper;first | (rw [if_pos (by decide +kernel)];kernel_rfl) | (rw [if_neg (by decide +kernel)];exact ⟨rfl,rfl⟩))
  (fun os started H enc _=>newsMends_lifted os started H enc)
end Go.Proofs.YtppbomajegnkeaaGreat
