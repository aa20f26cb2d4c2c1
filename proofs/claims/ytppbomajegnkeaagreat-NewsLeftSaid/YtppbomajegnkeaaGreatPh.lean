/- For whatever news, cries and evenings, the law NewsLeft returns true and changes no argument: gaps, misled yz, when all is zD8 and when all is clear are as the reference tells them. -/
import Derived.Test.YtppbomajegnkeaaGreatPg
import Derived.Test.YtppbomajegnkeaaGreatPd
set_option linter.unusedVariables false
set_option linter.unusedSimpArgs false
set_option linter.unusedSectionVars false
set_option maxRecDepth 10000
set_option maxHeartbeats 4000000
namespace Go.Eng
open Go Go.Proofs
def zGt (n:Nw) (cs:List (Int×Int)):Bool:=decide ((n.l.length:Int)>20)||(decide ((n.n.length:Int)>12)||(decide ((n.s.length:Int)>10)||(decide ((cs.length:Int)>24)||n.s.any fun l=>decide ((l.length:Int)>14))))
theorem f16 (n:Nw) (cs:List (Int×Int)):FG 16 [nwV n,prs cs] (.bool (zGt n cs)):=by
 refine zAf Tryz.f16 ?_
 refine zAb (zAa (zAd 2 (zAc (zAb (zAb (zAa (zAd 2 (S_a [(0,.n (n.l.length))] (ap (lnS prV n.l) an) (zAd 2 (zEw 11 ((↑n.l.length:Int)>20) (fun k0=>(zAd 16 (zAc (zBT (zAb (zAa (zAd 1 (zAc (zAl (E_a [] an (PV.bool true) ([]) ?_ rfl)))))))))) (fun k0=>(zAd 2 (S_a [(0,.n (n.n.length))] (ap (lnS ntV n.n) an) (zAd 3 (zEw 17 ((↑n.n.length:Int)>12) (fun k1=>(zAd 10 (zAc (zBT (zAb (zAa (zAd 1 (zAc (zAl (E_a [] an (PV.bool true) ([]) ?_ rfl)))))))))) (fun k1=>(zAd 2 (S_a [(0,.n (n.s.length))] (ap (lnS zAY n.s) an) (zAd 3 (zEw 23 ((↑n.s.length:Int)>10) (fun k2=>(zAd 4 (zAc (zBT (zAb (zAa (zAd 1 (zAc (zAl (E_a [] an (PV.bool true) ([]) ?_ rfl)))))))))) (fun k2=>(zAd 1 (S_a [(0,.n (cs.length))] (ap (lnS prV cs) an) (zAd 2 (zAc (zBU ((↑cs.length:Int)>24) (fun k3=>(zAb (zAa (zAd 1 (zAc (zAl (E_a [] an (PV.bool true) ([]) ?_ rfl))))))) (fun k3=>(zAi (zAb (zAb (zAa (zAd 2 (S_a [(0,.n (n.s.length))] (ap (lnS zAY n.s) an) (zAd 1 (zAc (zAh 0 ?_))))))))))))))))))))))))))))))))))))
 ·simp only [zGt,decide_eq_true k0,Bool.true_or]
 ·simp only [zGt,decide_eq_true k1,Bool.true_or,Bool.or_true]
 ·simp only [zGt,decide_eq_true k2,Bool.true_or,Bool.or_true]
 ·simp only [zGt,decide_eq_true k3,Bool.true_or,Bool.or_true]
 have e:zGt n cs=n.s.any fun l=>decide ((l.length:Int)>14):=by
  simp only [zGt,decide_eq_false k0,decide_eq_false k1,decide_eq_false k2,decide_eq_false k3,Bool.false_or]
 rw [e]
 refine zAo (fun i=>i≤n.s.length∧∀ j,j<i→decide (((n.s.getD j []).length:Int)>14)=false) (fun (i:Nat)=>[(31,I (i:Nat))]) (fun i=>n.s.length-i) (0:Nat) ⟨Nat.zero_le _,fun j hj=>absurd hj (Nat.not_lt_zero j)⟩ fun i ⟨hi,ha⟩=>?_
 by_cases yC:i<n.s.length
 ·have wI:decide (((n.s.getD i []).length:Int)>14)=true→(n.s.any fun l=>decide ((l.length:Int)>14))=true:=fun h=>by
   rw [zAr yC] at h
   exact List.any_eq_true.2 ⟨_,List.getElem_mem yC,h⟩
  have jT:decide (((n.s.getD i []).length:Int)>14)=false→∀ j,j<i+1→decide (((n.s.getD j []).length:Int)>14)=false:=fun h j hj=>by
   rcases Nat.lt_succ_iff_lt_or_eq.1 hj with h2 | rfl
   ·exact ha j h2
   ·exact h
  clear ha
  refine zAb (zAa (zAd 1 (zAc (zAb (zAL ((↑i:Int)<(↑n.s.length:Int)) (by omega) (zAi (zAb (zAh 1 (zAb (zAa (S_a [(2,.v (PV.sl (List.map I (n.s.getD i []))))] (ap (zBA ([]) (by omega):(List.map zAY n.s)[i]? = some (PV.sl (List.map I (n.s.getD i [])))) an) (zAd 2 (zAc (zAb (zAa (zAd 1 (S_a [(0,.n ((n.s.getD i []).length))] (ap (lnS I (n.s.getD i [])) an) (zAd 1 (zAc (zBU ((↑(n.s.getD i []).length:Int)>14) (fun k4=>(zAb (zAa (zAd 1 (zAc (zAl (E_a [] an (PV.bool true) ([]) ?_ rfl))))))) (fun k4=>(zAi (zAa (S_a [(1,.v (I (↑(i+1):Int)))] (ap (wrN i) an) (zAd 1 (zAc ?_))))))))))))))))))))))))))
  ·rw [wI (decide_eq_true k4)]
  ·exact ⟨i+1,⟨by omega,jT (decide_eq_false k4)⟩,by omega,by kernel_rfl,by kernel_rfl⟩
 ·have hx:(n.s.any fun l=>decide ((l.length:Int)>14))=false:=by
   rw [List.any_eq_false]
   intro x hx
   obtain ⟨j,hj,rfl⟩:=List.getElem_of_mem hx
   have:=ha j (by omega)
   rw [zAr hj] at this
   rw [this];simp
  rw [hx]
  clear ha
  refine zAb (zAa (zAd 1 (zAc (zAb (zAO ((↑i:Int)<(↑n.s.length:Int)) (by omega) (zAv 0 (zAb (zAa (zAd 1 (zAc (zAl (E_a [] an (PV.bool false) ([]) rfl rfl))))))))))))
theorem f18 (n:Nw) (hs:Small n):FG 18 [nwV n] (nwO n):=by
 have h1:=hs.hl
 have h2:=hs.hn
 have h3:=hs.hs
 have h4:=hs.hr
 refine zAf Tryz.f18 ?_
 refine zAb (zAa (zAd 2 (zAc (zAb (zAa (zAd 4 (S_a [(6,.ret (PV.own 2 (List.map prV n.l)) ([]))] (ap (f87 (n.l) (by omega)) an) (zAd 2 (S_a [(6,.ret (PV.own 2 (List.map ntV n.n)) ([]))] (ap (f88 (n.n) (by omega)) an) (zAd 2 (S_a [(6,.ret (PV.own 1 (List.map zDK n.s)) ([]))] (ap (f89 (n.s) (by omega) (by omega)) an) (zAd 2 (zAc (zAl (E_a [(4,.yes),(1,.v (PV.own 2 (List.map prV n.l))),(1,.yes),(1,.v (PV.own 2 (List.map ntV n.n))),(1,.yes),(1,.v (PV.own 1 (List.map zDK n.s)))] (ap (blz (List.map prV n.l)) (ap ((zAR zAK):PV.own 2 (List.take (List.map prV n.l).length (List.drop 0 (List.map prV n.l)))=PV.own 2 (List.map prV n.l)) (ap (blz (List.map ntV n.n)) (ap ((zAR zAK):PV.own 2 (List.take (List.map ntV n.n).length (List.drop 0 (List.map ntV n.n)))=PV.own 2 (List.map ntV n.n)) (ap (blz (List.map zDK n.s)) (ap ((zAR zAK):PV.own 1 (List.take (List.map zDK n.s).length (List.drop 0 (List.map zDK n.s)))=PV.own 1 (List.map zDK n.s)) an)))))) (PV.agg [I n.h,PV.own 2 (List.map prV n.l),PV.own 2 (List.map ntV n.n),PV.own 1 (List.map zDK n.s)]) ([]) rfl rfl)))))))))))))))
theorem f33 (a:Nw) (hs:Small a):FG 33 [nwV a,nwV a] (.bool true):=by
 have h1:=hs.hl
 have h2:=hs.hn
 have h3:=hs.hs
 have h4:=hs.hr
 refine zAf Tryz.f33 ?_
 refine zAb (zAa (zAd 3 (zAc (zAb (zAa (zAd 6 (zJ3 10 (a.h=a.h) (by omega) (zAd 4 (S_a [(8,.ret (PV.bool (decide (a.l=a.l))) ([]))] (ap (f103 (a.l) (a.l) (by omega)) an) (zAd 2 (zJ3 17 (a.l=a.l) (by (simp;done)) (zAd 4 (S_a [(8,.ret (PV.bool (decide (a.n=a.n))) ([]))] (ap (f104 (a.n) (a.n) (by omega)) an) (zAd 2 (zJ3 24 (a.n=a.n) (by (simp;done)) (zAd 4 (S_a [(8,.ret (PV.bool (decide (a.s=a.s))) ([]))] (ap (f62 (a.s) (a.s) (by omega) ?_) an) (zAd 2 (zAc (zAl (E_a [] an (PV.bool (decide (a.s=a.s))) ([]) (by simp [*]) rfl)))))))))))))))))))))
 exact fun r hr=>by have:=h4 r hr;omega
theorem f19 (n:Nw) (hs:Small n):FG 19 [nwV n] (nwO n):=by
 have h1:=hs.hl
 have h2:=hs.hn
 have h3:=hs.hs
 have h4:=hs.hr
 refine zAf Tryz.f19 ?_
 refine zAb (zAa (zAd 2 (zAc (zAb (zAa (zAd 4 (S_a [(6,.ret (PV.own 2 (List.map prV n.l)) ([]))] (ap (f87 (n.l) (by omega)) an) (zAd 2 (S_a [(6,.ret (PV.own 1 (List.map zDK n.s)) ([]))] (ap (f89 (n.s) (by omega) (by omega)) an) (zAd 3 (zAc (zAb (zAb (zAa (zAd 2 (S_a [(0,.n (n.n.length))] (ap (lnS ntV n.n) an) (zAd 1 (zAc (zAh 0 ?_)))))))))))))))))))
 refine zAo (fun (i,q)=>i≤n.n.length∧q=n.n.take i) (fun (i,q)=>[(3,.box (.agg [I n.h,.own 2 (n.l.map prV),.own 2 (q.map ntV),.own 1 (n.s.map zDK)])),(18,I (i:Nat))]) (fun (i,_)=>n.n.length-i) ((0:Nat),([]:List (Int×Bool))) ⟨Nat.zero_le _,rfl⟩ fun (i,q) ⟨hi,hq⟩=>?_
 have uQ:q.length≤i:=by rw [hq,List.length_take];omega
 by_cases yC:i<n.n.length
 ·have yR:=zBO (d:=default) yC
  rw [← hq] at yR
  clear hq
  refine zAb (zAa (zAd 1 (zAc (zAb (zAL ((↑i:Int)<(↑n.n.length:Int)) (by omega) (zAi (zAb (zAh 1 (zAb (zAa (S_a [(2,.v (PV.agg [I (n.n.getD i default).fst,PV.bool (n.n.getD i default).snd]))] (ap (zBA (default) (by omega):(List.map ntV n.n)[i]? = some (PV.agg [I (n.n.getD i default).fst,PV.bool (n.n.getD i default).snd])) an) (zAd 3 (zAc (zAa (zAd 1 (S_a [(1,.v (PV.bor 3 [(0,2)] 2 0 q.length))] (ap ((by simp):PV.bor 3 [(0,2)] 2 0 (List.map ntV q).length=PV.bor 3 [(0,2)] 2 0 q.length) an) (zAd 2 (S_a [(4,.ob),(0,.ob),(0,.yes),(2,.v (PV.own 2 (List.map ntV (q++[n.n.getD i default]))))] (ap ((by exact zBs (by simp only [List.length_map,zzLn,zA1]<;>omega)):(0+q.length).ble (List.map ntV q).length=true) (ap ((by exact zBs (by simp only [List.length_map,zzLn,zA1]<;>omega)):((List.map ntV q).length + [PV.agg [I (n.n.getD i default).fst,PV.bool (n.n.getD i default).snd]].length).ble zA1=true) (ap ((by exact zBr (by simp<;>omega)):(0+q.length).beq (List.map ntV q).length=true) (ap ((zAR (zCv (by kernel_rfl))):PV.own 2 (List.map ntV q++[PV.agg [I (n.n.getD i default).fst,PV.bool (n.n.getD i default).snd]])=PV.own 2 (List.map ntV (q++[n.n.getD i default]))) an)))) (zAd 2 (zAc (zAa (S_a [(1,.v (I (↑(i+1):Int)))] (ap (wrN i) an) (zAd 1 (zAc ?_))))))))))))))))))))))))
  exact ⟨(i+1,q++[n.n.getD i default]),⟨by omega,yR.symm⟩,by simp only;omega,by kernel_rfl,by kernel_rfl⟩
 ·have ui:q=n.n:=by rw [hq,List.take_of_length_le (by omega)]
  clear hq
  subst ui
  refine zAb (zAa (zAd 1 (zAc (zAb (zAO ((↑i:Int)<(↑n.n.length:Int)) (by omega) (zAv 0 (zAb (zAa (zAd 1 (S_a [(4,.yes),(2,.yes),(2,.yes)] (ap ((by exact zBr (by simp<;>omega)):(Nat.beq 0 0&&(List.map prV n.l).length.beq (List.map prV n.l).length)=true) (ap ((by exact zBr (by simp<;>omega)):(Nat.beq 0 0&&(List.map ntV n.n).length.beq (List.map ntV n.n).length)=true) (ap ((by exact zBr (by simp<;>omega)):(Nat.beq 0 0&&(List.map zDK n.s).length.beq (List.map zDK n.s).length)=true) an))) (zAc (zAl (E_a [(4,.yes),(1,.v (PV.own 2 (List.map prV n.l))),(1,.yes),(1,.v (PV.own 2 (List.map ntV n.n))),(1,.yes),(1,.v (PV.own 1 (List.map zDK n.s)))] (ap (blz (List.map prV n.l)) (ap ((zAR zAK):PV.own 2 (List.take (List.map prV n.l).length (List.drop 0 (List.map prV n.l)))=PV.own 2 (List.map prV n.l)) (ap (blz (List.map ntV n.n)) (ap ((zAR zAK):PV.own 2 (List.take (List.map ntV n.n).length (List.drop 0 (List.map ntV n.n)))=PV.own 2 (List.map ntV n.n)) (ap (blz (List.map zDK n.s)) (ap ((zAR zAK):PV.own 1 (List.take (List.map zDK n.s).length (List.drop 0 (List.map zDK n.s)))=PV.own 1 (List.map zDK n.s)) an)))))) (PV.agg [I n.h,PV.own 2 (List.map prV n.l),PV.own 2 (List.map ntV n.n),PV.own 1 (List.map zDK n.s)]) ([]) rfl rfl)))))))))))))
theorem f21 (l:List (Int×Int)) (hl:l.length<1000000):FG 21 [prs l] (.own 2 (l.map prV)):=by
 refine zAf Tryz.f21 ?_
 refine zAb (zAa (zAd 1 (zAc (zAb (zAa (zAd 1 (zAc (zAb (zAb (zAa (zAd 1 (S_a [(0,.n (l.length))] (ap (lnS prV l) an) (zAd 1 (zAc (zAh 0 ?_)))))))))))))))
 refine zAo (fun (i,q)=>i≤l.length∧q=l.take i) (fun (i,q)=>[(3,.own 2 (q.map prV)),(8,I (i:Nat))]) (fun (i,_)=>l.length-i) ((0:Nat),([]:List (Int×Int))) ⟨Nat.zero_le _,rfl⟩ fun (i,q) ⟨hi,hq⟩=>?_
 have uQ:q.length≤i:=by rw [hq,List.length_take];omega
 by_cases yC:i<l.length
 ·have yR:=zBO (d:=default) yC
  rw [← hq] at yR
  clear hq
  refine zAb (zAa (zAd 1 (zAc (zAb (zAL ((↑i:Int)<(↑l.length:Int)) (by omega) (zAi (zAb (zAh 1 (zAb (zAa (S_a [(2,.v (PV.agg [I (l.getD i default).fst,I (l.getD i default).snd]))] (ap (zBA (default) (by omega):(List.map prV l)[i]? = some (PV.agg [I (l.getD i default).fst,I (l.getD i default).snd])) an) (zAd 3 (zAc (zAa (zAd 3 (S_a [(4,.ob),(0,.ob),(0,.yes),(2,.v (PV.own 2 (List.map prV (q++[l.getD i default]))))] (ap (blz (List.map prV q)) (ap ((by exact zBs (by simp only [List.length_map,zzLn,zA1]<;>omega)):((List.map prV q).length + [PV.agg [I (l.getD i default).fst,I (l.getD i default).snd]].length).ble zA1=true) (ap ((by exact zBr (by simp<;>omega)):(0+(List.map prV q).length).beq (List.map prV q).length=true) (ap ((zAR (zCv (by kernel_rfl))):PV.own 2 (List.map prV q++[PV.agg [I (l.getD i default).fst,I (l.getD i default).snd]])=PV.own 2 (List.map prV (q++[l.getD i default]))) an)))) (zAd 1 (zAc (zAa (S_a [(1,.v (I (↑(i+1):Int)))] (ap (wrN i) an) (zAd 1 (zAc ?_))))))))))))))))))))))
  exact ⟨(i+1,q++[l.getD i default]),⟨by omega,yR.symm⟩,by simp only;omega,by kernel_rfl,by kernel_rfl⟩
 ·rw [List.take_of_length_le (by omega)] at hq
  rw [← hq]
  clear hq
  refine zAb (zAa (zAd 1 (zAc (zAb (zAO ((↑i:Int)<(↑q.length:Int)) (by omega) (zAv 0 (zAb (zAa (zAd 1 (S_a [(2,.yes)] (ap ((by exact zBr (by simp<;>omega)):(Nat.beq 0 0&&(List.map prV q).length.beq (List.map prV q).length)=true) an) (zAc (zAl (E_a [(1,.yes),(1,.v (PV.own 2 (List.map prV q)))] (ap (blz (List.map prV q)) (ap ((zAR zAK):PV.own 2 (List.take (List.map prV q).length (List.drop 0 (List.map prV q)))=PV.own 2 (List.map prV q)) an)) (PV.own 2 (List.map prV q)) ([]) rfl rfl)))))))))))))
theorem f25 (l:List (Int×Int)) (hl:l.length<1000000):FG 25 [prs l] (.own 2 (l.map prV)):=by
 refine zAf Tryz.f25 ?_
 refine zAb (zAa (zAd 1 (zAc (zAb (zAa (zAd 1 (zAc (zAb (zAb (zAa (zAd 1 (S_a [(0,.n (l.length))] (ap (lnS prV l) an) (zAd 1 (zAc (zAh 0 ?_)))))))))))))))
 refine zAo (fun (i,q)=>i≤l.length∧q=l.take i) (fun (i,q)=>[(3,.own 2 (q.map prV)),(8,I (i:Nat))]) (fun (i,_)=>l.length-i) ((0:Nat),([]:List (Int×Int))) ⟨Nat.zero_le _,rfl⟩ fun (i,q) ⟨hi,hq⟩=>?_
 have uQ:q.length≤i:=by rw [hq,List.length_take];omega
 by_cases yC:i<l.length
 ·have yR:=zBO (d:=default) yC
  rw [← hq] at yR
  clear hq
  refine zAb (zAa (zAd 1 (zAc (zAb (zAL ((↑i:Int)<(↑l.length:Int)) (by omega) (zAi (zAb (zAh 1 (zAb (zAa (S_a [(2,.v (PV.agg [I (l.getD i default).fst,I (l.getD i default).snd]))] (ap (zBA (default) (by omega):(List.map prV l)[i]? = some (PV.agg [I (l.getD i default).fst,I (l.getD i default).snd])) an) (zAd 3 (zAc (zAa (zAd 3 (S_a [(4,.ob),(0,.ob),(0,.yes),(2,.v (PV.own 2 (List.map prV (q++[l.getD i default]))))] (ap (blz (List.map prV q)) (ap ((by exact zBs (by simp only [List.length_map,zzLn,zA1]<;>omega)):((List.map prV q).length + [PV.agg [I (l.getD i default).fst,I (l.getD i default).snd]].length).ble zA1=true) (ap ((by exact zBr (by simp<;>omega)):(0+(List.map prV q).length).beq (List.map prV q).length=true) (ap ((zAR (zCv (by kernel_rfl))):PV.own 2 (List.map prV q++[PV.agg [I (l.getD i default).fst,I (l.getD i default).snd]])=PV.own 2 (List.map prV (q++[l.getD i default]))) an)))) (zAd 1 (zAc (zAa (S_a [(1,.v (I (↑(i+1):Int)))] (ap (wrN i) an) (zAd 1 (zAc ?_))))))))))))))))))))))
  exact ⟨(i+1,q++[l.getD i default]),⟨by omega,yR.symm⟩,by simp only;omega,by kernel_rfl,by kernel_rfl⟩
 ·rw [List.take_of_length_le (by omega)] at hq
  rw [← hq]
  clear hq
  refine zAb (zAa (zAd 1 (zAc (zAb (zAO ((↑i:Int)<(↑q.length:Int)) (by omega) (zAv 0 (zAb (zAa (zAd 1 (S_a [(2,.yes)] (ap ((by exact zBr (by simp<;>omega)):(Nat.beq 0 0&&(List.map prV q).length.beq (List.map prV q).length)=true) an) (zAc (zAl (E_a [(1,.yes),(1,.v (PV.own 2 (List.map prV q)))] (ap (blz (List.map prV q)) (ap ((zAR zAK):PV.own 2 (List.take (List.map prV q).length (List.drop 0 (List.map prV q)))=PV.own 2 (List.map prV q)) an)) (PV.own 2 (List.map prV q)) ([]) rfl rfl)))))))))))))
end Go.Eng
set_option maxRecDepth 100000
set_option maxHeartbeats 4000000
namespace Go.Eng
open Go Go.Proofs
def zDW:Nw:=⟨4,[(0,1),(1,2),(2,3)],[(-1,false),(0,true)],[[0],[0,3]]⟩
def zFo:List (Int×Int):=[(0,1),(1,0)]
def zIP:List (Int×Int):=[(2,0),(3,0)]
theorem zUM:NwOk zDW:=zS8 (by decide +kernel)
theorem zKj:CrOk zDW zFo:=zQQ (by decide +kernel)
theorem zO8:zBl zDW (zAV zDW zFo (1:Int).toNat)=zIP:=by decide +kernel
theorem zV6:OffOk zDW zFo 1 [0,1]:=⟨by decide +kernel,zR9 (by decide +kernel),by decide,by decide⟩
theorem zWP:zID zDW (zAV zDW (zFo++[(1,0)]) (1:Int).toNat) zIP=[]:=by decide +kernel
theorem zWW:zID zDW (zAV zDW (zFo++[(1,1)]) (1:Int).toNat) zIP=zIP:=by decide +kernel
def zZQ:List (PV×PV):=[(.agg [I 1,I 0],.sl []),(.agg [I 1,I 1],.sl (zIP.map prV))]
abbrev zSu:List PV:=[.addr 50000000 [] 0 0 none,.addr 50000001 [] 0 0 none,.addr 50000002 [] 0 0 none,.addr 50000003 [] 0 0 none,.addr 50000004 [] 0 0 none]
abbrev zRI (b:Bool) (l:List PV):List PV:=[.box (.bool b),.box (.own 2 l),.box (.own 2 [prV (1,0),prV (1,1)]),.box (.omap [(prV (1,0),.sl []),(prV (1,1),prs zIP)]),.box (.func 187 [] zSu)]
theorem zPJ:zDj Tryz.prog zKX 187 (.nils 0::prs zIP::zSu) (zRI false []) (.tup []) (zRI true [prV (1,1)]):=zDj.closed 60
theorem zRM:FG 134 [zDQ zDW zFo,.agg [zYA zDW zFo 1 zIP],prs zIP,I 0,zAY [0,1]] (.tup [.own 2 [.agg [I 1,I 1]],.bool true]):=by
 have h0:FG 173 [.agg [I 1,I 0],.ref (zDQ zDW zFo),.ref (prs zIP),.ref (I 1)] (.sl []):=by
  have:=f173 zDW zFo zIP 1 (1,0) zKj.w (by decide) (by decide) (by decide) (by decide) (by decide)
  rw [zWP] at this;exact this
 have h1:FG 173 [.agg [I 1,I 1],.ref (zDQ zDW zFo),.ref (prs zIP),.ref (I 1)] (.sl (zIP.map prV)):=by
  have:=f173 zDW zFo zIP 1 (1,1) zKj.w (by decide) (by decide) (by decide) (by decide) (by decide)
  rw [zWW] at this;exact this
 refine zAf Tryz.f134 ?_
 refine zAb (zAa (zAd 3 (zAc (zAb (zAa (zAd 3 (zAc (zAb (zAa (zAd 1 (zAc (zAb (zAb (zAa (zAd 1 (zAd 1 (zAd 1 (zAc (zAh 0 ?_)))))))))))))))))))
 refine zAo (fun j=>j≤2) (fun (j:Nat)=>[(12,.box (.omap (zZQ.take j))),(13,.box (.own 2 (([(1,0),(1,1)]:List (Int×Int)).take j |>.map prV))),(23,I (j:Nat))]) (fun j=>2-j) (0:Nat) (by omega) fun j hj=>?_
 have hj3:j=0∨j=1∨j=2:=by omega
 rcases hj3 with e | e | e
 ·subst e
  refine zAb (zAa (zAd 1 (zAc (zAb (zBT (zAi (zAb (zAh 1 (zAb (zAa (zAd 3 (zAc (zAb (zAa (zAd 10 (zAc (zAa (zAd 2 (zAd 1 (zAd 6 (S_a [(9,.ret (PV.sl []) ([]))] (ap (h0) an) (zAd 4 (zAc (zAa (zAd 2 (zAc ?_))))))))))))))))))))))))))
  exact ⟨1,by omega,by omega,by kernel_rfl,by kernel_rfl⟩
 ·subst e
  refine zAb (zAa (zAd 1 (zAc (zAb (zBT (zAi (zAb (zAh 1 (zAb (zAa (zAd 3 (zAc (zAb (zAa (zAd 10 (zAc (zAa (zAd 2 (zAd 1 (zAd 6 (S_a [(9,.ret (PV.sl (List.map prV zIP)) ([]))] (ap (h1) an) (zAd 4 (zAc (zAa (zAd 2 (zAc ?_))))))))))))))))))))))))))
  exact ⟨2,by omega,by omega,by kernel_rfl,by kernel_rfl⟩
 ·subst e
  have y9:=zPJ
  refine zAb (zAa (zAd 1 (zAc (zAb (zAU (zAv 0 (zAb (zAa (zAd 1 (zAc (zAb (zAa (zAd 2 (zAc (zAb (zAa (zAd 1 (zAc (zAb (zAa (zAd 2 (zAc (zAb (zAa (zAd 2 (S_a [(8,.ret (PV.tup []) (zRI true [prV (1,1)]))] (ap (y9) an) (zAc (zAb (zAa (zAd 1 (zAd 1 (zAd 1 (zAd 1 (zAc (zAl (E_a [] an (PV.tup [PV.own 2 [PV.agg [I (1,1).fst,I (1,1).snd]],PV.bool true]) ([]) rfl rfl))))))))))))))))))))))))))))))))))))
theorem zPL:FG 57 [nwV zDW,prs zFo,I 1,zAY [0,1]] (.tup [.own 2 [.agg [I 1,I 1]],I 0]):=by
 have ho:=f121_1 zDW zFo 1 [0,1] zV6 (by decide)
 rw [zO8] at ho
 have gr:FG 135 [zDQ zDW zFo,prs zIP,I 0] (.own 2 (zIP.map prV)):=by
  have:=f135 zDW zFo zIP 0 zUM (by decide) (by decide)
  rwa [show ofL zDW 0 zIP=zIP from by decide +kernel] at this
 have hc:=zRM
 refine zAf Tryz.f57 ?_
 refine zAb (zAa (zAd 3 (zAc (zAb (zAa (zAd 4 (S_a [(12,.ret (PV.tup [zDQ zDW zFo,prs zIP,PV.agg [zYA zDW zFo 1 zIP],I 0]) ([]))] (ap (ho) an) (zAd 10 (zAc (zAb (zAb (zAa (zAd 2 (zAc (zAU (zAi (zAb (zAa (zAd 1 (zAc (zAb (zAb (zAa (zAd 2 (zAd 1 (zAd 1 (zAc (zAh 0 ?_))))))))))))))))))))))))))))
 refine zAo (fun j=>j≤2) (fun (j:Nat)=>[(14,.own 2 (([(1,1)]:List (Int×Int)).take j |>.map prV)),(34,I (j:Nat))]) (fun j=>2-j) (0:Nat) (by omega) fun j hj=>?_
 have hj3:j=0∨j=1∨j=2:=by omega
 rcases hj3 with e | e | e
 ·subst e
  refine zAb (zAa (zAd 1 (zAc (zAb (zBT (zAi (zAb (zAh 1 (zAb (zAa (zAd 2 (zAc (zAb (zAb (zAa (zAd 8 (zAc (zAU (zAi (zAb (zAa (zAd 5 (S_a [(9,.ret (PV.own 2 (List.map prV zIP)) ([]))] (ap (gr) an) (zAd 2 (S_a [(14,.ret (PV.tup [PV.own 2 [PV.agg [I 1,I 1]],PV.bool true]) ([]))] (ap (hc) an) (zAd 5 (zAc (zAb (zAb (zAa (zAd 2 (zAc (zAU (zAi (zAa (zAd 4 (zAc (zAa (zAd 2 (zAc ?_))))))))))))))))))))))))))))))))))))))))
  exact ⟨1,by omega,by omega,by kernel_rfl,by kernel_rfl⟩
 ·subst e
  refine zAb (zAa (zAd 1 (zAc (zAb (zBT (zAi (zAb (zAh 1 (zAb (zAa (zAd 2 (zAc (zAb (zAb (zAa (zAd 8 (zAc (zBT (zAv 1 (zAa (zAd 2 (zAc ?_))))))))))))))))))))))
  exact ⟨2,by omega,by omega,by kernel_rfl,by kernel_rfl⟩
 ·subst e
  refine zAb (zAa (zAd 1 (zAc (zAb (zAU (zAv 0 (zAb (zAa (zAd 3 (zAc (zAl (E_a [] an (PV.tup [PV.own 2 [PV.agg [I (1,1).fst,I (1,1).snd]],I 0]) ([]) rfl rfl))))))))))))
end Go.Eng
set_option maxRecDepth 10000
set_option maxHeartbeats 4000000
namespace Go.Eng
open Go Go.Proofs
def zUd (n:Nw) (i:Nat):Bool:=decide ((zA5 n).getD i 0=i) && !(n.n.getD i default).2
def zEy (p:Nat→Bool) (k:Nat):List Int:=((List.range k).filter p).map fun (i:Nat)=>(i:Int)
theorem zHK {p:Nat→Bool} {k:Nat}:zEy p (k+1)=if p k=true then zEy p k++[(k:Int)] else zEy p k:=by
 unfold zEy;rw [List.range_succ,List.filter_append,List.map_append]
 by_cases hn:p k=true
 ·rw [if_pos hn];simp [hn]
 ·rw [if_neg hn];simp [hn]
theorem zMe {p:Nat→Bool} {k:Nat}:(zEy p k).length≤k:=by
 unfold zEy;rw [List.length_map];exact Nat.le_trans (List.length_filter_le _ _) (by simp)
theorem f86_1 (n:Nw) (ho:NwOk n):FG 86 [nwV n] (.tup [.own 1 ((zEy (zUd n) n.n.length).map I),I 0]):=by
 have uH:=ho.nl
 refine zAf Tryz.f86 ?_
 refine zAb (zAa (zAd 3 (zAc (zAb (zAa (zAd 1 (S_a [(6,.ret (PV.tup [(zCw n (PV.own 2 []) (zUV (List.map pr2 n.l)) (zAk n) (zA5 n)).box,I 0]) ([]))] (ap (f139_1 (n) (by omega)) an) (zAd 5 (zAc (zAb (zAb (zAa (zAd 2 (zAc (zAU (zAi (zAb (zAa (zAd 1 (zAc (zAb (zAb (zAa (zAd 2 (S_a [(0,.n (n.n.length))] (ap (lnS ntV n.n) an) (zAd 1 (zAc (zAh 0 ?_))))))))))))))))))))))))))))
 refine zAo (fun (i,l)=>i≤n.n.length∧l=zEy (zUd n) i) (fun (i,l)=>[(6,.own 1 (l.map I)),(20,I (i:Nat))]) (fun (i,_)=>n.n.length-i) ((0:Nat),([]:List Int)) ⟨by omega,by simp [zEy]⟩ fun (i,l) ⟨hi,hl⟩=>?_
 have qn:l.length≤i:=by rw [hl];exact zMe
 by_cases yC:i<n.n.length
 ·have yg:=zHK (p:=zUd n) (k:=i)
  rw [← hl] at yg
  have kE:zUd n i=false→l=zEy (zUd n) (i+1):=fun h=>by rw [yg,if_neg (by rw [h];simp)]
  refine zAb (zAa (zAd 1 (zAc (zAb (zAL ((↑i:Int)<(↑n.n.length:Int)) (by omega) (zAi (zAb (zAh 1 (zAb (zAa (zAd 1 (S_a [(2,.v (PV.agg [I (n.n.getD i default).fst,PV.bool (n.n.getD i default).snd]))] (ap (zBA (default) (by omega):(List.map ntV n.n)[i]? = some (PV.agg [I (n.n.getD i default).fst,PV.bool (n.n.getD i default).snd])) an) (zAd 4 (zAc (zAb (zAa (zAd 4 (S_a [(2,.ob),(1,.v (PV.addr 4 [] 0 (14+i) none))] (ap ((by exact zAp (by omega)):decide (i<8)=true) (ap ((zFO (by kernel_rfl)):PV.addr 4 [] 0 (14+i*(fun x=>x.size) Tryz.prog.types[3]) none=PV.addr 4 [] 0 (14+i) none) an)) (S_a [(0,.cs true ([I ((zA5 n).getD i 0)]))] (ap (zDk (q:=(PV.agg (I n.h::PV.sl (List.map prV n.l)::PV.sl (List.map ntV n.n)::PV.sl (List.map zAY n.s)::PV.own 2 []::PV.omap (List.map zBy (List.map pr2 n.l))::(zAS (zAk n) 8++zAS (zA5 n) 8))).box) (xs:=[PV.agg (I n.h::PV.sl (List.map prV n.l)::PV.sl (List.map ntV n.n)::PV.sl (List.map zAY n.s)::PV.own 2 []::PV.omap (List.map zBy (List.map pr2 n.l))::(zAS (zAk n) 8++zAS (zA5 n) 8))]) (x:=PV.agg (I n.h::PV.sl (List.map prV n.l)::PV.sl (List.map ntV n.n)::PV.sl (List.map zAY n.s)::PV.own 2 []::PV.omap (List.map zBy (List.map pr2 n.l))::(zAS (zAk n) 8++zAS (zA5 n) 8))) rfl rfl (zKn (A:=I n.h::PV.sl (List.map prV n.l)::PV.sl (List.map ntV n.n)::PV.sl (List.map zAY n.s)::PV.own 2 []::PV.omap (List.map zBy (List.map pr2 n.l))::zAS (zAk n) 8) (B:=[]) (F:=zA5 n) (m:=8) (j:=i) (by first | rfl | exact zBZ (by kernel_rfl) | exact zBW (by kernel_rfl) | exact zDF (by kernel_rfl) (by kernel_rfl) | exact zDI (by kernel_rfl) | exact zDU (by kernel_rfl) (by kernel_rfl) | exact zDG (by kernel_rfl) | (simp;done)) (by omega)):zAt 4 (PV.agg (I n.h::PV.sl (List.map prV n.l)::PV.sl (List.map ntV n.n)::PV.sl (List.map zAY n.s)::PV.own 2 []::PV.omap (List.map zBy (List.map pr2 n.l))::(zAS (zAk n) 8++zAS (zA5 n) 8))).box [] 0 (14+i) 1=some (true,[I ((zA5 n).getD i 0)])) an) (zAd 3 (zEw 33 ((zA5 n).getD i 0=(↑i:Int)) (fun k0=>(zAd 4 (zAc (zD4 (!(n.n.getD i default).snd) (fun k1=>(zAa (zAd 3 (S_a [(4,.ob),(0,.ob),(0,.yes),(2,.v (PV.own 1 (List.map I (l++[(↑i:Int)]))))] (ap (blz (List.map I l)) (ap ((by exact zBs (by simp only [List.length_map,zzLn,zA1]<;>omega)):((List.map I l).length + [I (↑i:Int)].length).ble zA1=true) (ap ((by exact zBr (by simp<;>omega)):(0+(List.map I l).length).beq (List.map I l).length=true) (ap ((zAR (zCv (by kernel_rfl))):PV.own 1 (List.map I l++[I (↑i:Int)])=PV.own 1 (List.map I (l++[(↑i:Int)]))) an)))) (zAd 1 (zAc (zAa (S_a [(1,.v (I (↑(i+1):Int)))] (ap (wrN i) an) (zAd 1 (zAc ?_)))))))))) (fun k1=>(zAi (zAa (S_a [(1,.v (I (↑(i+1):Int)))] (ap (wrN i) an) (zAd 1 (zAc ?_)))))))))) (fun k0=>(zAd 4 (zAc (zAU (zAi (zAa (S_a [(1,.v (I (↑(i+1):Int)))] (ap (wrN i) an) (zAd 1 (zAc ?_))))))))))))))))))))))))))))))
  ·rw [if_pos (by simp only [zUd,decide_eq_true k0,k1];rfl)] at yg
   exact ⟨(i+1,l++[(i:Int)]),⟨by omega,yg.symm⟩,by simp only;omega,by kernel_rfl,by kernel_rfl⟩
  ·exact ⟨(i+1,l),⟨by omega,kE (by simp only [zUd,decide_eq_true k0,k1];rfl)⟩,by simp only;omega,by kernel_rfl,by kernel_rfl⟩
  ·exact ⟨(i+1,l),⟨by omega,kE (by simp only [zUd,decide_eq_false k0,Bool.false_and])⟩,by simp only;omega,by kernel_rfl,by kernel_rfl⟩
 ·refine zAb (zAa (zAd 1 (zAc (zAb (zAO ((↑i:Int)<(↑n.n.length:Int)) (by omega) (zAv 0 (zAb (zAa (zAd 1 (S_a [(2,.yes)] (ap ((by exact zBr (by simp<;>omega)):(Nat.beq 0 0&&(List.map I l).length.beq (List.map I l).length)=true) an) (zAd 1 (zAc (zAl (E_a [(1,.yes),(1,.v (PV.own 1 (List.map I l)))] (ap (blz (List.map I l)) (ap ((zAR zAK):PV.own 1 (List.take (List.map I l).length (List.drop 0 (List.map I l)))=PV.own 1 (List.map I l)) an)) (PV.tup [PV.own 1 (List.map I l),I 0]) ([]) ?_ rfl))))))))))))))
  rw [hl,show i=n.n.length by omega]
def bkL (n:Nw) (cs:List (Int×Int)) (c:Nat) (x:Int):Nat→List Int→List Int
 | 0,out=>out
 | k+1,out=>bkL n cs c x k (match (zGN n (out.getD 0 0).toNat n.h.toNat).find? fun o=>decide ((zAV n cs k).getD (o*8+c) 0=x) with | some o=>(o:Int)::out | none=>out)
abbrev zUt (S:List (List Int)):PV := .box (.own 80 (S.map hdV))
def zRz (n:Nw) (cs:List (Int×Int)) (k:Nat):List (List Int):=(List.range k).map fun k=>zAV n cs k
theorem zMs {n:Nw} {cs:List (Int×Int)} {k:Nat}:zRz n cs (k+1)=zRz n cs k++[zAV n cs k]:=by
 simp only [zRz,List.range_succ,List.map_append,List.map_cons,List.map_nil]
theorem zLD {n:Nw} {cs:List (Int×Int)} {k j:Nat} (h:j<k):(zRz n cs k).getD j []=zAV n cs j:=by
 simp [zRz,List.getD_eq_getElem?_getD,h]
theorem zVv (n:Nw) (cs:List (Int×Int)) (h:Int) (ho:NwOk n) (hh:0≤h∧h<n.h):zF9 169 [] [.ref (zDQ n cs),.ref (I h)] (zJE n h.toNat n.h.toNat):=by
 obtain ⟨g,rfl⟩:∃ g:Nat,h=g:=⟨h.toNat,by omega⟩
 exact zUL n cs g ho hh.2
theorem zKD {p:Nat→Bool}:∀ {l:List Nat} {j o:Nat},l[j]? = some o→p o=true→(∀ i,i<j→p (l.getD i 0)=false)→l.find? p=some o
 | [],j,o,h,_,_=>by cases h
 | x::l,0,o,h,hp,_=>by
  simp only [List.getElem?_cons_zero,Option.some.injEq] at h
  subst h;rw [List.find?_cons,hp]
 | x::l,j+1,o,h,hp,ha=>by
  have h0:=ha 0 (by omega)
  simp only [List.getD_cons_zero] at h0
  rw [List.find?_cons,h0]
  exact zKD (by simpa using h) hp fun i hi=>by simpa using ha (i+1) (by omega)
theorem zPI {p:Nat→Bool} {l:List Nat} (ha:∀ i,i<l.length→p (l.getD i 0)=false):l.find? p=none:=by
 rw [List.find?_eq_none]
 intro x hx
 obtain ⟨i,hi,rfl⟩:=List.getElem_of_mem hx
 have:=ha i hi
 rw [zAr hi] at this
 simp [this]
theorem f38_1 (n:Nw) (cs:List (Int×Int)) (h:Int) (x:Int) (k:Nat) (ho:CrOk n cs) (hh:0≤h∧h<n.h) (hx:0≤x∧x<n.n.length) (hk:k≤12) (jl:(zAV n cs k).getD (h.toNat*8+((zAk n).getD x.toNat 0).toNat) 0=x) (hm:∀ j,j<k→(zAV n cs j).getD (h.toNat*8+((zAk n).getD x.toNat 0).toNat) 0≠x):FG 38 [nwV n,prs cs,I h,I x] (.tup [.own 1 ((bkL n cs ((zAk n).getD x.toNat 0).toNat x k [h]).map I),I 0]):=by
 have hn:=ho.nw
 have kj:=ho.w
 have hb:=hn.h
 have uH:=hn.nl
 have hin:inB x 0 (n.n.length-1)=true:=by simp only [inB,Bool.and_eq_true,decide_eq_true_eq];omega
 have hih:inB h 0 (n.h-1)=true:=by simp only [inB,Bool.and_eq_true,decide_eq_true_eq];omega
 have LC:=zCf hn x.toNat (by omega)
 refine zAf Tryz.f38 ?_
 refine zAb (zAa (zAd 4 (zAc (zAb (zAa (zAd 2 (S_a [(8,.ret (PV.tup [zDQ n cs,I 0]) ([]))] (ap (f99_1 (n) (cs) (by omega)) an) (zAd 5 (zAc (zAb (zAh 0 (zAb (zAa (zAd 3 (zAc (zAU (zAb (zAa (zAd 2 (S_a [(8,.ret (PV.bool (inB h 0 (n.h-1))) ([]))] (ap (f109 (n) (h) (by omega)) an) (zAd 2 (zDV 32 (!inB h 0 (n.h-1)) (fun k1=>(zAd 6 (zAc (zBT (zAb (zAa (zAd 2 (zAc (zAl (E_a [] an (PV.tup [PV.own 1 [],I 1]) ([]) ?_ rfl)))))))))) (fun k1=>(zAd 2 (S_a [(8,.ret (PV.bool (inB x 0 ((↑n.n.length:Int)-1))) ([]))] (ap (f106 (n) (x) (by first | omega | (simp<;>omega))) an) (zAd 3 (zAc (zD4 (!inB x 0 ((↑n.n.length:Int)-1)) (fun k2=>(zAb (zAa (zAd 2 (zAc (zAl (E_a [] an (PV.tup [PV.own 1 [],I 1]) ([]) ?_ rfl))))))) (fun k2=>(zAi (zAb (zAa (zAd 4 (S_a [(0,.ob),(1,.ob),(0,.v ((I ((zAk n).getD x.toNat 0)).ref))] (ap ((by exact zAp (by omega)):decide (0≤x)=true) (ap ((by exact zAp (by omega)):decide (x.toNat<8)=true) (ap (zGw (F:=zAk n) (m:=8) (j:=x.toNat) (by omega):zCb (PV.agg (zAS (zAk n) 8)).ref (x.toNat*(fun x=>x.size) Tryz.prog.types[3]) none=some (I ((zAk n).getD x.toNat 0)).ref) an))) (zAd 3 (zAc (zAb (zAa (zAd 1 (S_a [(5,.ret (hdV (zOo n cs)) ([]))] (ap (f100 (n) (cs) (by omega)) an) (zAd 3 (zAc (zAb (zAh 1 ?_))))))))))))))))))))))))))))))))))))))))))))
 ·rw [hih] at k1;cases k1
 ·rw [hin] at k2;cases k2
 ·generalize hc:((zAk n).getD x.toNat 0)=c at *
  refine zAo (fun (j,S)=>j≤k∧S=zRz n cs (j+1)) (fun (j,S)=>[(13,zUt S)]) (fun (j,_)=>k-j) ((0:Nat),[zOo n cs]) ⟨by omega,rfl⟩ fun (j,S) ⟨hj,hS⟩=>?_
  have hSl:S.length=j+1:=by rw [hS];simp [zRz]
  have qE:S.getD (S.length-1) []=zAV n cs j:=by rw [hSl,hS];exact zLD (by omega)
  have hwl:(S.getD (S.length-1) []).length=80:=by rw [qE];exact zBB j
  by_cases wH:j<k
  ·have hI:=hm j wH
   rw [← qE] at hI
   have hSS:S++[zCo n (S.getD (S.length-1) [])]=zRz n cs (j+1+1):=by rw [zMs (k:=j+1),← hS,qE];rfl
   refine zAb (zAb (zAa (S_a [(1,.v (PV.bor 13 [(0,0)] 80 0 S.length))] (ap ((by simp):PV.bor 13 [(0,0)] 80 0 (List.map hdV S).length=PV.bor 13 [(0,0)] 80 0 S.length) an) (S_a [(1,.v (PV.bor 13 [(0,0)] 80 0 S.length))] (ap ((by simp):PV.bor 13 [(0,0)] 80 0 (List.map hdV S).length=PV.bor 13 [(0,0)] 80 0 S.length) an) (zAd 1 (S_a [(1,.v (I (↑(S.length-1):Int)))] (ap ((zDm (by omega) (by omega)):I (IntKind.i64.wrap ((↑S.length:Int)-1))=I (↑(S.length-1):Int)) an) (zAd 2 (S_a [(2,.ob),(1,.n (S.length-1))] (ap ((by exact zAp (by omega)):decide (S.length-1<S.length)=true) (ap ((by simp):some (0+(S.length-1))=some (S.length-1)) an)) (S_a [(0,.ob),(1,.ob)] (ap ((by exact zAp (by omega)):decide (0≤h)=true) (ap ((by exact zAp (by omega)):decide (h.toNat<10)=true) an)) (S_a [(0,.ob),(1,.ob)] (ap ((by exact zAp (by omega)):decide (0≤c)=true) (ap ((by exact zAp (by omega)):decide (c.toNat<8)=true) an)) (S_a [(0,.cs true ([I ((S.getD (S.length-1) []).getD (h.toNat*8+c.toNat) 0)]))] (ap (zDk (q:=PV.own 80 (List.map hdV S)) (xs:=List.map hdV S) (x:=PV.agg (zAS (S.getD (S.length-1) []) 80)) (zM4 (xs:=[PV.own 80 (List.map hdV S)]) (x:=PV.own 80 (List.map hdV S)) (y:=PV.own 80 (List.map hdV S)) rfl rfl) (zBA ([]) (by omega)) (zE7 (F:=S.getD (S.length-1) []) (m:=80) (j:=h.toNat*8+c.toNat) (by first | rfl | exact zBZ (by kernel_rfl) | exact zBW (by kernel_rfl) | exact zDF (by kernel_rfl) (by kernel_rfl) | exact zDI (by kernel_rfl) | exact zDU (by kernel_rfl) (by kernel_rfl) | exact zDG (by kernel_rfl) | (simp;done)) (by omega)):zAt 13 (PV.own 80 (List.map hdV S)).box [(0,0)] (S.length-1) (0+h.toNat*(fun x=>x.size) Tryz.prog.types[128]+c.toNat*(fun x=>x.size) Tryz.prog.types[3]) 1=some (true,[I ((S.getD (S.length-1) []).getD (h.toNat*8+c.toNat) 0)])) an) (zAd 2 (zAc (zCj ((S.getD (S.length-1) []).getD (h.toNat*8+c.toNat) 0=x) (by omega) (zAi (zAh 2 (zAb (zAb (zAa (S_a [(1,.v (PV.bor 13 [(0,0)] 80 0 S.length))] (ap ((by simp):PV.bor 13 [(0,0)] 80 0 (List.map hdV S).length=PV.bor 13 [(0,0)] 80 0 S.length) an) (zAd 2 (zAc (zAO ((↑S.length:Int)>12) (by omega) (zAi (zAa (S_a [(1,.v (PV.bor 13 [(0,0)] 80 0 S.length))] (ap ((by simp):PV.bor 13 [(0,0)] 80 0 (List.map hdV S).length=PV.bor 13 [(0,0)] 80 0 S.length) an) (zAd 1 (S_a [(1,.v (PV.bor 13 [(0,0)] 80 0 S.length))] (ap ((by simp):PV.bor 13 [(0,0)] 80 0 (List.map hdV S).length=PV.bor 13 [(0,0)] 80 0 S.length) an) (S_a [(1,.v (PV.bor 13 [(0,0)] 80 0 S.length))] (ap ((by simp):PV.bor 13 [(0,0)] 80 0 (List.map hdV S).length=PV.bor 13 [(0,0)] 80 0 S.length) an) (zAd 1 (S_a [(1,.v (I (↑(S.length-1):Int)))] (ap ((zDm (by omega) (by omega)):I (IntKind.i64.wrap ((↑S.length:Int)-1))=I (↑(S.length-1):Int)) an) (S_a [(2,.ob),(1,.n (S.length-1))] (ap ((by exact zAp (by omega)):decide (S.length-1<S.length)=true) (ap ((by simp):some (0+(S.length-1))=some (S.length-1)) an)) (S_a [(0,.cs true (zAS (S.getD (S.length-1) []) 80))] (ap (zDk (q:=PV.own 80 (List.map hdV S)) (xs:=List.map hdV S) (x:=PV.agg (zAS (S.getD (S.length-1) []) 80)) (zM4 (xs:=[PV.own 80 (List.map hdV S)]) (x:=PV.own 80 (List.map hdV S)) (y:=PV.own 80 (List.map hdV S)) rfl rfl) (zBA ([]) (by omega)):zAt 13 (PV.own 80 (List.map hdV S)).box [(0,0)] (S.length-1) 0 Tryz.prog.types[130].size=some (true,zAS (S.getD (S.length-1) []) 80)) an) (S_a [(7,.ret (hdV (zCo n (S.getD (S.length-1) []))) ([]))] (ap (f101 (n) (cs) (S.getD (S.length-1) []) (by omega) (by omega)) an) (zAd 1 (S_a [(4,.ob),(0,.ob),(0,.yes),(2,.v (PV.own 80 (List.map hdV (S++[zCo n (S.getD (S.length-1) [])]))))] (ap ((by exact zBs (by simp only [List.length_map,zzLn,zA1]<;>omega)):(0+S.length).ble (List.map hdV S).length=true) (ap ((by exact zBs (by simp only [List.length_map,zzLn,zA1]<;>omega)):((List.map hdV S).length + [PV.agg (zAS (zCo n (S.getD (S.length-1) [])) 80)].length).ble zA1=true) (ap ((by exact zBr (by simp<;>omega)):(0+S.length).beq (List.map hdV S).length=true) (ap ((zAR (zCv (by kernel_rfl))):PV.own 80 (List.map hdV S++[PV.agg (zAS (zCo n (S.getD (S.length-1) [])) 80)])=PV.own 80 (List.map hdV (S++[zCo n (S.getD (S.length-1) [])]))) an)))) (zAd 1 (zAc ?_))))))))))))))))))))))))))))))))))))))
   exact ⟨(j+1,S++[zCo n (S.getD (S.length-1) [])]),⟨by omega,hSS⟩,by simp only;omega,by kernel_rfl,by kernel_rfl⟩
  ·have e:j=k:=by omega
   subst e
   rw [← qE] at jl
   refine zAb (zAb (zAa (S_a [(1,.v (PV.bor 13 [(0,0)] 80 0 S.length))] (ap ((by simp):PV.bor 13 [(0,0)] 80 0 (List.map hdV S).length=PV.bor 13 [(0,0)] 80 0 S.length) an) (S_a [(1,.v (PV.bor 13 [(0,0)] 80 0 S.length))] (ap ((by simp):PV.bor 13 [(0,0)] 80 0 (List.map hdV S).length=PV.bor 13 [(0,0)] 80 0 S.length) an) (zAd 1 (S_a [(1,.v (I (↑(S.length-1):Int)))] (ap ((zDm (by omega) (by omega)):I (IntKind.i64.wrap ((↑S.length:Int)-1))=I (↑(S.length-1):Int)) an) (zAd 2 (S_a [(2,.ob),(1,.n (S.length-1))] (ap ((by exact zAp (by omega)):decide (S.length-1<S.length)=true) (ap ((by simp):some (0+(S.length-1))=some (S.length-1)) an)) (S_a [(0,.ob),(1,.ob)] (ap ((by exact zAp (by omega)):decide (0≤h)=true) (ap ((by exact zAp (by omega)):decide (h.toNat<10)=true) an)) (S_a [(0,.ob),(1,.ob)] (ap ((by exact zAp (by omega)):decide (0≤c)=true) (ap ((by exact zAp (by omega)):decide (c.toNat<8)=true) an)) (S_a [(0,.cs true ([I ((S.getD (S.length-1) []).getD (h.toNat*8+c.toNat) 0)]))] (ap (zDk (q:=PV.own 80 (List.map hdV S)) (xs:=List.map hdV S) (x:=PV.agg (zAS (S.getD (S.length-1) []) 80)) (zM4 (xs:=[PV.own 80 (List.map hdV S)]) (x:=PV.own 80 (List.map hdV S)) (y:=PV.own 80 (List.map hdV S)) rfl rfl) (zBA ([]) (by omega)) (zE7 (F:=S.getD (S.length-1) []) (m:=80) (j:=h.toNat*8+c.toNat) (by first | rfl | exact zBZ (by kernel_rfl) | exact zBW (by kernel_rfl) | exact zDF (by kernel_rfl) (by kernel_rfl) | exact zDI (by kernel_rfl) | exact zDU (by kernel_rfl) (by kernel_rfl) | exact zDG (by kernel_rfl) | (simp;done)) (by omega)):zAt 13 (PV.own 80 (List.map hdV S)).box [(0,0)] (S.length-1) (0+h.toNat*(fun x=>x.size) Tryz.prog.types[128]+c.toNat*(fun x=>x.size) Tryz.prog.types[3]) 1=some (true,[I ((S.getD (S.length-1) []).getD (h.toNat*8+c.toNat) 0)])) an) (zAd 2 (zAc (zEc ((S.getD (S.length-1) []).getD (h.toNat*8+c.toNat) 0=x) (by omega) (zAv 1 (zAb (zAa (zAd 4 (zAc (zAb (zAb (zAa (S_a [(1,.v (PV.bor 13 [(0,0)] 80 0 S.length))] (ap ((by simp):PV.bor 13 [(0,0)] 80 0 (List.map hdV S).length=PV.bor 13 [(0,0)] 80 0 S.length) an) (zAd 1 (S_a [(1,.v (I ((↑S.length:Int)-2)))] (ap ((zDm rfl (by omega)):I (IntKind.i64.wrap ((↑S.length:Int)-2))=I ((↑S.length:Int)-2)) an) (zAd 2 (zAc (zAh 3 ?_))))))))))))))))))))))))))))
   have hS0:∀ r:Nat,r<S.length→(S.getD r []).length=80∧S.getD r []=zAV n cs r:=fun r hr=>by
    rw [hS,zLD (by omega)];exact ⟨zBB r,rfl⟩
   have hSm:((S.length:Nat):Int)-2=(j:Int)-1:=by omega
   generalize yM:bkL n cs c.toNat x j [h]=fin
   clear hS qE hwl jl hm
   refine zAo (fun ((m:Int),(out:List Int))=>-1≤m∧m<j∧out.length≤20-m∧0<out.length∧(0≤out.getD 0 0∧out.getD 0 0<n.h)∧bkL n cs c.toNat x (m+1).toNat out=fin) (fun (m,out)=>[(14,.box (.own 1 (out.map I))),(15,.box (I m))]) (fun (m,_)=>(m+1).toNat) (((S.length:Nat):Int)-2,[h]) ⟨by omega,by omega,by simp only [List.length_cons,List.length_nil];omega,by simp,by simpa using hh,by rw [← yM];congr 1;omega⟩ fun (m,out) ⟨hm1,vS,ho1,ho2,ho3,gb⟩=>?_
   by_cases gJ:0≤m
   ·have hA:=zVv n cs (out.getD 0 0) hn ho3
    obtain ⟨uk,uU⟩:=hS0 m.toNat (by omega)
    rw [show (m+1).toNat=m.toNat+1 by omega,bkL,← uU] at gb
    refine zAb (zAb (zAa (zAd 2 (zAc (zAL (m≥0) (by omega) (zAi (zAb (zAh 4 (zVI (zAb (zVq (zAb (zAa (zAd 1 (S_a [(1,.v (PV.bor 14 [(0,0)] 1 0 out.length))] (ap ((by simp):PV.bor 14 [(0,0)] 1 0 (List.map I out).length=PV.bor 14 [(0,0)] 1 0 out.length) an) (S_a [(2,.ob)] (ap ((by exact zAp (by omega)):decide (0<out.length)=true) an) (S_a [(0,.cs false ([I (out.getD 0 0)]))] (ap (zDk (q:=PV.own 1 (List.map I out)) (xs:=List.map I out) (x:=I (out.getD 0 0)) (zM4 (xs:=[PV.own 1 (List.map I out)]) (x:=PV.own 1 (List.map I out)) (y:=PV.own 1 (List.map I out)) rfl rfl) (zBA (0) (by omega)):zAt 14 (PV.own 1 (List.map I out)).box [(0,0)] 0 0 1=some (false,[I (out.getD 0 0)])) an) (S_a [(7,.ret (PV.func 169 [] [(zDQ n cs).ref,(I (out.getD 0 0)).ref]) ([]))] (ap (f116 (n) (cs) (out.getD 0 0)) an) (zAc (zAh 5 ?_))))))))))))))))))))
    refine zOs (t:=86) hA (fun i (_:Unit)=>∀ r,r<i→decide ((S.getD m.toNat []).getD ((zGN n (out.getD 0 0).toNat n.h.toNat).getD r 0*8+c.toNat) 0=x)=false) (fun _=>[]) () (fun r hr=>absurd hr (Nat.not_lt_zero r)) (fun i y _ hy hi=>?_) (fun _ hi=>?_)
    ·rw [List.getElem?_map] at hy
     obtain ⟨o,hmo,rfl⟩:=Option.map_eq_some_iff.1 hy
     have hol:o<n.h.toNat:=zRU (List.mem_of_getElem? hmo)
     refine zPa ?_
     refine zAa (zAd 1 (zAc ?_))
     have jU:(zGN n (out.getD 0 0).toNat n.h.toNat).getD i 0=o:=by rw [List.getD_eq_getElem?_getD,hmo];rfl
     refine ⟨rfl,by kernel_rfl,?_⟩
     refine zAh 6 (zAb (zAa (S_a [(1,.v (PV.bor 13 [(0,0)] 80 0 S.length))] (ap ((by simp):PV.bor 13 [(0,0)] 80 0 (List.map hdV S).length=PV.bor 13 [(0,0)] 80 0 S.length) an) (zAd 3 (S_a [(0,.ob),(1,.ob),(1,.n (m.toNat))] (ap ((by exact zAp (by omega)):decide (0≤m)=true) (ap ((by exact zAp (by omega)):decide (m.toNat<S.length)=true) (ap ((by simp):some (0+m.toNat)=some m.toNat) an))) (S_a [(2,.ob)] (ap ((by exact zAp (by omega)):decide (o<10)=true) an) (S_a [(0,.ob),(1,.ob)] (ap ((by exact zAp (by omega)):decide (0≤c)=true) (ap ((by exact zAp (by omega)):decide (c.toNat<8)=true) an)) (S_a [(0,.cs true ([I ((S.getD m.toNat []).getD (o*8+c.toNat) 0)]))] (ap (zDk (q:=PV.own 80 (List.map hdV S)) (xs:=List.map hdV S) (x:=PV.agg (zAS (S.getD m.toNat []) 80)) (zM4 (xs:=[PV.own 80 (List.map hdV S)]) (x:=PV.own 80 (List.map hdV S)) (y:=PV.own 80 (List.map hdV S)) rfl rfl) (zBA ([]) (by omega)) (zE7 (F:=S.getD m.toNat []) (m:=80) (j:=o*8+c.toNat) (by first | rfl | exact zBZ (by kernel_rfl) | exact zBW (by kernel_rfl) | exact zDF (by kernel_rfl) (by kernel_rfl) | exact zDI (by kernel_rfl) | exact zDU (by kernel_rfl) (by kernel_rfl) | exact zDG (by kernel_rfl) | (simp;done)) (by omega)):zAt 13 (PV.own 80 (List.map hdV S)).box [(0,0)] m.toNat (0+(↑o:Int).toNat*(fun x=>x.size) Tryz.prog.types[128]+c.toNat*(fun x=>x.size) Tryz.prog.types[3]) 1=some (true,[I ((S.getD m.toNat []).getD (o*8+c.toNat) 0)])) an) (zAd 2 (zAc (zBU ((S.getD m.toNat []).getD (o*8+c.toNat) 0=x) (fun k2=>(zAb (zAa (zAd 2 (S_a [(1,.v (PV.bor 14 [(0,0)] 1 0 out.length))] (ap ((by simp):PV.bor 14 [(0,0)] 1 0 (List.map I out).length=PV.bor 14 [(0,0)] 1 0 out.length) an) (S_a [(1,.ob),(0,.vs (List.map I out)),(0,.ob),(0,.ob),(0,.ob),(3,.ob)] (ap ((by exact zBs (by simp only [List.length_map,zzLn,zA1]<;>omega)):(0+out.length).ble (List.map I out).length=true) (ap ((by simp [zEO]):List.take out.length (List.drop 0 (List.map I out))=List.map I out) (ap ((by exact all_map _):((List.map I out).all fun x=>x.plain)=true) (ap ((by exact all_map _):((List.map I out).all fun y=>y.cells.length.beq ((fun x=>x.size) Tryz.prog.types[3])&&y.cells.all fun q=>q.oneCell)=true) (ap ((by exact List.isEmpty_iff.2 (zMg _)):(zBp (List.map I out)).isEmpty=true) (ap ((by exact zBs (by simp only [List.length_map,zzLn,zA1]<;>omega)):([I (↑o:Int)].length+(List.map I out).length).ble zA1=true) an)))))) (zAd 1 (zAc (zAv 5 ?_))))))))) (fun k2=>(zAi ?_)))))))))))))
     ·rw [zKD hmo (decide_eq_true (by assumption)) hi] at gb
      clear hi hmo hA
      refine ⟨by kernel_rfl,?_⟩
      refine zAb (zAb (zAa (zAd 1 (zAc (zAa (zAd 2 (zAc (zAa (zAd 1 (S_a [(1,.v (I (m-1)))] (ap ((zDm rfl (by omega)):I (IntKind.i64.wrap (m-1))=I (m-1)) an) (zAd 1 (zAc ?_))))))))))))
      exact ⟨(m-1,(o:Int)::out),⟨by omega,by omega,by simp only [List.length_cons];omega,by simp,by simp only [List.getD_cons_zero];omega,by rw [show (m-1+1).toNat=m.toNat by omega];exact gb⟩,by simp only;omega,by kernel_rfl,by kernel_rfl⟩
     ·refine ⟨by kernel_rfl,(),fun r hr=>?_,by kernel_rfl⟩
      rcases Nat.lt_succ_iff_lt_or_eq.1 hr with h | rfl
      ·exact hi r h
      ·rw [jU];exact decide_eq_false (by assumption)
    ·rw [zPI (by simpa using hi)] at gb
     clear hi hA
     show W _ _ _ _ _ _ _ _
     refine zAb (zAb (zAa (zAd 1 (zAc (zAa (zAd 2 (zAc (zAa (zAd 1 (S_a [(1,.v (I (m-1)))] (ap ((zDm rfl (by omega)):I (IntKind.i64.wrap (m-1))=I (m-1)) an) (zAd 1 (zAc ?_))))))))))))
     exact ⟨(m-1,out),⟨by omega,by omega,by omega,ho2,ho3,by rw [show (m-1+1).toNat=m.toNat by omega];exact gb⟩,by simp only;omega,by kernel_rfl,by kernel_rfl⟩
   ·have hm3:(m+1).toNat=0:=by omega
    rw [hm3,bkL] at gb
    rw [← gb]
    refine zAb (zAb (zAa (zAd 2 (zAc (zAO (m≥0) (by omega) (zAv 3 (zAb (zAa (S_a [(1,.v (PV.bor 14 [(0,0)] 1 0 out.length))] (ap ((by simp):PV.bor 14 [(0,0)] 1 0 (List.map I out).length=PV.bor 14 [(0,0)] 1 0 out.length) an) (S_a [(2,.yes)] (ap ((by exact zBr (by simp<;>omega)):(Nat.beq 0 0&&out.length.beq (List.map I out).length)=true) an) (zAd 1 (zAc (zAl (E_a [(1,.yes),(1,.v (PV.own 1 (List.map I out)))] (ap (blz (List.map I out)) (ap ((zAR zAK):PV.own 1 (List.take (List.map I out).length (List.drop 0 (List.map I out)))=PV.own 1 (List.map I out)) an)) (PV.tup [PV.own 1 (List.map I out),I 0]) ([]) rfl rfl))))))))))))))
end Go.Eng
set_option maxRecDepth 10000
set_option maxHeartbeats 4000000
namespace Go.Eng
open Go Go.Proofs
theorem f38_2 (n:Nw) (cs:List (Int×Int)) (h:Int) (x:Int) (ho:CrOk n cs) (hh:0≤h∧h<n.h) (hx:0≤x∧x<n.n.length) (hm:∀ j,j≤12→(zAV n cs j).getD (h.toNat*8+((zAk n).getD x.toNat 0).toNat) 0≠x):FG 38 [nwV n,prs cs,I h,I x] (.tup [.own 1 [],I 6]):=by
 have hn:=ho.nw
 have kj:=ho.w
 have hb:=hn.h
 have uH:=hn.nl
 have hin:inB x 0 (n.n.length-1)=true:=by simp only [inB,Bool.and_eq_true,decide_eq_true_eq];omega
 have hih:inB h 0 (n.h-1)=true:=by simp only [inB,Bool.and_eq_true,decide_eq_true_eq];omega
 have LC:=zCf hn x.toNat (by omega)
 refine zAf Tryz.f38 ?_
 refine zAb (zAa (zAd 4 (zAc (zAb (zAa (zAd 2 (S_a [(8,.ret (PV.tup [zDQ n cs,I 0]) ([]))] (ap (f99_1 (n) (cs) (by omega)) an) (zAd 5 (zAc (zAb (zAh 0 (zAb (zAa (zAd 3 (zAc (zAU (zAb (zAa (zAd 2 (S_a [(8,.ret (PV.bool (inB h 0 (n.h-1))) ([]))] (ap (f109 (n) (h) (by omega)) an) (zAd 2 (zDV 32 (!inB h 0 (n.h-1)) (fun k0=>(zAd 6 (zAc (zBT (zAb (zAa (zAd 2 (zAc (zAl (E_a [] an (PV.tup [PV.own 1 [],I 1]) ([]) ?_ rfl)))))))))) (fun k0=>(zAd 2 (S_a [(8,.ret (PV.bool (inB x 0 ((↑n.n.length:Int)-1))) ([]))] (ap (f106 (n) (x) (by first | omega | (simp<;>omega))) an) (zAd 3 (zAc (zD4 (!inB x 0 ((↑n.n.length:Int)-1)) (fun k1=>(zAb (zAa (zAd 2 (zAc (zAl (E_a [] an (PV.tup [PV.own 1 [],I 1]) ([]) ?_ rfl))))))) (fun k1=>(zAi (zAb (zAa (zAd 4 (S_a [(0,.ob),(1,.ob),(0,.v ((I ((zAk n).getD x.toNat 0)).ref))] (ap ((by exact zAp (by omega)):decide (0≤x)=true) (ap ((by exact zAp (by omega)):decide (x.toNat<8)=true) (ap (zGw (F:=zAk n) (m:=8) (j:=x.toNat) (by omega):zCb (PV.agg (zAS (zAk n) 8)).ref (x.toNat*(fun x=>x.size) Tryz.prog.types[3]) none=some (I ((zAk n).getD x.toNat 0)).ref) an))) (zAd 3 (zAc (zAb (zAa (zAd 1 (S_a [(5,.ret (hdV (zOo n cs)) ([]))] (ap (f100 (n) (cs) (by omega)) an) (zAd 3 (zAc (zAb (zAh 1 ?_))))))))))))))))))))))))))))))))))))))))))))
 ·exact absurd (by assumption:(!inB h 0 (n.h-1))=true) (by rw [hih];simp)
 ·exact absurd (by assumption:(!inB x 0 (n.n.length-1))=true) (by rw [hin];simp)
 ·generalize hc:((zAk n).getD x.toNat 0)=c at *
  refine zAo (fun (j,S)=>j≤12∧S=zRz n cs (j+1)) (fun (j,S)=>[(13,zUt S)]) (fun (j,_)=>12-j) ((0:Nat),[zOo n cs]) ⟨by omega,rfl⟩ fun (j,S) ⟨hj,hS⟩=>?_
  have hSl:S.length=j+1:=by rw [hS];simp [zRz]
  have qE:S.getD (S.length-1) []=zAV n cs j:=by rw [hSl,hS];exact zLD (by omega)
  have hwl:(S.getD (S.length-1) []).length=80:=by rw [qE];exact zBB j
  have hI:=hm j hj
  rw [← qE] at hI
  have hSS:S++[zCo n (S.getD (S.length-1) [])]=zRz n cs (j+1+1):=by rw [zMs (k:=j+1),← hS,qE];rfl
  by_cases wH:j<12
  ·refine zAb (zAb (zAa (S_a [(1,.v (PV.bor 13 [(0,0)] 80 0 S.length))] (ap ((by simp):PV.bor 13 [(0,0)] 80 0 (List.map hdV S).length=PV.bor 13 [(0,0)] 80 0 S.length) an) (S_a [(1,.v (PV.bor 13 [(0,0)] 80 0 S.length))] (ap ((by simp):PV.bor 13 [(0,0)] 80 0 (List.map hdV S).length=PV.bor 13 [(0,0)] 80 0 S.length) an) (zAd 1 (S_a [(1,.v (I (↑(S.length-1):Int)))] (ap ((zDm (by omega) (by omega)):I (IntKind.i64.wrap ((↑S.length:Int)-1))=I (↑(S.length-1):Int)) an) (zAd 2 (S_a [(2,.ob),(1,.n (S.length-1))] (ap ((by exact zAp (by omega)):decide (S.length-1<S.length)=true) (ap ((by simp):some (0+(S.length-1))=some (S.length-1)) an)) (S_a [(0,.ob),(1,.ob)] (ap ((by exact zAp (by omega)):decide (0≤h)=true) (ap ((by exact zAp (by omega)):decide (h.toNat<10)=true) an)) (S_a [(0,.ob),(1,.ob)] (ap ((by exact zAp (by omega)):decide (0≤c)=true) (ap ((by exact zAp (by omega)):decide (c.toNat<8)=true) an)) (S_a [(0,.cs true ([I ((S.getD (S.length-1) []).getD (h.toNat*8+c.toNat) 0)]))] (ap (zDk (q:=PV.own 80 (List.map hdV S)) (xs:=List.map hdV S) (x:=PV.agg (zAS (S.getD (S.length-1) []) 80)) (zM4 (xs:=[PV.own 80 (List.map hdV S)]) (x:=PV.own 80 (List.map hdV S)) (y:=PV.own 80 (List.map hdV S)) rfl rfl) (zBA ([]) (by omega)) (zE7 (F:=S.getD (S.length-1) []) (m:=80) (j:=h.toNat*8+c.toNat) (by first | rfl | exact zBZ (by kernel_rfl) | exact zBW (by kernel_rfl) | exact zDF (by kernel_rfl) (by kernel_rfl) | exact zDI (by kernel_rfl) | exact zDU (by kernel_rfl) (by kernel_rfl) | exact zDG (by kernel_rfl) | (simp;done)) (by omega)):zAt 13 (PV.own 80 (List.map hdV S)).box [(0,0)] (S.length-1) (0+h.toNat*(fun x=>x.size) Tryz.prog.types[128]+c.toNat*(fun x=>x.size) Tryz.prog.types[3]) 1=some (true,[I ((S.getD (S.length-1) []).getD (h.toNat*8+c.toNat) 0)])) an) (zAd 2 (zAc (zCj ((S.getD (S.length-1) []).getD (h.toNat*8+c.toNat) 0=x) (by omega) (zAi (zAh 2 (zAb (zAb (zAa (S_a [(1,.v (PV.bor 13 [(0,0)] 80 0 S.length))] (ap ((by simp):PV.bor 13 [(0,0)] 80 0 (List.map hdV S).length=PV.bor 13 [(0,0)] 80 0 S.length) an) (zAd 2 (zAc (zAO ((↑S.length:Int)>12) (by omega) (zAi (zAa (S_a [(1,.v (PV.bor 13 [(0,0)] 80 0 S.length))] (ap ((by simp):PV.bor 13 [(0,0)] 80 0 (List.map hdV S).length=PV.bor 13 [(0,0)] 80 0 S.length) an) (zAd 1 (S_a [(1,.v (PV.bor 13 [(0,0)] 80 0 S.length))] (ap ((by simp):PV.bor 13 [(0,0)] 80 0 (List.map hdV S).length=PV.bor 13 [(0,0)] 80 0 S.length) an) (S_a [(1,.v (PV.bor 13 [(0,0)] 80 0 S.length))] (ap ((by simp):PV.bor 13 [(0,0)] 80 0 (List.map hdV S).length=PV.bor 13 [(0,0)] 80 0 S.length) an) (zAd 1 (S_a [(1,.v (I (↑(S.length-1):Int)))] (ap ((zDm (by omega) (by omega)):I (IntKind.i64.wrap ((↑S.length:Int)-1))=I (↑(S.length-1):Int)) an) (S_a [(2,.ob),(1,.n (S.length-1))] (ap ((by exact zAp (by omega)):decide (S.length-1<S.length)=true) (ap ((by simp):some (0+(S.length-1))=some (S.length-1)) an)) (S_a [(0,.cs true (zAS (S.getD (S.length-1) []) 80))] (ap (zDk (q:=PV.own 80 (List.map hdV S)) (xs:=List.map hdV S) (x:=PV.agg (zAS (S.getD (S.length-1) []) 80)) (zM4 (xs:=[PV.own 80 (List.map hdV S)]) (x:=PV.own 80 (List.map hdV S)) (y:=PV.own 80 (List.map hdV S)) rfl rfl) (zBA ([]) (by omega)):zAt 13 (PV.own 80 (List.map hdV S)).box [(0,0)] (S.length-1) 0 Tryz.prog.types[130].size=some (true,zAS (S.getD (S.length-1) []) 80)) an) (S_a [(7,.ret (hdV (zCo n (S.getD (S.length-1) []))) ([]))] (ap (f101 (n) (cs) (S.getD (S.length-1) []) (by omega) (by omega)) an) (zAd 1 (S_a [(4,.ob),(0,.ob),(0,.yes),(2,.v (PV.own 80 (List.map hdV (S++[zCo n (S.getD (S.length-1) [])]))))] (ap ((by exact zBs (by simp only [List.length_map,zzLn,zA1]<;>omega)):(0+S.length).ble (List.map hdV S).length=true) (ap ((by exact zBs (by simp only [List.length_map,zzLn,zA1]<;>omega)):((List.map hdV S).length + [PV.agg (zAS (zCo n (S.getD (S.length-1) [])) 80)].length).ble zA1=true) (ap ((by exact zBr (by simp<;>omega)):(0+S.length).beq (List.map hdV S).length=true) (ap ((zAR (zCv (by kernel_rfl))):PV.own 80 (List.map hdV S++[PV.agg (zAS (zCo n (S.getD (S.length-1) [])) 80)])=PV.own 80 (List.map hdV (S++[zCo n (S.getD (S.length-1) [])]))) an)))) (zAd 1 (zAc ?_))))))))))))))))))))))))))))))))))))))
   exact ⟨(j+1,S++[zCo n (S.getD (S.length-1) [])]),⟨by omega,hSS⟩,by simp only;omega,by kernel_rfl,by kernel_rfl⟩
  ·refine zAb (zAb (zAa (S_a [(1,.v (PV.bor 13 [(0,0)] 80 0 S.length))] (ap ((by simp):PV.bor 13 [(0,0)] 80 0 (List.map hdV S).length=PV.bor 13 [(0,0)] 80 0 S.length) an) (S_a [(1,.v (PV.bor 13 [(0,0)] 80 0 S.length))] (ap ((by simp):PV.bor 13 [(0,0)] 80 0 (List.map hdV S).length=PV.bor 13 [(0,0)] 80 0 S.length) an) (zAd 1 (S_a [(1,.v (I (↑(S.length-1):Int)))] (ap ((zDm (by omega) (by omega)):I (IntKind.i64.wrap ((↑S.length:Int)-1))=I (↑(S.length-1):Int)) an) (zAd 2 (S_a [(2,.ob),(1,.n (S.length-1))] (ap ((by exact zAp (by omega)):decide (S.length-1<S.length)=true) (ap ((by simp):some (0+(S.length-1))=some (S.length-1)) an)) (S_a [(0,.ob),(1,.ob)] (ap ((by exact zAp (by omega)):decide (0≤h)=true) (ap ((by exact zAp (by omega)):decide (h.toNat<10)=true) an)) (S_a [(0,.ob),(1,.ob)] (ap ((by exact zAp (by omega)):decide (0≤c)=true) (ap ((by exact zAp (by omega)):decide (c.toNat<8)=true) an)) (S_a [(0,.cs true ([I ((S.getD (S.length-1) []).getD (h.toNat*8+c.toNat) 0)]))] (ap (zDk (q:=PV.own 80 (List.map hdV S)) (xs:=List.map hdV S) (x:=PV.agg (zAS (S.getD (S.length-1) []) 80)) (zM4 (xs:=[PV.own 80 (List.map hdV S)]) (x:=PV.own 80 (List.map hdV S)) (y:=PV.own 80 (List.map hdV S)) rfl rfl) (zBA ([]) (by omega)) (zE7 (F:=S.getD (S.length-1) []) (m:=80) (j:=h.toNat*8+c.toNat) (by first | rfl | exact zBZ (by kernel_rfl) | exact zBW (by kernel_rfl) | exact zDF (by kernel_rfl) (by kernel_rfl) | exact zDI (by kernel_rfl) | exact zDU (by kernel_rfl) (by kernel_rfl) | exact zDG (by kernel_rfl) | (simp;done)) (by omega)):zAt 13 (PV.own 80 (List.map hdV S)).box [(0,0)] (S.length-1) (0+h.toNat*(fun x=>x.size) Tryz.prog.types[128]+c.toNat*(fun x=>x.size) Tryz.prog.types[3]) 1=some (true,[I ((S.getD (S.length-1) []).getD (h.toNat*8+c.toNat) 0)])) an) (zAd 2 (zAc (zCj ((S.getD (S.length-1) []).getD (h.toNat*8+c.toNat) 0=x) (by omega) (zAi (zAh 2 (zAb (zAb (zAa (S_a [(1,.v (PV.bor 13 [(0,0)] 80 0 S.length))] (ap ((by simp):PV.bor 13 [(0,0)] 80 0 (List.map hdV S).length=PV.bor 13 [(0,0)] 80 0 S.length) an) (zAd 2 (zAc (zAL ((↑S.length:Int)>12) (by omega) (zAb (zAa (zAd 2 (zAc (zAl (E_a [] an (PV.tup [PV.own 1 [],I 6]) ([]) rfl rfl)))))))))))))))))))))))))))))
end Go.Eng
set_option maxRecDepth 100000
set_option maxHeartbeats 4000000
namespace Go.Eng
open Go Go.Proofs
theorem zVf:FG 83 [] (.tup [nwO zDW,.own 2 (zFo.map prV)]):=zDj.closed 20
theorem zSQ:FG 22 [nwV zDW,prs zFo,I 1] (.tup [.own 2 [.agg [I 2,I 0],.agg [I 3,I 0]],I 0]):=by
 have:=f22_1 zDW zFo 1 (zR9 (by decide +kernel))
 rw [zO8] at this;exact this
theorem zNs:FG 29 [nwV zDW,prs zFo] (.tup [I 3,I 0]):=f29_1 zDW zFo 3 zKj (by decide) (by decide +kernel) (by decide +kernel)
theorem zTg:FG 38 [nwV zDW,prs zFo,I 2,I 0] (.tup [.own 1 [I 3,I 2],I 0]):=by
 have:=f38_1 zDW zFo 2 0 1 zKj (by decide) (by decide) (by decide) (by decide +kernel) (by decide +kernel)
 rw [show bkL zDW zFo ((zAk zDW).getD (0:Int).toNat 0).toNat 0 1 [2]=[3,2] from by decide +kernel] at this;exact this
theorem zXf:FG 38 [nwV zDW,prs zFo,I 1,I 0] (.tup [.own 1 [],I 6]):=f38_2 zDW zFo 1 0 zKj (by decide) (by decide) (by decide +kernel)
theorem zRw:FG 31 [nwV zDW,prs zFo] (.tup [I 3,I 0]):=by
 have:=f31_1 zDW zFo zKj
 rw [if_pos (show zBl zDW (zAV zDW zFo 12)=[] from by decide +kernel),if_pos (show zBl zDW (zAV zDW zFo 12)=[] from by decide +kernel),show zO2 zDW zFo 12=3 from by decide +kernel] at this;exact this
theorem zQo:FG 26 [nwV zDW,prs zFo,I 0] (.tup [.own 1 [I 3],I 0]):=by
 have:=f26_1 zDW zFo 0 (zR9 (by decide +kernel))
 rw [show zFk (msl zDW (zBl zDW (zAV zDW zFo (0:Int).toNat)))=[3] from by decide +kernel] at this;exact this
theorem zRa:FG 86 [nwV zDW] (.tup [.own 1 [],I 0]):=by
 have:=f86_1 zDW zUM
 rw [show zEy (zUd zDW) zDW.n.length=[] from by decide +kernel] at this;exact this
theorem f17:FG 17 [] (.bool true):=by
 have h1:=zVf
 have h2:=zSQ
 have h3:=zNs
 have h4:=zTg
 have h5:=zXf
 have h6:=zPL
 have h7:=zRw
 have h8:=zQo
 have h9:=zRa
 have l1:FG 78 [.sl [.agg [I 2,I 0],.agg [I 3,I 0]],.sl [.agg [I 2,I 0],.agg [I 3,I 0]]] (.bool true):=f78 [(2,0),(3,0)] [(2,0),(3,0)] (by decide)
 have l2:FG 28 [.sl [I 3,I 2],.sl [I 3,I 2]] (.bool true):=f28 [3,2] [3,2] (by decide)
 have l3:FG 34 [.sl [.agg [I 1,I 1]],.sl [.agg [I 1,I 1]]] (.bool true):=f34 [(1,1)] [(1,1)] (by decide)
 have l4:FG 28 [.sl [I 3],.sl [I 3]] (.bool true):=f28 [3] [3] (by decide)
 refine zAf Tryz.f17 ?_
 refine zAb (zAa (zAd 1 (zAc (zAb (zAa (S_a [(4,.ret (PV.tup [nwO zDW,PV.own 2 (List.map prV zFo)]) ([]))] (ap (h1) an) (zAd 6 (zAc (zAb (zAa (zAd 2 (S_a [(21,.ret (PV.tup [PV.own 2 [PV.agg [I 2,I 0],PV.agg [I 3,I 0]],I 0]) ([]))] (ap (h2) an) (zAd 5 (zAc (zAb (zAa (zAd 2 (S_a [(19,.ret (PV.tup [I 3,I 0]) ([]))] (ap (h3) an) (zAd 5 (zAc (zAb (zAa (zAd 2 (S_a [(23,.ret (PV.tup [PV.own 1 [I 3,I 2],I 0]) ([]))] (ap (h4) an) (zAd 5 (zAc (zAb (zAa (zAd 2 (S_a [(23,.ret (PV.tup [PV.own 1 [],I 6]) ([]))] (ap (h5) an) (zAd 5 (zAc (zAb (zAb (zAa (zAd 19 (S_a [(10,.ret (PV.bool true) ([]))] (ap (l1) an) (zAd 9 (S_a [(10,.ret (PV.bool true) ([]))] (ap (l2) an) (zAd 2 (zAc (zAU (zAi (zAb (zAa (zAd 3 (S_a [(24,.ret (PV.tup [PV.own 2 [PV.agg [I 1,I 1]],I 0]) ([]))] (ap (h6) an) (zAd 5 (zAc (zAb (zAa (zAd 2 (S_a [(19,.ret (PV.tup [I 3,I 0]) ([]))] (ap (h7) an) (zAd 5 (zAc (zAb (zAa (zAd 2 (S_a [(21,.ret (PV.tup [PV.own 1 [I 3],I 0]) ([]))] (ap (h8) an) (zAd 5 (zAc (zAb (zAa (zAd 1 (S_a [(16,.ret (PV.tup [PV.own 1 [],I 0]) ([]))] (ap (h9) an) (zAd 5 (zAc (zAb (zAa (zAd 18 (S_a [(10,.ret (PV.bool true) ([]))] (ap (l3) an) (zAd 8 (S_a [(10,.ret (PV.bool true) ([]))] (ap (l4) an) (zAd 3 (zAd 4 (zAc (zAl (E_a [] an (PV.bool true) ([]) rfl rfl))))))))))))))))))))))))))))))))))))))))))))))))))))))))))))))))))))))))))))))
end Go.Eng
namespace Go.Eng
open Go Go.Proofs
theorem zGV {n:Nw} (ho:NwOk n) (j:Nat):∀ i,j<i→i≤n.n.length→(zOt n.n i).getD j 0=(zOt n.n (j+1)).getD j 0
 | 0,h,_=>absurd h (Nat.not_lt_zero j)
 | i + 1,h,hi=>by
  have h8:=ho.nl.2
  by_cases hj:j=i
  ·subst hj;rfl
  ·rw [zOt,zJS (zG7 i) (by omega) (ho.na i (by omega)),if_neg hj]
   exact zGV ho j i (by omega) (by omega)
theorem zMj {n:Nw} (ho:NwOk n) {i:Nat} (hi:i<n.n.length):(zAk n).getD i 0=if (n.n.getD i default).1 = -1 then (i:Int) else (zAk n).getD (n.n.getD i default).1.toNat 0:=by
 have h8:=ho.nl.2
 have ha:=ho.na i hi
 unfold zAk
 rw [zGV ho i n.n.length hi (Nat.le_refl _),zOt,zJS (zG7 i) (by omega) ha,if_pos rfl]
 split
 ·rfl
 ·rename_i hI
  rw [zGV ho (n.n.getD i default).1.toNat i (by omega) (by omega),zGV ho (n.n.getD i default).1.toNat n.n.length (by omega) (Nat.le_refl _)]
def chn (n:Nw) (i j:Nat):Prop:=(zAk n).getD i 0=(zAk n).getD j 0
theorem zOL {n:Nw} (ho:NwOk n):∀ (j i:Nat),i<j→j<n.n.length→chn n i j→∃ k,i<k∧k≤j∧k<n.n.length∧(n.n.getD k default).1=i∧chn n k j:=by
 intro j
 induction j using Nat.strongRecOn with
 | ind j ih =>
  intro i qm hj hc
  have ha:=ho.na j hj
  have hr:=zMj ho hj
  have uS:=zCf ho i (by omega)
  by_cases h:(n.n.getD j default).1 = -1
  ·rw [if_pos h] at hr
   unfold chn at hc
   omega
  ·rw [if_neg h] at hr
   by_cases he:(n.n.getD j default).1=(i:Int)
   ·exact ⟨j,qm,Nat.le_refl _,hj,he,rfl⟩
   ·by_cases yJ:(i:Int)<(n.n.getD j default).1
    ·obtain ⟨k,h1,h2,h3,h4,h5⟩:=ih (n.n.getD j default).1.toNat (by omega) i (by omega) (by omega) (by unfold chn at hc ⊢;rw [hc,hr])
     exact ⟨k,h1,by omega,h3,h4,by unfold chn at h5 ⊢;rw [h5,hr]⟩
    ·
     exfalso
     obtain ⟨k,h1,h2,h3,h4,_⟩:=ih i qm (n.n.getD j default).1.toNat (by omega) (by omega) (by unfold chn at hc ⊢;rw [← hr,hc])
     exact ho.nd j k (by omega) hj h (by rw [h4];omega)
theorem zGd {F L:List Int} {i j:Nat} (h:i≠j):∀ k,(zS5 F i L k).getD j 0=L.getD j 0
 | 0=>rfl
 | k+1=>by
  rw [zG1,zL2]
  split
  ·rw [zCN,if_neg (fun h2=>h h2.1)];exact zGd h k
  ·exact zGd h k
theorem zSD {F L:List Int} {i:Nat} (hL:L.length=8) (hi:i<8) (h0:L.getD i 0=0):∀ k,∃ l:Nat,(zS5 F i L k).getD i 0=l∧(l=0∨l<k∧F.getD l 0=F.getD i 0)∧∀ j,j<k→F.getD j 0=F.getD i 0→j≤l
 | 0=>⟨0,h0,.inl rfl,fun j hj=>absurd hj (Nat.not_lt_zero j)⟩
 | k + 1 => by
  obtain ⟨l,h1,h2,h3⟩:=zSD hL hi h0 k
  rw [zG1,zL2]
  split
  ·rename_i hk
   refine ⟨max l k,?_,?_,fun j hj hf=>?_⟩
   ·rw [zCN,if_pos ⟨rfl,by rw [zIn];omega⟩,h1];omega
   ·by_cases yF:l≤k
    ·right;rw [Nat.max_eq_right yF];exact ⟨by omega,hk⟩
    ·rw [Nat.max_eq_left (by omega)]
     rcases h2 with h2 | ⟨h2,h4⟩
     ·exact .inl h2
     ·exact .inr ⟨by omega,h4⟩
   ·by_cases wH:j=k
    ·omega
    ·have:=h3 j (by omega) hf;omega
  ·rename_i hk
   refine ⟨l,h1,?_,fun j hj hf=>?_⟩
   ·rcases h2 with h2 | ⟨h2,h4⟩
    ·exact .inl h2
    ·exact .inr ⟨by omega,h4⟩
   ·by_cases wH:j=k
    ·subst wH;exact absurd hf hk
    ·exact h3 j (by omega) hf
theorem zMN {F:List Int} {m:Nat}:∀ i j,i≤j→(zQs F m i).getD j 0=0
 | 0,j,_=>by
  simp only [zQs,List.range_zero,List.foldl_nil,List.getD_eq_getElem?_getD,List.getElem?_replicate]
  split<;>rfl
 | i+1,j,h=>by rw [zFp,zGd (by omega)];exact zMN i j (by omega)
theorem zLX {F:List Int} {m j:Nat}:∀ i,j<i→(zQs F m i).getD j 0=(zQs F m (j+1)).getD j 0
 | 0,h=>absurd h (Nat.not_lt_zero j)
 | i+1,h=>by
  by_cases hj:j=i
  ·subst hj;rfl
  ·rw [zFp,zGd (by omega)];exact zLX i (by omega)
theorem zRH {n:Nw} (ho:NwOk n) {i:Nat} (hi:i<n.n.length):∃ l:Nat,(zA5 n).getD i 0=l∧l<n.n.length∧chn n l i∧i≤l∧∀ k,k<n.n.length→chn n k i→k≤l:=by
 have h8:=ho.nl.2
 obtain ⟨l,h1,h2,h3⟩:=zSD (F:=zAk n) (i:=i) (zLG (F:=zAk n) (m:=n.n.length) i) (by omega) (zMN i i (Nat.le_refl i)) n.n.length
 have yC:=h3 i hi rfl
 refine ⟨l,?_,?_,?_,yC,fun k hk hc=>h3 k hk hc⟩
 ·unfold zA5
  rw [zLX n.n.length hi,zFp];exact h1
 ·rcases h2 with h2 | ⟨h2,_⟩<;>omega
 ·rcases h2 with h2 | ⟨_,h4⟩
  ·have:i=l:=by omega
   subst this;rfl
  ·exact h4
end Go.Eng
set_option maxRecDepth 10000
set_option maxHeartbeats 4000000
namespace Go.Eng
open Go Go.Proofs
def zLw (n:Nw) (x:Int):Int:=zES (fun y=>decide (y.1=x)) n.n
theorem f143 (n:Nw) (x:Int) (hl:n.n.length<1000000):FG 143 [nwV n,I x] (I (zLw n x)):=by
 refine zAf Tryz.f143 ?_
 refine zAb (zAa (zAd 2 (zAc (zAb (zAb (zAa (zAd 1 (zAc (zAh 0 ?_)))))))))
 refine zAo (fun i=>i≤n.n.length∧∀ j,j<i→decide ((n.n.getD j default).1=x)=false) (fun (i:Nat)=>[(5,I (i:Nat))]) (fun i=>n.n.length-i) (0:Nat) ⟨by omega,fun j hj=>absurd hj (Nat.not_lt_zero j)⟩ fun i ⟨hi,ha⟩=>?_
 refine zAb (zAb (zAa (zAd 3 (S_a [(0,.n (n.n.length))] (ap (lnS ntV n.n) an) (zAd 1 (zAc (zBU ((↑i:Int)<(↑n.n.length:Int)) (fun k0=>(zAi (zAb (zAh 1 (zAb (zAa (zAd 3 (S_a [(2,.v (PV.agg [I (n.n.getD i default).fst,PV.bool (n.n.getD i default).snd]))] (ap (zBA (default) (by omega):(List.map ntV n.n)[i]? = some (PV.agg [I (n.n.getD i default).fst,PV.bool (n.n.getD i default).snd])) an) (zAd 4 (zAc (zBU ((n.n.getD i default).fst=x) (fun k1=>(zAb (zAa (zAd 2 (zAc (zAl (E_a [] an (I (↑i:Int)) ([]) ?_ rfl))))))) (fun k1=>(zAi (zAa (zAd 1 (S_a [(1,.v (I (↑(i+1):Int)))] (ap (wrN i) an) (zAd 1 (zAc ?_)))))))))))))))))) (fun k0=>(zAv 0 (zAb (zAa (zAd 1 (zAc (zAl (E_a [] an (I (-1)) ([]) ?_ rfl)))))))))))))))
 ·rw [zLw,zBY (i:=i) (by omega) (fun j hj=>by rw [← zAr (d:=default)];exact ha j hj) (by rw [← zAr (d:=default)];exact decide_eq_true (by assumption))]
 ·refine ⟨i+1,⟨by omega,fun j hj=>?_⟩,by omega,by kernel_rfl,by kernel_rfl⟩
  rcases Nat.lt_succ_iff_lt_or_eq.1 hj with h | rfl
  ·exact ha j h
  ·exact decide_eq_false (by assumption)
 ·rw [zLw,zCl fun j hj=>by rw [← zAr (d:=default)];exact ha j (by omega)]
def zUu (a b:Int) (x:Int×Int):Bool:=decide (x.1=a∧x.2=b∨x.1=b∧x.2=a)
def zRj (n:Nw) (a b:Int):Bool:=n.l.any (zUu a b)
theorem zOq {a b:Int} {x:Int×Int}:pr2 x=pr2 (a,b)↔x.1=a∧x.2=b∨x.1=b∧x.2=a:=by
 obtain ⟨c,d⟩:=x
 simp only [pr2,Prod.mk.injEq]
 constructor
 ·rintro ⟨h1,h2⟩
  repeat' split at h1
  all_goals (repeat' split at h2)
  all_goals omega
 ·intro h
  constructor
  ·repeat' split
   all_goals omega
  ·repeat' split
   all_goals omega
theorem zVQ {n:Nw} {a b:Int}:zRj n a b=zGi n a b:=by
 rw [Bool.eq_iff_iff]
 simp only [zRj,zGi,List.any_eq_true,zUu,decide_eq_true_eq,List.mem_map]
 constructor
 ·rintro ⟨x,hx,h⟩;exact ⟨x,hx,zOq.2 h⟩
 ·rintro ⟨x,hx,h⟩;exact ⟨x,hx,zOq.1 h⟩
theorem f114 (n:Nw) (a b:Int) (hl:n.l.length<1000000):FG 114 [nwV n,I a,I b] (.bool (zGi n a b)):=by
 rw [← zVQ]
 refine zAf Tryz.f114 ?_
 refine zAb (zAa (zAd 2 (zAc (zAb (zAb (zAa (zAd 1 (zAc (zAh 0 ?_)))))))))
 refine zAo (fun i=>i≤n.l.length∧∀ j,j<i→zUu a b (n.l.getD j default)=false) (fun (i:Nat)=>[(7,I (i:Nat))]) (fun i=>n.l.length-i) (0:Nat) ⟨by omega,fun j hj=>absurd hj (Nat.not_lt_zero j)⟩ fun i ⟨hi,ha⟩=>?_
 by_cases yC:i<n.l.length
 ·have yE:zUu a b (n.l.getD i default)=false→∀ j,j<i+1→zUu a b (n.l.getD j default)=false:=fun h j hj=>by
   rcases Nat.lt_succ_iff_lt_or_eq.1 hj with h2 | rfl
   ·exact ha j h2
   ·exact h
  have wI:zUu a b (n.l.getD i default)=true→zRj n a b=true:=fun h=>by
   rw [zAr yC] at h
   exact List.any_eq_true.2 ⟨_,List.getElem_mem yC,h⟩
  clear ha
  refine zAb (zAb (zAa (zAd 3 (S_a [(0,.n (n.l.length))] (ap (lnS prV n.l) an) (zAd 1 (zAc (zAL ((↑i:Int)<(↑n.l.length:Int)) (by omega) (zAi (zAb (zAh 1 (zAb (zAa (zAd 3 (S_a [(2,.v (PV.agg [I (n.l.getD i default).fst,I (n.l.getD i default).snd]))] (ap (zBA (default) (by omega):(List.map prV n.l)[i]? = some (PV.agg [I (n.l.getD i default).fst,I (n.l.getD i default).snd])) an) (zAd 3 (zAc (zAb (zAa (zAd 1 (zAd 4 (zEw 25 ((n.l.getD i default).fst=a) (fun k0=>(zAd 1 (zAd 5 (zEw 31 ((n.l.getD i default).snd=b) (fun k1=>(zAd 11 (zAc (zBT (zAb (zAa (zAd 1 (zAc (zAl (E_a [] an (PV.bool true) ([]) ?_ rfl)))))))))) (fun k1=>(zAd 1 (zAd 4 (zEw 36 ((n.l.getD i default).fst=b) (fun k2=>(zAd 1 (zAd 5 (zAc (zAO ((n.l.getD i default).snd=a) (by omega) (zAi (zAa (zAd 1 (S_a [(1,.v (I (↑(i+1):Int)))] (ap (wrN i) an) (zAd 1 (zAc ?_))))))))))) (fun k2=>(zAd 6 (zAc (zAU (zAi (zAa (zAd 1 (S_a [(1,.v (I (↑(i+1):Int)))] (ap (wrN i) an) (zAd 1 (zAc ?_)))))))))))))))))) (fun k0=>(zAd 6 (zAd 1 (zAd 4 (zEw 36 ((n.l.getD i default).fst=b) (fun k3=>(zAd 1 (zAd 5 (zAc (zBU ((n.l.getD i default).snd=a) (fun k4=>(zAb (zAa (zAd 1 (zAc (zAl (E_a [] an (PV.bool true) ([]) ?_ rfl))))))) (fun k4=>(zAi (zAa (zAd 1 (S_a [(1,.v (I (↑(i+1):Int)))] (ap (wrN i) an) (zAd 1 (zAc ?_)))))))))))) (fun k3=>(zAd 6 (zAc (zAU (zAi (zAa (zAd 1 (S_a [(1,.v (I (↑(i+1):Int)))] (ap (wrN i) an) (zAd 1 (zAc ?_))))))))))))))))))))))))))))))))))))
  all_goals first | (rw [wI (by simp only [zUu,decide_eq_true_eq];omega)];done) | exact ⟨i+1,⟨by omega,yE (by simp only [zUu,decide_eq_false_iff_not];omega)⟩,by omega,by kernel_rfl,by kernel_rfl⟩
 ·refine zAb (zAb (zAa (zAd 3 (S_a [(0,.n (n.l.length))] (ap (lnS prV n.l) an) (zAd 1 (zAc (zAO ((↑i:Int)<(↑n.l.length:Int)) (by omega) (zAv 0 (zAb (zAa (zAd 1 (zAc (zAl (E_a [] an (PV.bool false) ([]) ?_ rfl))))))))))))))
  have:zRj n a b=false:=by
   simp only [zRj,List.any_eq_false,Bool.not_eq_true]
   intro x hx
   obtain ⟨j,hj,rfl⟩:=List.getElem_of_mem hx
   have:=ha j (by omega)
   rwa [zAr hj] at this
  rw [this]
end Go.Eng
set_option maxRecDepth 10000
set_option maxHeartbeats 4000000
namespace Go.Eng
open Go Go.Proofs
abbrev bls (l:List Bool):PV := .sl (l.map PV.bool)
abbrev knV (K:List (List Bool)):PV := .sl (K.map bls)
def kn (K:List (List Bool)) (h i:Nat):Bool:=(K.getD h []).getD i false
structure RelK (n:Nw) (K:List (List Bool)) (w:List Int):Prop where
 len:K.length=n.h.toNat
 row:∀ r∈K,r.length=n.n.length
 wl:w.length=80
 top:∀ h i,h<n.h.toNat→i<n.n.length→kn K h i=true→(i:Int)≤w.getD (h*8+((zAk n).getD i 0).toNat) 0
 at_:∀ h c,h<n.h.toNat→c<8→w.getD (h*8+c) 0 = -1∨∃ i,i<n.n.length∧(zAk n).getD i 0=c∧w.getD (h*8+c) 0=i∧kn K h i=true
def hld (n:Nw) (w:List Int) (h i:Nat):Bool:=decide (w.getD (h*8+((zAk n).getD i 0).toNat) 0=i)
theorem zSW {n:Nw} {x:Int} (h:zLw n x≠-1):∃ k:Nat,zLw n x=k∧k<n.n.length∧(n.n.getD k default).1=x:=by
 unfold zLw zES at h ⊢
 split
 ·rename_i yJ
  have hp:=List.findIdx_getElem (w:=yJ)
  exact ⟨_,rfl,yJ,by rw [zAr yJ];simpa using hp⟩
 ·rename_i hn;rw [if_neg hn] at h;exact absurd rfl h
theorem zTZ {n:Nw} {x:Int} (h:zLw n x = -1) (k:Nat) (hk:k<n.n.length):(n.n.getD k default).1≠x:=by
 have h2:=zEe (fun y:Int×Bool=>decide (y.1=x)) n.n
 unfold zLw at h
 rw [h] at h2
 intro he
 have:(n.n.any fun y=>decide (y.1=x))=true:=List.any_eq_true.2 ⟨_,List.getElem_mem hk,by rw [zAr hk] at he;simpa using he⟩
 rw [this] at h2;cases h2
theorem zVo {n:Nw} (ho:NwOk n) {i k:Nat} (hk:k<n.n.length) (h:(n.n.getD k default).1=i):i<k∧chn n k i:=by
 have ha:=ho.na k hk
 have hr:=zMj ho hk
 refine ⟨by omega,?_⟩
 rw [if_neg (by omega),h,Int.toNat_natCast] at hr
 exact hr
theorem zTH {n:Nw} (ho:NwOk n) {a b:Nat} {x:Int} (hx:0≤x) (ha:a<n.n.length) (hb:b<n.n.length) (h1:(n.n.getD a default).1=x) (h2:(n.n.getD b default).1=x):a=b:=by
 by_cases h:a=b
 ·exact h
 ·exfalso
  by_cases yJ:a<b
  ·exact ho.nd b a yJ hb (by omega) (by rw [h1,h2])
  ·exact ho.nd a b (by omega) ha (by omega) (by rw [h1,h2])
theorem zLE {n:Nw} (ho:NwOk n) {i:Nat} (hi:i<n.n.length):(zLw n i = -1∧∀ k,k<n.n.length→chn n k i→¬ i<k)∨∃ m:Nat,zLw n i=m∧i<m∧m<n.n.length∧chn n m i∧∀ k,k<n.n.length→chn n k i→i<k→m≤k:=by
 by_cases h:zLw n i = -1
 ·left
  refine ⟨h,fun k hk hc wJ=>?_⟩
  obtain ⟨j,_,_,h3,h4,_⟩:=zOL ho k i wJ hk hc.symm
  exact zTZ h j h3 h4
 ·right
  obtain ⟨m,h1,h2,h3⟩:=zSW h
  obtain ⟨h4,h5⟩:=zVo ho h2 h3
  refine ⟨m,h1,h4,h2,h5,fun k hk hc wJ=>?_⟩
  obtain ⟨j,g1,g2,g3,g4,_⟩:=zOL ho k i wJ hk hc.symm
  have:=zTH ho (by omega) h2 g3 h3 g4
  omega
theorem zWH {n:Nw} {K:List (List Bool)} {w:List Int} {h i:Nat} (ho:NwOk n) (hr:RelK n K w) (hh:h<n.h.toNat) (hi:i<n.n.length) (h1:kn K h i=true) (h2:∀ k,k<n.n.length→chn n k i→i<k→kn K h k=false):hld n w h i=true:=by
 have LC:=zCf ho i hi
 have uH:=ho.nl.2
 have ht:=hr.top h i hh hi h1
 rcases hr.at_ h ((zAk n).getD i 0).toNat hh (by omega) with h3 | ⟨j,g1,g2,g3,g4⟩
 ·omega
 ·by_cases hj:j=i
  ·subst hj;simpa only [hld,decide_eq_true_eq] using g3
  ·have:=h2 j g1 (by unfold chn;omega) (by omega)
   rw [this] at g4;cases g4
theorem zTS {n:Nw} {K:List (List Bool)} {w:List Int} {h i:Nat} (ho:NwOk n) (hr:RelK n K w) (hh:h<n.h.toNat) (hi:i<n.n.length) (h1:kn K h i=false∨∃ k,k<n.n.length∧chn n k i∧i<k∧kn K h k=true):hld n w h i=false:=by
 have LC:=zCf ho i hi
 have uH:=ho.nl.2
 simp only [hld,decide_eq_false_iff_not]
 intro he
 rcases h1 with h1 | ⟨k,g1,g2,g3,g4⟩
 ·rcases hr.at_ h ((zAk n).getD i 0).toNat hh (by omega) with h3 | ⟨j,g1,g2,g3,g4⟩
  ·omega
  ·have:j=i:=by omega
   subst this;rw [h1] at g4;cases g4
 ·have:=hr.top h k hh g1 g4
  unfold chn at g2
  rw [g2] at this;omega
theorem zYC (n:Nw) (K:List (List Bool)) (w:List Int) (h i:Nat) (ho:NwOk n) (hr:RelK n K w) (hh:h<n.h.toNat) (hi:i<n.n.length):FG 113 [nwV n,knV K,I h,I i] (.bool (hld n w h i)):=by
 have uH:=ho.nl.2
 have uO:=hr.len
 have yB:(K.getD h []).length=n.n.length:=zBC (d:=[]) hr.row h (by omega)
 refine zAf Tryz.f113 ?_
 have kI:=zLE ho hi
 refine zAb (zAa (zAd 2 (zAc (zAb (zAb (zAa (zAd 2 (S_a [(2,.v (PV.sl (List.map PV.bool (K.getD h []))))] (ap (zBA ([]) (by omega):(List.map bls K)[h]? = some (PV.sl (List.map PV.bool (K.getD h [])))) an) (zAd 2 (S_a [(2,.v (PV.bool ((K.getD h []).getD i false)))] (ap (zBA (false) (by omega):(List.map PV.bool (K.getD h []))[i]? = some (PV.bool ((K.getD h []).getD i false))) an) (zAd 2 (zAc (zD4 (!(K.getD h []).getD i false) (fun k0=>(zAb (zAa (zAd 1 (zAc (zAl (E_a [] an (PV.bool false) ([]) ?_ rfl))))))) (fun k0=>(zAi (zAb (zAb (zAa (zAd 2 (S_a [(8,.ret (I (zLw n (↑i:Int))) ([]))] (ap (f143 (n) ((↑i:Int)) (by first | omega | (simp<;>omega))) an) (zAd 1 (zAc (zAh 0 ?_)))))))))))))))))))))))
 ·rw [Bool.not_eq_true'] at k0
  rw [zTS ho hr hh hi (.inl k0)]
 ·refine zAo (fun (m:Int)=>(m = -1∨∃ k:Nat,m=k∧i<k∧k<n.n.length∧chn n k i)∧∀ k,k<n.n.length→chn n k i→i<k→(m = -1∨(k:Int)<m)→kn K h k=false) (fun m=>[(3,I m)]) (fun m=>(if m = -1 then 0 else n.n.length+1-m.toNat)) (zLw n i) ?_ fun m ⟨hm,ha⟩=>?_
  ·rcases kI with ⟨g1,g2⟩ | ⟨m,g1,g2,g3,g4,g5⟩
   ·exact ⟨.inl g1,fun k hk hc wJ _=>absurd wJ (g2 k hk hc)⟩
   ·exact ⟨.inr ⟨m,g1,g2,g3,g4⟩,fun k hk hc wJ hx=>by have:=g5 k hk hc wJ;omega⟩
  ·rw [Bool.not_eq_false'] at k0
   rcases hm with rfl | ⟨k,rfl,h1,h2,h3⟩
   ·have:=zWH ho hr hh hi k0 fun k hk hc wJ=>ha k hk hc wJ (.inl rfl)
    rw [this]
    clear ha kI
    refine zAb (zAb (zAa (zAd 2 (zAc (zAU (zAv 0 (zAb (zAa (zAd 1 (zAc (zAl (E_a [] an (PV.bool true) ([]) rfl rfl))))))))))))
   ·have qP:=zLE ho h2
    clear kI
    refine zAb (zAb (zAa (zAd 2 (zAc (zBT (zAi (zAb (zAh 1 (zAb (zAa (zAd 2 (S_a [(2,.v (PV.sl (List.map PV.bool (K.getD h []))))] (ap (zBA ([]) (by omega):(List.map bls K)[h]? = some (PV.sl (List.map PV.bool (K.getD h [])))) an) (zAd 2 (S_a [(2,.v (PV.bool ((K.getD h []).getD k false)))] (ap (zBA (false) (by omega):(List.map PV.bool (K.getD h []))[k]? = some (PV.bool ((K.getD h []).getD k false))) an) (zAd 1 (zAc (zD4 ((K.getD h []).getD k false) (fun k2=>(zAb (zAa (zAd 1 (zAc (zAl (E_a [] an (PV.bool false) ([]) ?_ rfl))))))) (fun k2=>(zAi (zAa (zAd 2 (S_a [(8,.ret (I (zLw n (↑k:Int))) ([]))] (ap (f143 (n) ((↑k:Int)) (by first | omega | (simp<;>omega))) an) (zAd 1 (zAc ?_))))))))))))))))))))))))
    ·rw [zTS ho hr hh hi (.inr ⟨k,h2,h3,h1,by assumption⟩)]
    ·have kf:kn K h k=false:=by assumption
     refine ⟨zLw n k,?_,?_,by kernel_rfl,by kernel_rfl⟩
     ·rcases qP with ⟨g1,g2⟩ | ⟨m,g1,g2,g3,g4,g5⟩
      ·refine ⟨.inl g1,fun j hj hc qm _=>?_⟩
       by_cases wH:j=k
       ·subst wH;exact kf
       ·by_cases yJ:j<k
        ·exact ha j hj hc qm (.inr (by omega))
        ·exact absurd (by omega:k<j) (g2 j hj (by unfold chn at *;omega))
      ·refine ⟨.inr ⟨m,g1,by omega,g3,by unfold chn at *;omega⟩,fun j hj hc qm hx=>?_⟩
       by_cases wH:j=k
       ·subst wH;exact kf
       ·by_cases yJ:j<k
        ·exact ha j hj hc qm (.inr (by omega))
        ·have:=g5 j hj (by unfold chn at *;omega) (by omega)
         omega
     ·rcases qP with ⟨g1,_⟩ | ⟨m,g1,g2,g3,_⟩
      ·rw [g1,if_pos rfl,if_neg (by omega)];omega
      ·rw [g1,if_neg (by omega),if_neg (by omega)];omega
end Go.Eng
set_option maxRecDepth 10000
set_option maxHeartbeats 4000000
namespace Go.Eng
open Go Go.Proofs
def hrB (n:Nw) (h i:Int) (c:Int×Int):Bool:=decide (c.1=i)&&has (n.s.getD c.2.toNat []) h
def zFS (n:Nw) (cs:List (Int×Int)) (h i:Int):Bool:=cs.any (hrB n h i)
theorem f141 (n:Nw) (cs:List (Int×Int)) (h i:Int) (ho:CrW n cs):FG 141 [nwV n,prs cs,I h,I i] (.bool (zFS n cs h i)):=by
 have hn:=ho.nw
 have yN:=ho.len
 have jf:=hn.sl.2
 refine zAf Tryz.f141 ?_
 refine zAb (zAa (zAd 2 (zAc (zAb (zAb (zAa (zAd 1 (zAc (zAh 0 ?_)))))))))
 refine zAo (fun j=>j≤cs.length∧∀ k,k<j→hrB n h i (cs.getD k default)=false) (fun (j:Nat)=>[(9,I (j:Nat))]) (fun j=>cs.length-j) (0:Nat) ⟨by omega,fun j hj=>absurd hj (Nat.not_lt_zero j)⟩ fun j ⟨hj,ha⟩=>?_
 by_cases jb:j<cs.length
 ·obtain ⟨jW,jF⟩:=zBC (d:=default) ho.cs j jb
  have wG:=zBC (d:=[]) hn.rows (cs.getD j default).2.toNat (by omega)
  have yE:hrB n h i (cs.getD j default)=false→∀ k,k<j+1→hrB n h i (cs.getD k default)=false:=fun h k hk=>by
   rcases Nat.lt_succ_iff_lt_or_eq.1 hk with h2 | rfl
   ·exact ha k h2
   ·exact h
  have wI:hrB n h i (cs.getD j default)=true→zFS n cs h i=true:=fun h=>by
   rw [zAr jb] at h
   exact List.any_eq_true.2 ⟨_,List.getElem_mem jb,h⟩
  clear ha
  refine zAb (zAb (zAa (zAd 2 (S_a [(0,.n (cs.length))] (ap (lnS prV cs) an) (zAd 1 (zAc (zAL ((↑j:Int)<(↑cs.length:Int)) (by omega) (zAi (zAb (zAh 1 (zAb (zAb (zAa (zAd 2 (S_a [(2,.v (PV.agg [I (cs.getD j default).fst,I (cs.getD j default).snd]))] (ap (zBA (default) (by omega):(List.map prV cs)[j]? = some (PV.agg [I (cs.getD j default).fst,I (cs.getD j default).snd])) an) (zAd 4 (zAc (zC6 ((cs.getD j default).fst=i) (fun k0=>(zAv 1 (zAa (zAd 1 (S_a [(1,.v (I (↑(j+1):Int)))] (ap (wrN j) an) (zAd 1 (zAc ?_))))))) (fun k0=>(zAi (zAb (zAa (zAd 4 (S_a [(2,.v (PV.agg [I (cs.getD j default).fst,I (cs.getD j default).snd]))] (ap (zBA (default) (by omega):(List.map prV cs)[j]? = some (PV.agg [I (cs.getD j default).fst,I (cs.getD j default).snd])) an) (zAd 2 (S_a [(0,.ob),(1,.v (PV.sl (List.map I (n.s.getD (cs.getD j default).snd.toNat []))))] (ap ((by exact zAp (by omega)):decide (0≤(cs.getD j default).snd)=true) (ap (zBA ([]) (by omega):(List.map zAY n.s)[(cs.getD j default).snd.toNat]? = some (PV.sl (List.map I (n.s.getD (cs.getD j default).snd.toNat [])))) an)) (zAd 2 (zAc (zAb (zAa (zAd 1 (zAc (zAh 2 ?_)))))))))))))))))))))))))))))))))
  ·exact ⟨j+1,⟨by omega,yE (by simp only [hrB,decide_eq_false (by assumption),Bool.false_and])⟩,by omega,by kernel_rfl,by kernel_rfl⟩
  ·have he:(cs.getD j default).1=i:=by first | assumption | (apply Decidable.of_not_not;assumption)
   refine zAo (fun k=>k≤(n.s.getD (cs.getD j default).2.toNat []).length∧∀ r,r<k→decide (h=(n.s.getD (cs.getD j default).2.toNat []).getD r 0)=false) (fun (k:Nat)=>[(11,I (k:Nat))]) (fun k=>(n.s.getD (cs.getD j default).2.toNat []).length-k) (0:Nat) ⟨by omega,fun j hj=>absurd hj (Nat.not_lt_zero j)⟩ fun k ⟨hk,hb⟩=>?_
   generalize hL:n.s.getD (cs.getD j default).2.toNat []=L at *
   by_cases uO:k<L.length
   ·refine zAb (zAb (zAa (zAd 2 (S_a [(0,.n (L.length))] (ap (lnS I L) an) (zAd 1 (zAc (zAL ((↑k:Int)<(↑L.length:Int)) (by omega) (zAi (zAb (zAh 3 (zAb (zAa (zAd 2 (S_a [(2,.v (I (L.getD k 0)))] (ap (zBA (0) (by omega):(List.map I L)[k]? = some (I (L.getD k 0))) an) (zAd 3 (zAc (zBU (L.getD k 0=h) (fun k2=>(zAb (zAa (zAd 1 (zAc (zAl (E_a [] an (PV.bool true) ([]) ?_ rfl))))))) (fun k2=>(zAi (zAa (zAd 1 (S_a [(1,.v (I (↑(k+1):Int)))] (ap (wrN k) an) (zAd 1 (zAc ?_))))))))))))))))))))))))
    ·have h3:L.getD k 0=h:=by assumption
     have:has L h=true:=by
      rw [zNq,decide_eq_true_eq,← h3,zAr uO];exact List.getElem_mem uO
     rw [wI (by simp only [hrB,decide_eq_true he,hL,this];rfl)]
    ·refine ⟨k+1,⟨by omega,fun r hr=>?_⟩,by omega,by kernel_rfl,by kernel_rfl⟩
     rcases Nat.lt_succ_iff_lt_or_eq.1 hr with h2 | rfl
     ·exact hb r h2
     ·exact decide_eq_false fun h=>absurd h.symm (by assumption)
   ·have:has L h=false:=by
     rw [zNq,decide_eq_false_iff_not]
     intro hm
     obtain ⟨r,hr,rfl⟩:=List.getElem_of_mem hm
     have:=hb r (by omega)
     rw [zAr hr] at this
     simp at this
    have kE:=yE (by simp only [hrB,hL,this,Bool.and_false])
    clear hb
    refine zAb (zAb (zAa (zAd 2 (S_a [(0,.n (L.length))] (ap (lnS I L) an) (zAd 1 (zAc (zAO ((↑k:Int)<(↑L.length:Int)) (by omega) (zAv 2 (zAa (zAd 1 (S_a [(1,.v (I (↑(j+1):Int)))] (ap (wrN j) an) (zAd 1 (zAc ?_)))))))))))))
    exact ⟨j+1,⟨by omega,kE⟩,by omega,by kernel_rfl,by kernel_rfl⟩
 ·refine zAb (zAb (zAa (zAd 2 (S_a [(0,.n (cs.length))] (ap (lnS prV cs) an) (zAd 1 (zAc (zAO ((↑j:Int)<(↑cs.length:Int)) (by omega) (zAv 0 (zAb (zAa (zAd 1 (zAc (zAl (E_a [] an (PV.bool false) ([]) ?_ rfl))))))))))))))
  have:zFS n cs h i=false:=by
   simp only [zFS,List.any_eq_false,Bool.not_eq_true]
   intro x hx
   obtain ⟨j,hj,rfl⟩:=List.getElem_of_mem hx
   have:=ha j (by omega)
   rwa [zAr hj] at this
  rw [this]
end Go.Eng
set_option maxRecDepth 10000
set_option maxHeartbeats 4000000
namespace Go.Eng
open Go Go.Proofs
abbrev lsB (l:List Bool):PV := .own 1 (l.map PV.bool)
instance:FrzOf lsB bls:=⟨fun x=>by simp only [zAQ,zFg]⟩
def zO6 (n:Nw) (cs:List (Int×Int)) (h k:Nat):List Bool:=(List.range k).map fun (i:Nat)=>zFS n cs h i
def zP9 (n:Nw) (cs:List (Int×Int)) (k:Nat):List (List Bool):=(List.range k).map fun h=>zO6 n cs h n.n.length
theorem zSJ {n:Nw} {cs:List (Int×Int)} {h k:Nat}:zO6 n cs h (k+1)=zO6 n cs h k++[zFS n cs h k]:=by
 simp only [zO6,List.range_succ,List.map_append,List.map_cons,List.map_nil]
theorem zRC {n:Nw} {cs:List (Int×Int)} {k:Nat}:zP9 n cs (k+1)=zP9 n cs k++[zO6 n cs k n.n.length]:=by
 simp only [zP9,List.range_succ,List.map_append,List.map_cons,List.map_nil]
theorem f112 (n:Nw) (cs:List (Int×Int)) (ho:CrW n cs):FG 112 [nwV n,prs cs] (.own 1 ((zP9 n cs n.h.toNat).map lsB)):=by
 have hn:=ho.nw
 have hb:=hn.h
 have uH:=hn.nl
 refine zAf Tryz.f112 ?_
 refine zAb (zAa (zAd 2 (zAc (zAb (zAa (zAd 1 (zAc (zAb (zAb (zAa (zAd 1 (zAc (zAh 0 ?_)))))))))))))
 refine zAo (fun (h,K)=>h≤n.h.toNat∧K=zP9 n cs h) (fun (h,K)=>[(5,.own 1 (K.map lsB)),(6,I (h:Nat))]) (fun (h,_)=>n.h.toNat-h) ((0:Nat),([]:List (List Bool))) ⟨by omega,rfl⟩ fun (h,K) ⟨hh,hK⟩=>?_
 have hKl:K.length=h:=by rw [hK];simp [zP9]
 by_cases qC:(h:Int)<n.h
 ·have yR:=zRC (n:=n) (cs:=cs) (k:=h)
  rw [← hK] at yR
  clear hK
  refine zAb (zAb (zAa (zAd 4 (zAc (zAL ((↑h:Int)<n.h) (by omega) (zAi (zAb (zAh 1 (zAb (zAa (zAd 2 (S_a [(0,.n (n.n.length))] (ap (lnS ntV n.n) an) (S_a [(4,.ob),(0,.ob),(1,.v (PV.own 1 (List.map PV.bool (List.replicate n.n.length false))))] (ap ((by exact zAp (by omega)):decide (n.n.length≤n.n.length)=true) (ap ((by exact zAp (by simp [zA1]<;>omega)):decide (n.n.length≤zA1)=true) (ap ((by simp):PV.own 1 (List.replicate n.n.length (PV.bool false))=PV.own 1 (List.map PV.bool (List.replicate n.n.length false))) an))) (zAd 1 (zAc (zAb (zAb (zAa (zAd 1 (zAc (zAh 2 ?_)))))))))))))))))))))
  refine zAo (fun (i,r)=>i≤n.n.length∧r=zO6 n cs h i++List.replicate (n.n.length-i) false) (fun (i,r)=>[(7,.own 1 (r.map PV.bool)),(8,I (i:Nat))]) (fun (i,_)=>n.n.length-i) ((0:Nat),List.replicate n.n.length false) ⟨by omega,by simp [zO6]⟩ fun (i,r) ⟨hi,hr⟩=>?_
  have wG:r.length=n.n.length:=by rw [hr];simp [zO6];omega
  by_cases yC:i<n.n.length
  ·refine zAb (zAb (zAa (zAd 2 (S_a [(0,.n (r.length))] (ap (lnS PV.bool r) an) (zAd 1 (zAc (zAL ((↑i:Int)<(↑r.length:Int)) (by omega) (zAi (zAb (zAh 3 (zAa (zAd 6 (S_a [(12,.ret (PV.bool (zFS n cs (↑h:Int) (↑i:Int))) ([]))] (ap (f141 (n) (cs) ((↑h:Int)) ((↑i:Int)) (by omega)) an) (S_a [(2,.ob),(1,.n (i))] (ap ((by exact zAp (by simp only [List.length_map,zzLn]<;>omega)):decide (i<(List.map PV.bool r).length)=true) (ap ((by simp):some (0+i)=some i) an)) (S_a [(8,.root (PV.own 1 (List.map PV.bool (r.set i (zFS n cs (↑h:Int) (↑i:Int))))) true)] (ap (zQm (zBA (false) (by omega)) zGf:zBx (PV.own 1 (List.map PV.bool r)) [] i 0 (PV.bool (zFS n cs (↑h:Int) (↑i:Int))).cells=some (PV.own 1 (List.map PV.bool (r.set i (zFS n cs (↑h:Int) (↑i:Int)))))∧zAD (PV.own 1 (List.map PV.bool r)) (PV.own 1 (List.map PV.bool (r.set i (zFS n cs (↑h:Int) (↑i:Int))))) []=true) an) (zAc (zAa (zAd 1 (S_a [(1,.v (I (↑(i+1):Int)))] (ap (wrN i) an) (zAd 1 (zAc ?_)))))))))))))))))))))
   refine ⟨(i+1,r.set i (zFS n cs h i)),⟨by omega,?_⟩,by simp only;omega,by kernel_rfl,by kernel_rfl⟩
   obtain ⟨k,hk⟩:∃ k,n.n.length-i=k+1:=⟨n.n.length-i-1,by omega⟩
   rw [hr,hk,show n.n.length-(i+1)=k by omega,List.replicate_succ,List.set_append_right _ _ (by simp [zO6]),zSJ]
   try simp [zO6]
  ·have hrr:r=zO6 n cs h n.n.length:=by rw [hr,show i=n.n.length by omega];simp
   rw [← hrr] at yR
   clear hr hrr
   refine zAb (zAb (zAa (zAd 2 (S_a [(0,.n (r.length))] (ap (lnS PV.bool r) an) (zAd 1 (zAc (zAO ((↑i:Int)<(↑r.length:Int)) (by omega) (zAv 2 (zAa (zAd 2 (S_a [(2,.yes)] (ap ((by exact zBr (by simp<;>omega)):(Nat.beq 0 0&&(List.map PV.bool r).length.beq (List.map PV.bool r).length)=true) an) (S_a [(4,.ob),(0,.ob),(0,.yes),(2,.v (PV.own 1 (List.map lsB (K++[r]))))] (ap (blz (List.map lsB K)) (ap ((by exact zBs (by simp only [List.length_map,zzLn,zA1]<;>omega)):((List.map lsB K).length + [PV.own 1 (List.map PV.bool r)].length).ble zA1=true) (ap ((by exact zBr (by simp<;>omega)):(0+(List.map lsB K).length).beq (List.map lsB K).length=true) (ap ((zAR (zCv (by kernel_rfl))):PV.own 1 (List.map lsB K++[PV.own 1 (List.map PV.bool r)])=PV.own 1 (List.map lsB (K++[r]))) an)))) (zAd 1 (zAc (zAa (zAd 1 (S_a [(1,.v (I (↑(h+1):Int)))] (ap (wrN h) an) (zAd 1 (zAc ?_)))))))))))))))))))
   exact ⟨(h+1,K++[r]),⟨by omega,yR.symm⟩,by simp only;omega,by kernel_rfl,by kernel_rfl⟩
 ·have e:h=n.h.toNat:=by omega
  subst e
  refine zAb (zAb (zAa (zAd 4 (zAc (zAO ((↑n.h.toNat:Int)<n.h) (by omega) (zAv 0 (zAb (zAa (zAd 1 (S_a [(2,.yes)] (ap ((by exact zBr (by simp<;>omega)):(Nat.beq 0 0&&(List.map lsB K).length.beq (List.map lsB K).length)=true) an) (zAc (zAl (E_a [(1,.yes),(1,.v (PV.own 1 (List.map lsB K)))] (ap (blz (List.map lsB K)) (ap ((zAR zAK):PV.own 1 (List.take (List.map lsB K).length (List.drop 0 (List.map lsB K)))=PV.own 1 (List.map lsB K)) an)) (PV.own 1 (List.map lsB K)) ([]) (by simp [*]) rfl)))))))))))))
end Go.Eng
namespace Go.Eng
open Go Go.Proofs
structure Tr (n:Nw) (w:List Int) (S:Nat→Nat→Prop):Prop where
 wl:w.length=80
 at_:∀ h c,h<n.h.toNat→c<8→w.getD (h*8+c) 0 = -1∨∃ i,i<n.n.length∧(zAk n).getD i 0=(c:Int)∧w.getD (h*8+c) 0=i∧S h i
 top:∀ h i,h<n.h.toNat→i<n.n.length→S h i→(i:Int)≤w.getD (h*8+((zAk n).getD i 0).toNat) 0
theorem zIk {w:List Int} {i j:Nat} {x:Int} (hi:i<w.length):(zQr w i x).getD j 0=if i=j then max (w.getD j 0) x else w.getD j 0:=by
 unfold zQr
 rw [zCN]
 by_cases h:i=j
 ·subst h;rw [if_pos ⟨rfl,hi⟩,if_pos rfl]
 ·rw [if_neg (fun h2=>h h2.1),if_neg h]
theorem Tr.upd {n:Nw} {w:List Int} {S:Nat→Nat→Prop} (ho:NwOk n) (ht:Tr n w S) {h0 i0:Nat} (hh:h0<n.h.toNat) (hi:i0<n.n.length):Tr n (zQr w (h0*8+((zAk n).getD i0 0).toNat) i0) (fun h i=>S h i∨h=h0∧i=i0):=by
 have uH:=ho.nl.2
 have hH:=ho.h.2
 have hf0:=zCf ho i0 hi
 have yJ:h0*8+((zAk n).getD i0 0).toNat<w.length:=by rw [ht.wl];omega
 refine ⟨by rw [zIA];exact ht.wl,fun h c gj hc=>?_,fun h i gj hi1 hS=>?_⟩
 ·rw [zIk yJ]
  split
  ·rename_i he
   have e1:h=h0:=by omega
   have e2:((zAk n).getD i0 0).toNat=c:=by omega
   have e3:(zAk n).getD i0 0=(c:Int):=by omega
   subst e1
   have hw:=ht.at_ h c gj hc
   by_cases hm:w.getD (h*8+c) 0≤(i0:Int)
   ·right
    exact ⟨i0,hi,e3,by rw [Int.max_eq_right hm],.inr ⟨rfl,rfl⟩⟩
   ·rcases hw with hw | ⟨i,g1,g2,g3,g4⟩
    ·omega
    ·right;exact ⟨i,g1,g2,by rw [Int.max_eq_left (by omega)];exact g3,.inl g4⟩
  ·rcases ht.at_ h c gj hc with hw | ⟨i,g1,g2,g3,g4⟩
   ·exact .inl hw
   ·exact .inr ⟨i,g1,g2,g3,.inl g4⟩
 ·rw [zIk yJ]
  have gu:=zCf ho i hi1
  rcases hS with hS | ⟨rfl,rfl⟩
  ·have:=ht.top h i gj hi1 hS
   split<;>omega
  ·rw [if_pos rfl];omega
theorem Tr.same {n:Nw} {w:List Int} {S S':Nat→Nat→Prop} (ht:Tr n w S) (h:∀ a i,a<n.h.toNat→i<n.n.length→(S a i↔S' a i)):Tr n w S' :=
 ⟨ht.wl,fun a c ha hc=>by
  rcases ht.at_ a c ha hc with h1 | ⟨i,g1,g2,g3,g4⟩
  ·exact .inl h1
  ·exact .inr ⟨i,g1,g2,g3,(h a i ha g1).1 g4⟩,fun a i ha hi hs=>ht.top a i ha hi ((h a i ha hi).2 hs)⟩
theorem Tr.none (n:Nw) (ho:NwOk n):Tr n (List.replicate 80 (-1)) (fun _ _=>False):=by
 have hH:=ho.h.2
 refine ⟨by simp,fun h c hh hc => .inl ?_,fun _ _ _ _ h=>h.elim⟩
 rw [zAr (by rw [List.length_replicate];omega),List.getElem_replicate]
end Go.Eng
namespace Go.Eng
open Go Go.Proofs
theorem Tr.begC {n:Nw} {w:List Int} {S:Nat→Nat→Prop} (ho:NwOk n) (ht:Tr n w S) {h:Nat} (hh:h<n.h.toNat) {c:Int×Int} (hc:0≤c.1∧c.1<n.n.length):Tr n (begC n h w c) (fun a i=>S a i∨a=h∧hrB n h i c=true):=by
 unfold Go.Eng.begC
 split
 ·rename_i hs
  have:=ht.upd ho hh (i0:=c.1.toNat) (by omega)
  rw [Int.toNat_of_nonneg hc.1] at this
  refine this.same fun a i _ _=>?_
  simp only [hrB,hs,Bool.and_true,decide_eq_true_eq]
  refine or_congr Iff.rfl (and_congr Iff.rfl ⟨fun e=>by omega,fun e=>by omega⟩)
 ·rename_i hs
  refine ht.same fun a i _ _=>?_
  have h2:has (n.s.getD c.2.toNat []) h=false:=by
   cases hx:has (n.s.getD c.2.toNat []) h
   ·rfl
   ·exact absurd hx hs
  simp only [hrB,h2,Bool.and_false,Bool.false_eq_true,and_false,or_false]
theorem Tr.begH {n:Nw} (ho:NwOk n) {h:Nat} (hh:h<n.h.toNat):∀ (cs:List (Int×Int)) {w:List Int} {S:Nat→Nat→Prop},Tr n w S→(∀ c∈cs,0≤c.1∧c.1<n.n.length)→Tr n (begH n h w cs) (fun a i=>S a i∨a=h∧zFS n cs h i=true)
 | [],w,S,ht,_=>ht.same fun a i _ _=>by simp [zFS]
 | c::cs,w,S,ht,hc=>by
  have h1:=Tr.begH ho hh cs (ht.begC ho hh (hc c List.mem_cons_self)) fun d hd=>hc d (List.mem_cons_of_mem _ hd)
  refine Tr.same (w:=Go.Eng.begH n h w (c::cs)) h1 fun a i _ _=>?_
  simp only [zFS,List.any_cons,Bool.or_eq_true,or_assoc,and_or_left]
theorem Tr.begN {n:Nw} {cs:List (Int×Int)} (ho:CrW n cs):∀ k,k≤n.h.toNat→Tr n (begN n cs k) (fun a i=>a<k∧zFS n cs a i=true)
 | 0,_=>(Tr.none n ho.nw).same fun a i _ _=>by simp
 | k + 1,hk=>by
  rw [zI8]
  refine (Tr.begH ho.nw (by omega) cs (Tr.begN ho k (by omega)) fun c hc=>(ho.cs c hc).1).same fun a i _ _=>?_
  constructor
  ·rintro (⟨h1,h2⟩ | ⟨rfl,h2⟩)
   ·exact ⟨by omega,h2⟩
   ·exact ⟨by omega,h2⟩
  ·rintro ⟨h1,h2⟩
   by_cases e:a=k
   ·subst e;exact .inr ⟨rfl,h2⟩
   ·exact .inl ⟨by omega,h2⟩
theorem RelK.of_tr {n:Nw} {K:List (List Bool)} {w:List Int} (h1:K.length=n.h.toNat) (h2:∀ r∈K,r.length=n.n.length) (ht:Tr n w fun a i=>kn K a i=true):RelK n K w :=
 ⟨h1,h2,ht.wl,ht.top,ht.at_⟩
theorem RelK.tr {n:Nw} {K:List (List Bool)} {w:List Int} (h:RelK n K w):Tr n w fun a i=>kn K a i=true:=⟨h.wl,h.at_,h.top⟩
theorem zXE {n:Nw} {cs:List (Int×Int)} {a i:Nat} (ha:a<n.h.toNat) (hi:i<n.n.length):kn (zP9 n cs n.h.toNat) a i=zFS n cs a i:=by
 unfold kn zP9
 rw [zAr (l:=(List.range n.h.toNat).map fun h=>zO6 n cs h n.n.length) (by rw [List.length_map,List.length_range];exact ha)]
 simp only [List.getElem_map,List.getElem_range]
 unfold zO6
 rw [zAr (by rw [List.length_map,List.length_range];exact hi)]
 simp only [List.getElem_map,List.getElem_range]
theorem zVD {n:Nw} {cs:List (Int×Int)} (ho:CrW n cs):RelK n (zP9 n cs n.h.toNat) (zOo n cs):=by
 refine RelK.of_tr (by simp [zP9]) (fun r hr=>?_) ?_
 ·obtain ⟨h,_,rfl⟩:=List.mem_map.1 hr
  simp [zO6]
 ·refine (Tr.begN ho n.h.toNat (Nat.le_refl _)).same fun a i ha hi=>?_
  rw [zXE ha hi]
  exact ⟨fun h=>h.2,fun h=>⟨ha,h⟩⟩
end Go.Eng
namespace Go.Eng
open Go Go.Proofs
def nxB (n:Nw) (K:List (List Bool)) (w:List Int) (h i:Nat):Bool:=kn K h i||(zGN n h n.h.toNat).any fun o=>hld n w o i
def zGr (n:Nw) (K:List (List Bool)) (w:List Int) (h:Nat):List Bool:=(List.range n.n.length).map fun i=>nxB n K w h i
def zMX (n:Nw) (K:List (List Bool)) (w:List Int):List (List Bool):=(List.range n.h.toNat).map fun h=>zGr n K w h
theorem zVi {n:Nw} {K:List (List Bool)} {w:List Int} {a i:Nat} (ha:a<n.h.toNat) (hi:i<n.n.length):kn (zMX n K w) a i=nxB n K w a i:=by
 unfold kn zMX
 rw [zAr (l:=(List.range n.h.toNat).map fun h=>zGr n K w h) (by rw [List.length_map,List.length_range];exact ha)]
 simp only [List.getElem_map,List.getElem_range]
 unfold zGr
 rw [zAr (by rw [List.length_map,List.length_range];exact hi)]
 simp only [List.getElem_map,List.getElem_range]
theorem Tr.skip {n:Nw} {w:List Int} {S:Nat→Nat→Prop} (ho:NwOk n) (ht:Tr n w S) {h0 c0:Nat} (hh:h0<n.h.toNat) (hc:c0<8):Tr n (zQr w (h0*8+c0) (-1)) S:=by
 have hH:=ho.h.2
 have yJ:h0*8+c0<w.length:=by rw [ht.wl];omega
 have hge : -1≤w.getD (h0*8+c0) 0:=by
  rcases ht.at_ h0 c0 hh hc with h | ⟨i,_,_,h,_⟩<;>omega
 have he:∀ j,(zQr w (h0*8+c0) (-1)).getD j 0=w.getD j 0:=fun j=>by
  rw [zIk yJ]
  split
  ·rename_i e;subst e;exact Int.max_eq_left hge
  ·rfl
 exact ⟨by rw [zIA];exact ht.wl,fun h c h1 h2=>by rw [he];exact ht.at_ h c h1 h2,fun h i h1 h2 h3=>by rw [he];exact ht.top h i h1 h2 h3⟩
theorem Tr.nxtR {n:Nw} {now:List Int} {S0:Nat→Nat→Prop} (ho:NwOk n) (h0:Tr n now S0) {h o:Nat} (hh:h<n.h.toNat) (hoo:o<n.h.toNat) {w:List Int} {S:Nat→Nat→Prop} (ht:Tr n w S):∀ k,k≤8→Tr n (nxtR now h o w k) (fun a i=>S a i∨a=h∧(zAk n).getD i 0<(k:Int)∧hld n now o i=true)
 | 0,_=>Tr.same (w:=Go.Eng.nxtR now h o w 0) ht fun a i _ hi=>by
  have:=zCf ho i hi
  exact ⟨.inl,fun h=>h.elim id fun h=>by have:=h.2.1;omega⟩
 | k + 1,hk=>by
  have ih:=Tr.nxtR ho h0 hh hoo ht k (by omega)
  have e:Go.Eng.nxtR now h o w (k+1)=zQr (Go.Eng.nxtR now h o w k) (h*8+k) (now.getD (o*8+k) 0):=by
   simp only [Go.Eng.nxtR,List.range_succ,List.foldl_append,List.foldl_cons,List.foldl_nil]
  rw [e]
  rcases h0.at_ o k hoo (by omega) with hm | ⟨j,g1,g2,g3,_⟩
  ·rw [hm]
   refine (ih.skip ho hh (by omega)).same fun a i _ hi=>or_congr Iff.rfl (and_congr Iff.rfl ⟨fun ⟨x,y⟩=>⟨by omega,y⟩,fun ⟨x,y⟩=>⟨?_,y⟩⟩)
   have hf:=zCf ho i hi
   by_cases ek:(zAk n).getD i 0=(k:Int)
   ·simp only [hld,decide_eq_true_eq,ek,Int.toNat_natCast,hm] at y
    omega
   ·omega
  ·have:=ih.upd ho hh g1
   rw [g2,Int.toNat_natCast] at this
   rw [g3]
   refine this.same fun a i _ hi=>?_
   have hf:=zCf ho i hi
   constructor
   ·rintro ((x | ⟨x,y,z⟩) | ⟨rfl,rfl⟩)
    ·exact .inl x
    ·exact .inr ⟨x,by omega,z⟩
    ·refine .inr ⟨rfl,by omega,?_⟩
     simp only [hld,decide_eq_true_eq,g2,Int.toNat_natCast,g3]
   ·rintro (x | ⟨rfl,y,z⟩)
    ·exact .inl (.inl x)
    ·by_cases ek:(zAk n).getD i 0=(k:Int)
     ·simp only [hld,decide_eq_true_eq,ek,Int.toNat_natCast,g3] at z
      exact .inr ⟨rfl,by omega⟩
     ·exact .inl (.inr ⟨rfl,by omega,z⟩)
theorem Tr.nxtH {n:Nw} {now:List Int} {S0:Nat→Nat→Prop} (ho:NwOk n) (h0:Tr n now S0) {h:Nat} (hh:h<n.h.toNat):∀ (l:List Nat),(∀ o∈l,o<n.h.toNat)→∀ {w:List Int} {S:Nat→Nat→Prop},Tr n w S→Tr n (nxtH now h w l) (fun a i=>S a i∨a=h∧(l.any fun o=>hld n now o i)=true)
 | [],_,w,S,ht=>Tr.same (w:=Go.Eng.nxtH now h w []) ht fun a i _ _=>by simp
 | o::l,hl,w,S,ht=>by
  have h1:=Tr.nxtH ho h0 hh l (fun x hx=>hl x (List.mem_cons_of_mem _ hx)) (Tr.nxtR ho h0 hh (hl o List.mem_cons_self) ht 8 (Nat.le_refl _))
  refine Tr.same (w:=Go.Eng.nxtH now h w (o::l)) h1 fun a i _ hi=>?_
  have hf:=zCf ho i hi
  have uH:=ho.nl.2
  simp only [List.any_cons,Bool.or_eq_true,and_or_left,or_assoc]
  refine or_congr Iff.rfl (or_congr (and_congr Iff.rfl ⟨fun x=>x.2,fun x=>⟨by omega,x⟩⟩) Iff.rfl)
theorem Tr.nxtN {n:Nw} {now:List Int} {S0:Nat→Nat→Prop} (ho:NwOk n) (h0:Tr n now S0):∀ k,k≤n.h.toNat→Tr n (nxtN n now k) (fun a i=>S0 a i∨a<k∧((zGN n a n.h.toNat).any fun o=>hld n now o i)=true)
 | 0,_=>Tr.same (w:=Go.Eng.nxtN n now 0) h0 fun a i _ _=>by simp
 | k + 1,hk=>by
  have ih:=Tr.nxtN ho h0 k (by omega)
  have e:Go.Eng.nxtN n now (k+1)=Go.Eng.nxtH now k (Go.Eng.nxtN n now k) (zGN n k n.h.toNat):=by
   simp only [Go.Eng.nxtN,List.range_succ,List.foldl_append,List.foldl_cons,List.foldl_nil]
  rw [e]
  refine (Tr.nxtH ho h0 (by omega) _ (fun o hm=>List.mem_range.1 (List.mem_filter.1 hm).1) ih).same fun a i _ _=>?_
  constructor
  ·rintro ((x | ⟨x,y⟩) | ⟨rfl,y⟩)
   ·exact .inl x
   ·exact .inr ⟨by omega,y⟩
   ·exact .inr ⟨by omega,y⟩
  ·rintro (x | ⟨x,y⟩)
   ·exact .inl (.inl x)
   ·by_cases ea:a=k
    ·subst ea;exact .inr ⟨rfl,y⟩
    ·exact .inl (.inr ⟨by omega,y⟩)
theorem zUe {n:Nw} (ho:NwOk n) {K:List (List Bool)} {w:List Int} (h:RelK n K w):RelK n (zMX n K w) (zCo n w):=by
 refine RelK.of_tr (by simp [zMX]) (fun r hr=>?_) ?_
 ·obtain ⟨h,_,rfl⟩:=List.mem_map.1 hr
  simp [zGr]
 ·refine (Tr.nxtN ho h.tr n.h.toNat (Nat.le_refl _)).same fun a i ha hi=>?_
  rw [zVi ha hi,nxB,Bool.or_eq_true]
  exact or_congr Iff.rfl ⟨fun x=>x.2,fun x=>⟨ha,x⟩⟩
end Go.Eng
