/- The payments that are told clear balances; they are as many as there are people with a balance less the groups; without one of them the others do not clear (up to 7 balances of numbers; any payment). -/
import Derived.Test.YtpmbobnmpehobaaPh
import Derived.Test.YtpmbobnmpehobaaPd
import Derived.Test.YtpmbobnmpehobaaPf
import Derived.Test.YtpmbobnmpehobaaPe
set_option linter.unusedVariables false
set_option linter.unusedSimpArgs false
set_option linter.unusedSectionVars false
set_option maxRecDepth 10000
set_option maxHeartbeats 4000000
namespace Go.Eng
open Go Go.Proofs
theorem zSj {bal l:List Int} {n:Int} {k:Nat} (h:k+1<l.length):zKy bal n (l.drop k)=(if n+zBR bal (l.getD k 0)>0 then [⟨l.getD (k+1) 0,l.getD k 0,n+zBR bal (l.getD k 0)⟩] else if n+zBR bal (l.getD k 0)<0 then [⟨l.getD k 0,l.getD (k+1) 0,-(n+zBR bal (l.getD k 0))⟩] else [])++zKy bal (n+zBR bal (l.getD k 0)) (l.drop (k+1)):=by
 rw [List.drop_eq_getElem_cons (show k<l.length by omega),List.drop_eq_getElem_cons h]
 simp only [zKy,zAE h,zAE (show k<l.length by omega)]
theorem zTF {bal l:List Int} {n:Int} {k:Nat} (h:l.length≤k+1):zKy bal n (l.drop k)=[]:=by
 by_cases hk:k<l.length
 ·rw [List.drop_eq_getElem_cons hk,List.drop_of_length_le h];rfl
 ·rw [List.drop_of_length_le (by omega)];rfl
def zTf (bal:List Int):List Pay:=if zBG bal=0 then zFa bal (zFb bal) else []
section
variable [Yo]
theorem f48 (bal:List Int) (hl:bal.length<4294967296):FG 48 [zCb bal] (.tup [.own 3 ((zTf bal).map zAA),I (zBG bal)]):=by
 have h108:=f108 bal hl
 by_cases h:zBG bal=0
 ·have hb := zN4 h
  have hb8:=hb.len
  have h111:=f111 bal hb.rng hb.len
  have e:zTf bal=zFa bal (zFb bal):=by simp only [zTf,h,if_true]
  obtain ⟨hG,hz,hm⟩:=zI6 hb.sum
  have hGl:=zKI hG
  rw [e]
  rw [h] at h108 ⊢
  have yc:∀ i,i<(zFb bal).length→((zFb bal).getD i []).length≠0∧((zFb bal).getD i []).length≤8∧∀ x∈(zFb bal).getD i [],0≤x∧x<bal.length:=fun i hi=>by
   have hm:=zC7 (now:=zFb bal) hi
   obtain ⟨g1,g2,g3⟩:=hG.el _ hm
   have:=zMN hm
   exact ⟨fun h0=>g1 (List.eq_nil_of_length_eq_zero h0),by omega,fun x hx=>by have:=g3 x hx;omega⟩
  generalize zFb bal=G at *
  clear hG hz hm
  refine zAi Try.f48 ?_
  refine zAb (zAa (zAe 2 (zAc (zAb (zAb (zAa (zAe 1 (S_a [(6,.ret (I 0) ([]))] (ap (h108) an) (zAe 1 (zAc (zAb (zAa (zAe 2 (zAc (zAY (zAn (zAb (zAa (zAe 1 (zAc (zAb (zAb (zAa (zAe 1 (S_a [(6,.ret (zDg G) ([]))] (ap (h111) an) (S_a [(0,.n (G.length))] (ap ((by simp):some (List.map zAg G).length=some G.length) an) (zAe 1 (zAc (zAm 0 ?_)))))))))))))))))))))))))))))
  refine zBc (fun (i,q)=>i≤G.length∧q=zFa bal (G.take i)∧q.length≤8*i) (fun (i,q)=>[(5,.own 3 (q.map zAA)),(19,I (i:Nat))]) (fun (i,_)=>G.length-i) ((0:Nat),([]:List Pay)) ⟨Nat.zero_le _,rfl,Nat.zero_le _⟩ fun (i,q) ⟨hi,hq,hql⟩=>?_
  by_cases jP:i<G.length
  ·obtain ⟨e1,e2,e3⟩:=yc i jP
   have kw:zFa bal (G.take (i+1))=q++zKy bal 0 ((G.getD i []).drop 0):=by
    rw [hq,List.take_add_one,List.getElem?_eq_getElem jP,zAE jP,List.drop_zero]
    simp only [zFa,Option.toList,List.flatMap_append,List.flatMap_cons,List.flatMap_nil,List.append_nil]
   refine zAb (zAa (zAe 1 (zAc (zAb (zBN ((↑i:Int)<(↑G.length:Int)) (by omega) (zAn (zAb (zAm 1 (zAb (zAa (S_a [(2,.ob),(1,.n (i))] (ap ((by exact zAu (by simp only [List.length_map,zzLn]<;>omega)):decide (i<(List.map zAg G).length)=true) (ap ((by simp):some (0+i)=some i) an)) (S_a [(0,.cs false ([PV.bor 17 [(i,0)] 1 0 (List.map I (G.getD i [])).length])),(0,.v (PV.bor 17 [(i,0)] 1 0 (G.getD i []).length))] (ap (zBx (q:=PV.own 1 (List.map zAg G)) (xs:=List.map zAg G) (x:=PV.own 1 (List.map I (G.getD i []))) rfl (zBd ([]) (by omega)):zAj 17 (PV.own 1 (List.map zAg G)) [] i 0 1=some (false,[PV.bor 17 [(i,0)] 1 0 (List.map I (G.getD i [])).length])) (ap ((by simp):PV.bor 17 [(i,0)] 1 0 (List.map I (G.getD i [])).length=PV.bor 17 [(i,0)] 1 0 (G.getD i []).length) an)) (zAe 1 (zAc (zAb (zAa (zAe 1 (zAc (zAb (zAa (zAe 3 (S_a [(1,.v (I (↑((G.getD i []).length-1):Int)))] (ap ((zAH (by omega) (by omega)):I (IntKind.i64.wrap ((↑(G.getD i []).length:Int)-1))=I (↑((G.getD i []).length-1):Int)) an) (S_a [(4,.yes)] (ap ((by exact zAw (by simp<;>omega)):((G.getD i []).length-1).ble (G.getD i []).length=true) an) (zAe 2 (zAc (zAm 2 ?_))))))))))))))))))))))))))
   refine zBc (fun (k,n,q2)=>k≤(G.getD i []).length-1∧n=zCZ bal ((G.getD i []).take k)∧q2++zKy bal n ((G.getD i []).drop k)=zFa bal (G.take (i+1))∧q2.length≤8*i+k) (fun (k,n,q2)=>[(5,.own 3 (q2.map zAA)),(8,I n),(29,I (k:Nat))]) (fun (k,_,_)=>(G.getD i []).length-1-k) ((0:Nat),(0:Int),q) ⟨Nat.zero_le _,rfl,kw.symm,by omega⟩ fun (k,n,q2) ⟨hk,hn,kL,hl2⟩=>?_
   have vi:=zNl (bal:=bal) (g:=(G.getD i []).take k) hb.rng
   rw [← hn,List.length_take] at vi
   by_cases uh:k+1<(G.getD i []).length
   ·have hp:=e3 ((G.getD i []).getD k 0) (by rw [zAE (show k<(G.getD i []).length by omega)];exact List.getElem_mem _)
    have hbp:=zOl hb.rng ((G.getD i []).getD k 0)
    have yR:=zSj (bal:=bal) (n:=n) uh
    have gO:=zIR (bal:=bal) (show k<(G.getD i []).length by omega)
    rw [← hn] at gO
    have gi:zBR bal ((G.getD i []).getD k 0)=bal.getD ((G.getD i []).getD k 0).toNat 0:=rfl
    rw [gi] at yR hbp
    have hw:IntKind.i64.wrap (n+bal.getD ((G.getD i []).getD k 0).toNat 0)=n+bal.getD ((G.getD i []).getD k 0).toNat 0:=zS3 (by omega)
    by_cases hpos:n+bal.getD ((G.getD i []).getD k 0).toNat 0>0
    ·rw [if_pos hpos] at yR
     rw [yR,← List.append_assoc] at kL
     clear yR hq kw yc hw
     refine zAb (zAa (zAe 1 (zAc (zAb (zBN ((↑k:Int)<(↑((↑((G.getD i []).length-1):Int).toNat-0):Int)) (by omega) (zAn (zAb (zAm 3 (zAb (zAa (zAe 1 (S_a [(2,.ob),(1,.n (k))] (ap ((by exact zAu (by omega)):decide (k<(↑((G.getD i []).length-1):Int).toNat-0)=true) (ap ((by simp):some (0+k)=some k) an)) (S_a [(0,.cs false ([I ((G.getD i []).getD k 0)]))] (ap (zBx (q:=PV.own 1 (List.map I (G.getD i []))) (xs:=List.map I (G.getD i [])) (x:=I ((G.getD i []).getD k 0)) (zBz (xs:=List.map zAg G) (x:=PV.own 1 (List.map I (G.getD i []))) (y:=PV.own 1 (List.map I (G.getD i []))) (zBd ([]) (by omega)) rfl) (zBd (0) (by omega)):zAj 17 (PV.own 1 (List.map zAg G)) [(i,0)] k 0 1=some (false,[I ((G.getD i []).getD k 0)])) an) (zAe 2 (zAc (zAb (zAa (zAe 3 (S_a [(0,.ob),(1,.v (I (bal.getD ((G.getD i []).getD k 0).toNat 0)))] (ap ((by exact zAu (by omega)):decide (0≤(G.getD i []).getD k 0)=true) (ap (zBd (0) (by omega):(List.map I bal)[((G.getD i []).getD k 0).toNat]? = some (I (bal.getD ((G.getD i []).getD k 0).toNat 0))) an)) (zAe 1 (S_a [(1,.v (I (n+bal.getD ((G.getD i []).getD k 0).toNat 0)))] (ap ((zAH rfl (by omega)):I (IntKind.i64.wrap (n+bal.getD ((G.getD i []).getD k 0).toNat 0))=I (n+bal.getD ((G.getD i []).getD k 0).toNat 0)) an) (zAe 1 (zAc (zAm 4 (zAb (zAa (zAe 3 (zAc (zBN (n+bal.getD ((G.getD i []).getD k 0).toNat 0>0) (by omega) (zAa (zAe 3 (S_a [(1,.v (I (↑(k+1):Int)))] (ap ((zAH (by omega) (by omega)):I (IntKind.i64.wrap ((↑k:Int)+1))=I (↑(k+1):Int)) an) (S_a [(2,.ob),(1,.n (k+1))] (ap ((by exact zAu (by omega)):decide (k+1<(G.getD i []).length)=true) (ap ((by simp):some (0+(k+1))=some (k+1)) an)) (S_a [(0,.cs false ([I ((G.getD i []).getD (k+1) 0)]))] (ap (zBx (q:=PV.own 1 (List.map I (G.getD i []))) (xs:=List.map I (G.getD i [])) (x:=I ((G.getD i []).getD (k+1) 0)) (zBz (xs:=List.map zAg G) (x:=PV.own 1 (List.map I (G.getD i []))) (y:=PV.own 1 (List.map I (G.getD i []))) (zBd ([]) (by omega)) rfl) (zBd (0) (by omega)):zAj 17 (PV.own 1 (List.map zAg G)) [(i,0)] (k+1) 0 1=some (false,[I ((G.getD i []).getD (k+1) 0)])) an) (zAe 4 (S_a [(4,.ob),(0,.ob),(0,.yes),(2,.v (PV.own 3 (List.map zAA (q2++[{src:=(G.getD i []).getD (k+1) 0,dst:=(G.getD i []).getD k 0,coins:=n+bal.getD ((G.getD i []).getD k 0).toNat 0}]))))] (ap ((by exact zAw (by simp only [List.length_map,zzLn,zAC]<;>omega)):(0+(List.map zAA q2).length).ble (List.map zAA q2).length=true) (ap ((by exact zAw (by simp only [List.length_map,zzLn,zAC]<;>omega)):((List.map zAA q2).length + [PV.agg [I ((G.getD i []).getD (k+1) 0),I ((G.getD i []).getD k 0),I (n+bal.getD ((G.getD i []).getD k 0).toNat 0)]].length).ble zAC=true) (ap ((by exact zBF (by simp<;>omega)):(0+(List.map zAA q2).length).beq (List.map zAA q2).length=true) (ap ((by simp):PV.own 3 (List.map zAA q2++[PV.agg [I ((G.getD i []).getD (k+1) 0),I ((G.getD i []).getD k 0),I (n+bal.getD ((G.getD i []).getD k 0).toNat 0)]])=PV.own 3 (List.map zAA (q2++[{src:=(G.getD i []).getD (k+1) 0,dst:=(G.getD i []).getD k 0,coins:=n+bal.getD ((G.getD i []).getD k 0).toNat 0}]))) an)))) (zAe 1 (zAc (zAa (S_a [(1,.v (I (↑(k+1):Int)))] (ap ((zAH (by omega) (by omega)):I (IntKind.i64.wrap ((↑k:Int)+1))=I (↑(k+1):Int)) an) (zAe 1 (zAc ?_))))))))))))))))))))))))))))))))))))))))))
     exact ⟨(k+1,n+bal.getD ((G.getD i []).getD k 0).toNat 0,q2++[⟨(G.getD i []).getD (k+1) 0,(G.getD i []).getD k 0,n+bal.getD ((G.getD i []).getD k 0).toNat 0⟩]),⟨by omega,gO.symm,kL,by rw [List.length_append,List.length_singleton];omega⟩,by simp only;omega,by kernel_rfl,by kernel_rfl⟩
    ·rw [if_neg hpos] at yR
     by_cases hneg:n+bal.getD ((G.getD i []).getD k 0).toNat 0<0
     ·rw [if_pos hneg,show -(n+bal.getD ((G.getD i []).getD k 0).toNat 0)=0-(n+bal.getD ((G.getD i []).getD k 0).toNat 0) from by omega] at yR
      rw [yR,← List.append_assoc] at kL
      clear yR hq kw yc hw
      refine zAb (zAa (zAe 1 (zAc (zAb (zBN ((↑k:Int)<(↑((↑((G.getD i []).length-1):Int).toNat-0):Int)) (by omega) (zAn (zAb (zAm 3 (zAb (zAa (zAe 1 (S_a [(2,.ob),(1,.n (k))] (ap ((by exact zAu (by omega)):decide (k<(↑((G.getD i []).length-1):Int).toNat-0)=true) (ap ((by simp):some (0+k)=some k) an)) (S_a [(0,.cs false ([I ((G.getD i []).getD k 0)]))] (ap (zBx (q:=PV.own 1 (List.map I (G.getD i []))) (xs:=List.map I (G.getD i [])) (x:=I ((G.getD i []).getD k 0)) (zBz (xs:=List.map zAg G) (x:=PV.own 1 (List.map I (G.getD i []))) (y:=PV.own 1 (List.map I (G.getD i []))) (zBd ([]) (by omega)) rfl) (zBd (0) (by omega)):zAj 17 (PV.own 1 (List.map zAg G)) [(i,0)] k 0 1=some (false,[I ((G.getD i []).getD k 0)])) an) (zAe 2 (zAc (zAb (zAa (zAe 3 (S_a [(0,.ob),(1,.v (I (bal.getD ((G.getD i []).getD k 0).toNat 0)))] (ap ((by exact zAu (by omega)):decide (0≤(G.getD i []).getD k 0)=true) (ap (zBd (0) (by omega):(List.map I bal)[((G.getD i []).getD k 0).toNat]? = some (I (bal.getD ((G.getD i []).getD k 0).toNat 0))) an)) (zAe 1 (S_a [(1,.v (I (n+bal.getD ((G.getD i []).getD k 0).toNat 0)))] (ap ((zAH rfl (by omega)):I (IntKind.i64.wrap (n+bal.getD ((G.getD i []).getD k 0).toNat 0))=I (n+bal.getD ((G.getD i []).getD k 0).toNat 0)) an) (zAe 1 (zAc (zAm 4 (zAb (zAa (zAe 3 (zAc (zB3 (n+bal.getD ((G.getD i []).getD k 0).toNat 0>0) (by omega) (zAb (zAa (zAe 3 (zAc (zBN (n+bal.getD ((G.getD i []).getD k 0).toNat 0<0) (by omega) (zAa (zAe 4 (S_a [(1,.v (I (↑(k+1):Int)))] (ap ((zAH (by omega) (by omega)):I (IntKind.i64.wrap ((↑k:Int)+1))=I (↑(k+1):Int)) an) (S_a [(2,.ob),(1,.n (k+1))] (ap ((by exact zAu (by omega)):decide (k+1<(G.getD i []).length)=true) (ap ((by simp):some (0+(k+1))=some (k+1)) an)) (S_a [(0,.cs false ([I ((G.getD i []).getD (k+1) 0)]))] (ap (zBx (q:=PV.own 1 (List.map I (G.getD i []))) (xs:=List.map I (G.getD i [])) (x:=I ((G.getD i []).getD (k+1) 0)) (zBz (xs:=List.map zAg G) (x:=PV.own 1 (List.map I (G.getD i []))) (y:=PV.own 1 (List.map I (G.getD i []))) (zBd ([]) (by omega)) rfl) (zBd (0) (by omega)):zAj 17 (PV.own 1 (List.map zAg G)) [(i,0)] (k+1) 0 1=some (false,[I ((G.getD i []).getD (k+1) 0)])) an) (zAe 1 (S_a [(0,.v (I (0-(n+bal.getD ((G.getD i []).getD k 0).toNat 0))))] (ap ((zAH rfl (by omega)):I (IntKind.i64.wrap (0-(n+bal.getD ((G.getD i []).getD k 0).toNat 0)))=I (0-(n+bal.getD ((G.getD i []).getD k 0).toNat 0))) an) (zAe 2 (S_a [(4,.ob),(0,.ob),(0,.yes),(2,.v (PV.own 3 (List.map zAA (q2++[{src:=(G.getD i []).getD k 0,dst:=(G.getD i []).getD (k+1) 0,coins:=0-(n+bal.getD ((G.getD i []).getD k 0).toNat 0)}]))))] (ap ((by exact zAw (by simp only [List.length_map,zzLn,zAC]<;>omega)):(0+(List.map zAA q2).length).ble (List.map zAA q2).length=true) (ap ((by exact zAw (by simp only [List.length_map,zzLn,zAC]<;>omega)):((List.map zAA q2).length + [PV.agg [I ((G.getD i []).getD k 0),I ((G.getD i []).getD (k+1) 0),I (0-(n+bal.getD ((G.getD i []).getD k 0).toNat 0))]].length).ble zAC=true) (ap ((by exact zBF (by simp<;>omega)):(0+(List.map zAA q2).length).beq (List.map zAA q2).length=true) (ap ((by simp):PV.own 3 (List.map zAA q2++[PV.agg [I ((G.getD i []).getD k 0),I ((G.getD i []).getD (k+1) 0),I (0-(n+bal.getD ((G.getD i []).getD k 0).toNat 0))]])=PV.own 3 (List.map zAA (q2++[{src:=(G.getD i []).getD k 0,dst:=(G.getD i []).getD (k+1) 0,coins:=0-(n+bal.getD ((G.getD i []).getD k 0).toNat 0)}]))) an)))) (zAe 1 (zAc (zAa (S_a [(1,.v (I (↑(k+1):Int)))] (ap ((zAH (by omega) (by omega)):I (IntKind.i64.wrap ((↑k:Int)+1))=I (↑(k+1):Int)) an) (zAe 1 (zAc ?_)))))))))))))))))))))))))))))))))))))))))))))))))
      exact ⟨(k+1,n+bal.getD ((G.getD i []).getD k 0).toNat 0,q2++[⟨(G.getD i []).getD k 0,(G.getD i []).getD (k+1) 0,0-(n+bal.getD ((G.getD i []).getD k 0).toNat 0)⟩]),⟨by omega,gO.symm,kL,by rw [List.length_append,List.length_singleton];omega⟩,by simp only;omega,by kernel_rfl,by kernel_rfl⟩
     ·rw [if_neg hneg,List.nil_append] at yR
      rw [yR] at kL
      clear yR hq kw yc hw
      refine zAb (zAa (zAe 1 (zAc (zAb (zBN ((↑k:Int)<(↑((↑((G.getD i []).length-1):Int).toNat-0):Int)) (by omega) (zAn (zAb (zAm 3 (zAb (zAa (zAe 1 (S_a [(2,.ob),(1,.n (k))] (ap ((by exact zAu (by omega)):decide (k<(↑((G.getD i []).length-1):Int).toNat-0)=true) (ap ((by simp):some (0+k)=some k) an)) (S_a [(0,.cs false ([I ((G.getD i []).getD k 0)]))] (ap (zBx (q:=PV.own 1 (List.map I (G.getD i []))) (xs:=List.map I (G.getD i [])) (x:=I ((G.getD i []).getD k 0)) (zBz (xs:=List.map zAg G) (x:=PV.own 1 (List.map I (G.getD i []))) (y:=PV.own 1 (List.map I (G.getD i []))) (zBd ([]) (by omega)) rfl) (zBd (0) (by omega)):zAj 17 (PV.own 1 (List.map zAg G)) [(i,0)] k 0 1=some (false,[I ((G.getD i []).getD k 0)])) an) (zAe 2 (zAc (zAb (zAa (zAe 3 (S_a [(0,.ob),(1,.v (I (bal.getD ((G.getD i []).getD k 0).toNat 0)))] (ap ((by exact zAu (by omega)):decide (0≤(G.getD i []).getD k 0)=true) (ap (zBd (0) (by omega):(List.map I bal)[((G.getD i []).getD k 0).toNat]? = some (I (bal.getD ((G.getD i []).getD k 0).toNat 0))) an)) (zAe 1 (S_a [(1,.v (I (n+bal.getD ((G.getD i []).getD k 0).toNat 0)))] (ap ((zAH rfl (by omega)):I (IntKind.i64.wrap (n+bal.getD ((G.getD i []).getD k 0).toNat 0))=I (n+bal.getD ((G.getD i []).getD k 0).toNat 0)) an) (zAe 1 (zAc (zAm 4 (zAb (zAa (zAe 3 (zAc (zB3 (n+bal.getD ((G.getD i []).getD k 0).toNat 0>0) (by omega) (zAb (zAa (zAe 3 (zAc (zB3 (n+bal.getD ((G.getD i []).getD k 0).toNat 0<0) (by omega) (zAn (zAa (S_a [(1,.v (I (↑(k+1):Int)))] (ap ((zAH (by omega) (by omega)):I (IntKind.i64.wrap ((↑k:Int)+1))=I (↑(k+1):Int)) an) (zAe 1 (zAc ?_)))))))))))))))))))))))))))))))))))))))
      exact ⟨(k+1,n+bal.getD ((G.getD i []).getD k 0).toNat 0,q2),⟨by omega,gO.symm,kL,by omega⟩,by simp only;omega,by kernel_rfl,by kernel_rfl⟩
   ·rw [zTF (by omega),List.append_nil] at kL
    clear hq kw yc hn vi
    refine zAb (zAa (zAe 1 (zAc (zAb (zB3 ((↑k:Int)<(↑((↑((G.getD i []).length-1):Int).toNat-0):Int)) (by omega) (zBA 2 (zAa (S_a [(1,.v (I (↑(i+1):Int)))] (ap ((zAH (by omega) (by omega)):I (IntKind.i64.wrap ((↑i:Int)+1))=I (↑(i+1):Int)) an) (zAe 1 (zAc ?_))))))))))
    exact ⟨(i+1,q2),⟨by omega,kL,by omega⟩,by simp only;omega,by kernel_rfl,by kernel_rfl⟩
  ·rw [List.take_of_length_le (by omega)] at hq
   rw [← hq]
   refine zAb (zAa (zAe 1 (zAc (zAb (zB3 ((↑i:Int)<(↑G.length:Int)) (by omega) (zBA 0 (zAb (zAa (zAe 1 (S_a [(2,.yes)] (ap ((by exact zBF (by simp<;>omega)):(Nat.beq 0 0&&(List.map zAA q).length.beq (List.map zAA q).length)=true) an) (zAe 1 (zAc (zAD (E_a [(1,.yes),(1,.v (PV.own 3 (List.map zAA q)))] (ap ((by exact zAw (by simp only [List.length_map,zzLn,zAC]<;>omega)):(0+(List.map zAA q).length).ble (List.map zAA q).length=true) (ap ((zHo zEC):PV.own 3 (List.take (List.map zAA q).length (List.drop 0 (List.map zAA q)))=PV.own 3 (List.map zAA q)) an)) (PV.tup [PV.own 3 (List.map zAA q),I 0]) ([]) rfl rfl))))))))))))))
 ·have e:zTf bal=[]:=by simp only [zTf,h,if_false]
  rw [e]
  refine zAi Try.f48 ?_
  refine zAb (zAa (zAe 2 (zAc (zAb (zAb (zAa (zAe 1 (S_a [(6,.ret (I (zBG bal)) ([]))] (ap (h108) an) (zAe 1 (zAc (zAb (zAa (zAe 2 (zAc (zGz (zBG bal=0) (by omega) (zAb (zAa (zAe 3 (zAc (zAD (E_a [] an (PV.tup [PV.own 3 [],I (zBG bal)]) ([]) rfl rfl)))))))))))))))))))))
end
end Go.Eng
set_option maxRecDepth 10000
set_option maxHeartbeats 4000000
namespace Go.Eng
open Go Go.Proofs
section
variable [Yo]
theorem f66 (n:Int):FG 66 [I n] (.bool (!decide (n=0))):=by
 refine zAi Try.f66 ?_
 refine zAb (zAa (zAe 1 (zAc (zAb (zAa (zAe 3 (zAc (zAD (E_a [] an (PV.bool (n != 0)) ([]) rfl rfl)))))))))
theorem f118_66 (l:List Int) (hl:l.length<4294967296):FG 118 [zCb l,.func 66 [] []] (I (zGA (fun x => !decide (x=0)) l)):=by
 refine zAi Try.f118 ?_
 refine zAb (zAa (zAe 1 (zAc (zAb (zAb (zAa (zAe 1 (S_a [(0,.n (l.length))] (ap ((by simp):some (List.map I l).length=some l.length) an) (zAe 1 (zAc (zAm 0 ?_)))))))))))
 refine zBc (fun i=>i≤l.length∧∀ j,j<i→(fun x => !decide (x=0)) (l.getD j 0)=false) (fun i=>[(8,I (i:Nat))]) (fun i=>l.length-i) (0:Nat) (by simp) fun i ⟨hi,ha⟩=>?_
 refine zAb (zAa (zAe 1 (zAc (zAb (zCC ((↑i:Int)<(↑l.length:Int)) (fun k0=>(zAn (zAb (zAm 1 (zAb (zAa (zAe 2 (zAc (zAb (zAa (zAe 3 (S_a [(2,.v (I (l.getD i 0)))] (ap (zBd (0) (by omega):(List.map I l)[i]? = some (I (l.getD i 0))) an) (zAe 1 (S_a [(6,.ret (PV.bool !decide (l.getD i 0=0)) ([]))] (ap (f66 (l.getD i 0)) an) (zAc (zGd (l.getD i 0=0) (fun k1=>(zAb (zAa (zAe 2 (zAc (zAD (E_a [] an (I (↑i:Int)) ([]) ?_ rfl))))))) (fun k1=>(zAn (zAa (S_a [(1,.v (I (↑(i+1):Int)))] (ap ((zAH (by omega) (by omega)):I (IntKind.i64.wrap ((↑i:Int)+1))=I (↑(i+1):Int)) an) (zAe 1 (zAc ?_)))))))))))))))))))))) (fun k0=>(zBA 0 (zAb (zAa (zAe 1 (zAc (zAD (E_a [] an (I (-1)) ([]) ?_ rfl)))))))))))))
 ·rw [zCV (i:=i) (by omega) (fun j hj=>by rw [← zAE (d:=0)];exact ha j hj) (by rw [← zAE (d:=0)];first | assumption | (simp only [Bool.not_eq_true',decide_eq_false_iff_not];assumption))]
 ·refine ⟨i+1,⟨by omega,fun j hj=>?_⟩,by omega,by kernel_rfl,by kernel_rfl⟩
  rcases Nat.lt_succ_iff_lt_or_eq.1 hj with h | rfl
  ·exact ha j h
  ·first | assumption | (simp only [Bool.not_eq_false',decide_eq_true_eq];first | assumption | (apply Decidable.of_not_not;assumption))
 ·rw [zDA fun j hj=>by rw [← zAE (d:=0)];exact ha j (by omega)]
theorem f65_66 (l:List Int) (hl:l.length<4294967296):FG 65 [zCb l,.func 66 [] []] (.bool (l.any fun x => !decide (x=0))):=by
 have h:=f118_66 l hl
 refine zAi Try.f65 ?_
 refine zAb (zAa (zAe 1 (zAc (zAb (zAa (zAe 2 (S_a [(6,.ret (I (zGA (fun x => !decide (x=0)) l)) ([]))] (ap (h) an) (zAe 2 (zAc (zAD (E_a [] an (PV.bool (decide (zGA (fun x => !decide (x=0)) l≥0))) ([]) ?_ rfl)))))))))))
 rw [zFn]
theorem f68 (l:List Pay) (hl:l.length<4294967296):FG 68 [.sl (l.map zAA)] (.own 3 (l.map zAA)):=zIG (fn:=Try.f68) zAA l (by omega)
abbrev zJm:PV := .agg [I 0,I 0,I 0]
theorem f67_10 (p0:Pay):zA2 Try.prog zAq 67 [.bor 50000000 [] 3 0 1,I 0,I 1] [.own 3 [zAA p0]] (.sl []) [.sl [zJm]]:=by
 refine zAi Try.f67 ?_
 refine zAb (zAa (zAe 1 (zAc (zAb (zAa (zAe 6 (zAc (zAb (zAb (zAa (zAe 3 (zAc (zAY (zAn (zAb (zAa (zAe 3 (zAc (zAb (zAa (zAe 2 (zAe 1 (zAe 3 (zAe 1 (zAe 1 (zAc (zAb (zAa (zAe 4 (zAe 1 (zAe 1 (zAc (zAb (zAa (zAe 2 (zAc (zAD (E_a [] an (PV.sl []) ([PV.sl [PV.agg [I 0,I 0,I 0]]]) rfl rfl))))))))))))))))))))))))))))))))))))))
theorem f67_20 (p0 p1:Pay):zA2 Try.prog zAq 67 [.bor 50000000 [] 3 0 2,I 0,I 1] [.own 3 [zAA p0,zAA p1]] (.sl [zAA p1]) [.sl [zAA p1,zJm]]:=by
 refine zAi Try.f67 ?_
 refine zAb (zAa (zAe 1 (zAc (zAb (zAa (zAe 6 (zAc (zAb (zAb (zAa (zAe 3 (zAc (zAY (zAn (zAb (zAa (zAe 3 (zAc (zAb (zAa (zAe 2 (zAe 1 (zAe 2 (zAe 1 (zAe 1 (zAe 1 (zAc (zAb (zAa (zAe 4 (zAe 1 (zAe 1 (zAc (zAb (zAa (zAe 2 (zAc (zAD (E_a [] an (PV.sl [PV.agg [I p1.src,I p1.dst,I p1.coins]]) ([PV.sl [PV.agg [I p1.src,I p1.dst,I p1.coins],PV.agg [I 0,I 0,I 0]]]) rfl rfl)))))))))))))))))))))))))))))))))))))))
theorem f67_21 (p0 p1:Pay):zA2 Try.prog zAq 67 [.bor 50000000 [] 3 0 2,I 1,I 2] [.own 3 [zAA p0,zAA p1]] (.sl [zAA p0]) [.sl [zAA p0,zJm]]:=by
 refine zAi Try.f67 ?_
 refine zAb (zAa (zAe 1 (zAc (zAb (zAa (zAe 6 (zAc (zAb (zAb (zAa (zAe 3 (zAc (zAY (zAn (zAb (zAa (zAe 3 (zAc (zAb (zAa (zAe 2 (zAe 1 (zAe 3 (zAe 1 (zAe 1 (zAc (zAb (zAa (zAe 4 (zAe 1 (zAe 1 (zAc (zAb (zAa (zAe 2 (zAc (zAD (E_a [] an (PV.sl [PV.agg [I p0.src,I p0.dst,I p0.coins]]) ([PV.sl [PV.agg [I p0.src,I p0.dst,I p0.coins],PV.agg [I 0,I 0,I 0]]]) rfl rfl))))))))))))))))))))))))))))))))))))))
theorem f67_30 (p0 p1 p2:Pay):zA2 Try.prog zAq 67 [.bor 50000000 [] 3 0 3,I 0,I 1] [.own 3 [zAA p0,zAA p1,zAA p2]] (.sl [zAA p1,zAA p2]) [.sl [zAA p1,zAA p2,zJm]]:=by
 refine zAi Try.f67 ?_
 refine zAb (zAa (zAe 1 (zAc (zAb (zAa (zAe 6 (zAc (zAb (zAb (zAa (zAe 3 (zAc (zAY (zAn (zAb (zAa (zAe 3 (zAc (zAb (zAa (zAe 2 (zAe 1 (zAe 2 (zAe 1 (zAe 1 (zAe 1 (zAc (zAb (zAa (zAe 4 (zAe 1 (zAe 1 (zAc (zAb (zAa (zAe 2 (zAc (zAD (E_a [] an (PV.sl [PV.agg [I p1.src,I p1.dst,I p1.coins],PV.agg [I p2.src,I p2.dst,I p2.coins]]) ([PV.sl [PV.agg [I p1.src,I p1.dst,I p1.coins],PV.agg [I p2.src,I p2.dst,I p2.coins],PV.agg [I 0,I 0,I 0]]]) rfl rfl)))))))))))))))))))))))))))))))))))))))
theorem f67_31 (p0 p1 p2:Pay):zA2 Try.prog zAq 67 [.bor 50000000 [] 3 0 3,I 1,I 2] [.own 3 [zAA p0,zAA p1,zAA p2]] (.sl [zAA p0,zAA p2]) [.sl [zAA p0,zAA p2,zJm]]:=by
 refine zAi Try.f67 ?_
 refine zAb (zAa (zAe 1 (zAc (zAb (zAa (zAe 6 (zAc (zAb (zAb (zAa (zAe 3 (zAc (zAY (zAn (zAb (zAa (zAe 3 (zAc (zAb (zAa (zAe 2 (zAe 1 (zAe 2 (zAe 1 (zAe 1 (zAe 1 (zAc (zAb (zAa (zAe 4 (zAe 1 (zAe 1 (zAc (zAb (zAa (zAe 2 (zAc (zAD (E_a [] an (PV.sl [PV.agg [I p0.src,I p0.dst,I p0.coins],PV.agg [I p2.src,I p2.dst,I p2.coins]]) ([PV.sl [PV.agg [I p0.src,I p0.dst,I p0.coins],PV.agg [I p2.src,I p2.dst,I p2.coins],PV.agg [I 0,I 0,I 0]]]) rfl rfl)))))))))))))))))))))))))))))))))))))))
theorem f67_32 (p0 p1 p2:Pay):zA2 Try.prog zAq 67 [.bor 50000000 [] 3 0 3,I 2,I 3] [.own 3 [zAA p0,zAA p1,zAA p2]] (.sl [zAA p0,zAA p1]) [.sl [zAA p0,zAA p1,zJm]]:=by
 refine zAi Try.f67 ?_
 refine zAb (zAa (zAe 1 (zAc (zAb (zAa (zAe 6 (zAc (zAb (zAb (zAa (zAe 3 (zAc (zAY (zAn (zAb (zAa (zAe 3 (zAc (zAb (zAa (zAe 2 (zAe 1 (zAe 3 (zAe 1 (zAe 1 (zAc (zAb (zAa (zAe 4 (zAe 1 (zAe 1 (zAc (zAb (zAa (zAe 2 (zAc (zAD (E_a [] an (PV.sl [PV.agg [I p0.src,I p0.dst,I p0.coins],PV.agg [I p1.src,I p1.dst,I p1.coins]]) ([PV.sl [PV.agg [I p0.src,I p0.dst,I p0.coins],PV.agg [I p1.src,I p1.dst,I p1.coins],PV.agg [I 0,I 0,I 0]]]) rfl rfl))))))))))))))))))))))))))))))))))))))
theorem f67_40 (p0 p1 p2 p3:Pay):zA2 Try.prog zAq 67 [.bor 50000000 [] 3 0 4,I 0,I 1] [.own 3 [zAA p0,zAA p1,zAA p2,zAA p3]] (.sl [zAA p1,zAA p2,zAA p3]) [.sl [zAA p1,zAA p2,zAA p3,zJm]]:=by
 refine zAi Try.f67 ?_
 refine zAb (zAa (zAe 1 (zAc (zAb (zAa (zAe 6 (zAc (zAb (zAb (zAa (zAe 3 (zAc (zAY (zAn (zAb (zAa (zAe 3 (zAc (zAb (zAa (zAe 2 (zAe 1 (zAe 2 (zAe 1 (zAe 1 (zAe 1 (zAc (zAb (zAa (zAe 4 (zAe 1 (zAe 1 (zAc (zAb (zAa (zAe 2 (zAc (zAD (E_a [] an (PV.sl [PV.agg [I p1.src,I p1.dst,I p1.coins],PV.agg [I p2.src,I p2.dst,I p2.coins],PV.agg [I p3.src,I p3.dst,I p3.coins]]) ([PV.sl [PV.agg [I p1.src,I p1.dst,I p1.coins],PV.agg [I p2.src,I p2.dst,I p2.coins],PV.agg [I p3.src,I p3.dst,I p3.coins],PV.agg [I 0,I 0,I 0]]]) rfl rfl)))))))))))))))))))))))))))))))))))))))
theorem f67_41 (p0 p1 p2 p3:Pay):zA2 Try.prog zAq 67 [.bor 50000000 [] 3 0 4,I 1,I 2] [.own 3 [zAA p0,zAA p1,zAA p2,zAA p3]] (.sl [zAA p0,zAA p2,zAA p3]) [.sl [zAA p0,zAA p2,zAA p3,zJm]]:=by
 refine zAi Try.f67 ?_
 refine zAb (zAa (zAe 1 (zAc (zAb (zAa (zAe 6 (zAc (zAb (zAb (zAa (zAe 3 (zAc (zAY (zAn (zAb (zAa (zAe 3 (zAc (zAb (zAa (zAe 2 (zAe 1 (zAe 2 (zAe 1 (zAe 1 (zAe 1 (zAc (zAb (zAa (zAe 4 (zAe 1 (zAe 1 (zAc (zAb (zAa (zAe 2 (zAc (zAD (E_a [] an (PV.sl [PV.agg [I p0.src,I p0.dst,I p0.coins],PV.agg [I p2.src,I p2.dst,I p2.coins],PV.agg [I p3.src,I p3.dst,I p3.coins]]) ([PV.sl [PV.agg [I p0.src,I p0.dst,I p0.coins],PV.agg [I p2.src,I p2.dst,I p2.coins],PV.agg [I p3.src,I p3.dst,I p3.coins],PV.agg [I 0,I 0,I 0]]]) rfl rfl)))))))))))))))))))))))))))))))))))))))
theorem f67_42 (p0 p1 p2 p3:Pay):zA2 Try.prog zAq 67 [.bor 50000000 [] 3 0 4,I 2,I 3] [.own 3 [zAA p0,zAA p1,zAA p2,zAA p3]] (.sl [zAA p0,zAA p1,zAA p3]) [.sl [zAA p0,zAA p1,zAA p3,zJm]]:=by
 refine zAi Try.f67 ?_
 refine zAb (zAa (zAe 1 (zAc (zAb (zAa (zAe 6 (zAc (zAb (zAb (zAa (zAe 3 (zAc (zAY (zAn (zAb (zAa (zAe 3 (zAc (zAb (zAa (zAe 2 (zAe 1 (zAe 2 (zAe 1 (zAe 1 (zAe 1 (zAc (zAb (zAa (zAe 4 (zAe 1 (zAe 1 (zAc (zAb (zAa (zAe 2 (zAc (zAD (E_a [] an (PV.sl [PV.agg [I p0.src,I p0.dst,I p0.coins],PV.agg [I p1.src,I p1.dst,I p1.coins],PV.agg [I p3.src,I p3.dst,I p3.coins]]) ([PV.sl [PV.agg [I p0.src,I p0.dst,I p0.coins],PV.agg [I p1.src,I p1.dst,I p1.coins],PV.agg [I p3.src,I p3.dst,I p3.coins],PV.agg [I 0,I 0,I 0]]]) rfl rfl)))))))))))))))))))))))))))))))))))))))
theorem f67_43 (p0 p1 p2 p3:Pay):zA2 Try.prog zAq 67 [.bor 50000000 [] 3 0 4,I 3,I 4] [.own 3 [zAA p0,zAA p1,zAA p2,zAA p3]] (.sl [zAA p0,zAA p1,zAA p2]) [.sl [zAA p0,zAA p1,zAA p2,zJm]]:=by
 refine zAi Try.f67 ?_
 refine zAb (zAa (zAe 1 (zAc (zAb (zAa (zAe 6 (zAc (zAb (zAb (zAa (zAe 3 (zAc (zAY (zAn (zAb (zAa (zAe 3 (zAc (zAb (zAa (zAe 2 (zAe 1 (zAe 3 (zAe 1 (zAe 1 (zAc (zAb (zAa (zAe 4 (zAe 1 (zAe 1 (zAc (zAb (zAa (zAe 2 (zAc (zAD (E_a [] an (PV.sl [PV.agg [I p0.src,I p0.dst,I p0.coins],PV.agg [I p1.src,I p1.dst,I p1.coins],PV.agg [I p2.src,I p2.dst,I p2.coins]]) ([PV.sl [PV.agg [I p0.src,I p0.dst,I p0.coins],PV.agg [I p1.src,I p1.dst,I p1.coins],PV.agg [I p2.src,I p2.dst,I p2.coins],PV.agg [I 0,I 0,I 0]]]) rfl rfl))))))))))))))))))))))))))))))))))))))
theorem f67_50 (p0 p1 p2 p3 p4:Pay):zA2 Try.prog zAq 67 [.bor 50000000 [] 3 0 5,I 0,I 1] [.own 3 [zAA p0,zAA p1,zAA p2,zAA p3,zAA p4]] (.sl [zAA p1,zAA p2,zAA p3,zAA p4]) [.sl [zAA p1,zAA p2,zAA p3,zAA p4,zJm]]:=by
 refine zAi Try.f67 ?_
 refine zAb (zAa (zAe 1 (zAc (zAb (zAa (zAe 6 (zAc (zAb (zAb (zAa (zAe 3 (zAc (zAY (zAn (zAb (zAa (zAe 3 (zAc (zAb (zAa (zAe 2 (zAe 1 (zAe 2 (zAe 1 (zAe 1 (zAe 1 (zAc (zAb (zAa (zAe 4 (zAe 1 (zAe 1 (zAc (zAb (zAa (zAe 2 (zAc (zAD (E_a [] an (PV.sl [PV.agg [I p1.src,I p1.dst,I p1.coins],PV.agg [I p2.src,I p2.dst,I p2.coins],PV.agg [I p3.src,I p3.dst,I p3.coins],PV.agg [I p4.src,I p4.dst,I p4.coins]]) ([PV.sl [PV.agg [I p1.src,I p1.dst,I p1.coins],PV.agg [I p2.src,I p2.dst,I p2.coins],PV.agg [I p3.src,I p3.dst,I p3.coins],PV.agg [I p4.src,I p4.dst,I p4.coins],PV.agg [I 0,I 0,I 0]]]) rfl rfl)))))))))))))))))))))))))))))))))))))))
theorem f67_51 (p0 p1 p2 p3 p4:Pay):zA2 Try.prog zAq 67 [.bor 50000000 [] 3 0 5,I 1,I 2] [.own 3 [zAA p0,zAA p1,zAA p2,zAA p3,zAA p4]] (.sl [zAA p0,zAA p2,zAA p3,zAA p4]) [.sl [zAA p0,zAA p2,zAA p3,zAA p4,zJm]]:=by
 refine zAi Try.f67 ?_
 refine zAb (zAa (zAe 1 (zAc (zAb (zAa (zAe 6 (zAc (zAb (zAb (zAa (zAe 3 (zAc (zAY (zAn (zAb (zAa (zAe 3 (zAc (zAb (zAa (zAe 2 (zAe 1 (zAe 2 (zAe 1 (zAe 1 (zAe 1 (zAc (zAb (zAa (zAe 4 (zAe 1 (zAe 1 (zAc (zAb (zAa (zAe 2 (zAc (zAD (E_a [] an (PV.sl [PV.agg [I p0.src,I p0.dst,I p0.coins],PV.agg [I p2.src,I p2.dst,I p2.coins],PV.agg [I p3.src,I p3.dst,I p3.coins],PV.agg [I p4.src,I p4.dst,I p4.coins]]) ([PV.sl [PV.agg [I p0.src,I p0.dst,I p0.coins],PV.agg [I p2.src,I p2.dst,I p2.coins],PV.agg [I p3.src,I p3.dst,I p3.coins],PV.agg [I p4.src,I p4.dst,I p4.coins],PV.agg [I 0,I 0,I 0]]]) rfl rfl)))))))))))))))))))))))))))))))))))))))
theorem f67_52 (p0 p1 p2 p3 p4:Pay):zA2 Try.prog zAq 67 [.bor 50000000 [] 3 0 5,I 2,I 3] [.own 3 [zAA p0,zAA p1,zAA p2,zAA p3,zAA p4]] (.sl [zAA p0,zAA p1,zAA p3,zAA p4]) [.sl [zAA p0,zAA p1,zAA p3,zAA p4,zJm]]:=by
 refine zAi Try.f67 ?_
 refine zAb (zAa (zAe 1 (zAc (zAb (zAa (zAe 6 (zAc (zAb (zAb (zAa (zAe 3 (zAc (zAY (zAn (zAb (zAa (zAe 3 (zAc (zAb (zAa (zAe 2 (zAe 1 (zAe 2 (zAe 1 (zAe 1 (zAe 1 (zAc (zAb (zAa (zAe 4 (zAe 1 (zAe 1 (zAc (zAb (zAa (zAe 2 (zAc (zAD (E_a [] an (PV.sl [PV.agg [I p0.src,I p0.dst,I p0.coins],PV.agg [I p1.src,I p1.dst,I p1.coins],PV.agg [I p3.src,I p3.dst,I p3.coins],PV.agg [I p4.src,I p4.dst,I p4.coins]]) ([PV.sl [PV.agg [I p0.src,I p0.dst,I p0.coins],PV.agg [I p1.src,I p1.dst,I p1.coins],PV.agg [I p3.src,I p3.dst,I p3.coins],PV.agg [I p4.src,I p4.dst,I p4.coins],PV.agg [I 0,I 0,I 0]]]) rfl rfl)))))))))))))))))))))))))))))))))))))))
theorem f67_53 (p0 p1 p2 p3 p4:Pay):zA2 Try.prog zAq 67 [.bor 50000000 [] 3 0 5,I 3,I 4] [.own 3 [zAA p0,zAA p1,zAA p2,zAA p3,zAA p4]] (.sl [zAA p0,zAA p1,zAA p2,zAA p4]) [.sl [zAA p0,zAA p1,zAA p2,zAA p4,zJm]]:=by
 refine zAi Try.f67 ?_
 refine zAb (zAa (zAe 1 (zAc (zAb (zAa (zAe 6 (zAc (zAb (zAb (zAa (zAe 3 (zAc (zAY (zAn (zAb (zAa (zAe 3 (zAc (zAb (zAa (zAe 2 (zAe 1 (zAe 2 (zAe 1 (zAe 1 (zAe 1 (zAc (zAb (zAa (zAe 4 (zAe 1 (zAe 1 (zAc (zAb (zAa (zAe 2 (zAc (zAD (E_a [] an (PV.sl [PV.agg [I p0.src,I p0.dst,I p0.coins],PV.agg [I p1.src,I p1.dst,I p1.coins],PV.agg [I p2.src,I p2.dst,I p2.coins],PV.agg [I p4.src,I p4.dst,I p4.coins]]) ([PV.sl [PV.agg [I p0.src,I p0.dst,I p0.coins],PV.agg [I p1.src,I p1.dst,I p1.coins],PV.agg [I p2.src,I p2.dst,I p2.coins],PV.agg [I p4.src,I p4.dst,I p4.coins],PV.agg [I 0,I 0,I 0]]]) rfl rfl)))))))))))))))))))))))))))))))))))))))
theorem f67_54 (p0 p1 p2 p3 p4:Pay):zA2 Try.prog zAq 67 [.bor 50000000 [] 3 0 5,I 4,I 5] [.own 3 [zAA p0,zAA p1,zAA p2,zAA p3,zAA p4]] (.sl [zAA p0,zAA p1,zAA p2,zAA p3]) [.sl [zAA p0,zAA p1,zAA p2,zAA p3,zJm]]:=by
 refine zAi Try.f67 ?_
 refine zAb (zAa (zAe 1 (zAc (zAb (zAa (zAe 6 (zAc (zAb (zAb (zAa (zAe 3 (zAc (zAY (zAn (zAb (zAa (zAe 3 (zAc (zAb (zAa (zAe 2 (zAe 1 (zAe 3 (zAe 1 (zAe 1 (zAc (zAb (zAa (zAe 4 (zAe 1 (zAe 1 (zAc (zAb (zAa (zAe 2 (zAc (zAD (E_a [] an (PV.sl [PV.agg [I p0.src,I p0.dst,I p0.coins],PV.agg [I p1.src,I p1.dst,I p1.coins],PV.agg [I p2.src,I p2.dst,I p2.coins],PV.agg [I p3.src,I p3.dst,I p3.coins]]) ([PV.sl [PV.agg [I p0.src,I p0.dst,I p0.coins],PV.agg [I p1.src,I p1.dst,I p1.coins],PV.agg [I p2.src,I p2.dst,I p2.coins],PV.agg [I p3.src,I p3.dst,I p3.coins],PV.agg [I 0,I 0,I 0]]]) rfl rfl))))))))))))))))))))))))))))))))))))))
theorem f67_60 (p0 p1 p2 p3 p4 p5:Pay):zA2 Try.prog zAq 67 [.bor 50000000 [] 3 0 6,I 0,I 1] [.own 3 [zAA p0,zAA p1,zAA p2,zAA p3,zAA p4,zAA p5]] (.sl [zAA p1,zAA p2,zAA p3,zAA p4,zAA p5]) [.sl [zAA p1,zAA p2,zAA p3,zAA p4,zAA p5,zJm]]:=by
 refine zAi Try.f67 ?_
 refine zAb (zAa (zAe 1 (zAc (zAb (zAa (zAe 6 (zAc (zAb (zAb (zAa (zAe 3 (zAc (zAY (zAn (zAb (zAa (zAe 3 (zAc (zAb (zAa (zAe 2 (zAe 1 (zAe 2 (zAe 1 (zAe 1 (zAe 1 (zAc (zAb (zAa (zAe 4 (zAe 1 (zAe 1 (zAc (zAb (zAa (zAe 2 (zAc (zAD (E_a [] an (PV.sl [PV.agg [I p1.src,I p1.dst,I p1.coins],PV.agg [I p2.src,I p2.dst,I p2.coins],PV.agg [I p3.src,I p3.dst,I p3.coins],PV.agg [I p4.src,I p4.dst,I p4.coins],PV.agg [I p5.src,I p5.dst,I p5.coins]]) ([PV.sl [PV.agg [I p1.src,I p1.dst,I p1.coins],PV.agg [I p2.src,I p2.dst,I p2.coins],PV.agg [I p3.src,I p3.dst,I p3.coins],PV.agg [I p4.src,I p4.dst,I p4.coins],PV.agg [I p5.src,I p5.dst,I p5.coins],PV.agg [I 0,I 0,I 0]]]) rfl rfl)))))))))))))))))))))))))))))))))))))))
theorem f67_61 (p0 p1 p2 p3 p4 p5:Pay):zA2 Try.prog zAq 67 [.bor 50000000 [] 3 0 6,I 1,I 2] [.own 3 [zAA p0,zAA p1,zAA p2,zAA p3,zAA p4,zAA p5]] (.sl [zAA p0,zAA p2,zAA p3,zAA p4,zAA p5]) [.sl [zAA p0,zAA p2,zAA p3,zAA p4,zAA p5,zJm]]:=by
 refine zAi Try.f67 ?_
 refine zAb (zAa (zAe 1 (zAc (zAb (zAa (zAe 6 (zAc (zAb (zAb (zAa (zAe 3 (zAc (zAY (zAn (zAb (zAa (zAe 3 (zAc (zAb (zAa (zAe 2 (zAe 1 (zAe 2 (zAe 1 (zAe 1 (zAe 1 (zAc (zAb (zAa (zAe 4 (zAe 1 (zAe 1 (zAc (zAb (zAa (zAe 2 (zAc (zAD (E_a [] an (PV.sl [PV.agg [I p0.src,I p0.dst,I p0.coins],PV.agg [I p2.src,I p2.dst,I p2.coins],PV.agg [I p3.src,I p3.dst,I p3.coins],PV.agg [I p4.src,I p4.dst,I p4.coins],PV.agg [I p5.src,I p5.dst,I p5.coins]]) ([PV.sl [PV.agg [I p0.src,I p0.dst,I p0.coins],PV.agg [I p2.src,I p2.dst,I p2.coins],PV.agg [I p3.src,I p3.dst,I p3.coins],PV.agg [I p4.src,I p4.dst,I p4.coins],PV.agg [I p5.src,I p5.dst,I p5.coins],PV.agg [I 0,I 0,I 0]]]) rfl rfl)))))))))))))))))))))))))))))))))))))))
theorem f67_62 (p0 p1 p2 p3 p4 p5:Pay):zA2 Try.prog zAq 67 [.bor 50000000 [] 3 0 6,I 2,I 3] [.own 3 [zAA p0,zAA p1,zAA p2,zAA p3,zAA p4,zAA p5]] (.sl [zAA p0,zAA p1,zAA p3,zAA p4,zAA p5]) [.sl [zAA p0,zAA p1,zAA p3,zAA p4,zAA p5,zJm]]:=by
 refine zAi Try.f67 ?_
 refine zAb (zAa (zAe 1 (zAc (zAb (zAa (zAe 6 (zAc (zAb (zAb (zAa (zAe 3 (zAc (zAY (zAn (zAb (zAa (zAe 3 (zAc (zAb (zAa (zAe 2 (zAe 1 (zAe 2 (zAe 1 (zAe 1 (zAe 1 (zAc (zAb (zAa (zAe 4 (zAe 1 (zAe 1 (zAc (zAb (zAa (zAe 2 (zAc (zAD (E_a [] an (PV.sl [PV.agg [I p0.src,I p0.dst,I p0.coins],PV.agg [I p1.src,I p1.dst,I p1.coins],PV.agg [I p3.src,I p3.dst,I p3.coins],PV.agg [I p4.src,I p4.dst,I p4.coins],PV.agg [I p5.src,I p5.dst,I p5.coins]]) ([PV.sl [PV.agg [I p0.src,I p0.dst,I p0.coins],PV.agg [I p1.src,I p1.dst,I p1.coins],PV.agg [I p3.src,I p3.dst,I p3.coins],PV.agg [I p4.src,I p4.dst,I p4.coins],PV.agg [I p5.src,I p5.dst,I p5.coins],PV.agg [I 0,I 0,I 0]]]) rfl rfl)))))))))))))))))))))))))))))))))))))))
theorem f67_63 (p0 p1 p2 p3 p4 p5:Pay):zA2 Try.prog zAq 67 [.bor 50000000 [] 3 0 6,I 3,I 4] [.own 3 [zAA p0,zAA p1,zAA p2,zAA p3,zAA p4,zAA p5]] (.sl [zAA p0,zAA p1,zAA p2,zAA p4,zAA p5]) [.sl [zAA p0,zAA p1,zAA p2,zAA p4,zAA p5,zJm]]:=by
 refine zAi Try.f67 ?_
 refine zAb (zAa (zAe 1 (zAc (zAb (zAa (zAe 6 (zAc (zAb (zAb (zAa (zAe 3 (zAc (zAY (zAn (zAb (zAa (zAe 3 (zAc (zAb (zAa (zAe 2 (zAe 1 (zAe 2 (zAe 1 (zAe 1 (zAe 1 (zAc (zAb (zAa (zAe 4 (zAe 1 (zAe 1 (zAc (zAb (zAa (zAe 2 (zAc (zAD (E_a [] an (PV.sl [PV.agg [I p0.src,I p0.dst,I p0.coins],PV.agg [I p1.src,I p1.dst,I p1.coins],PV.agg [I p2.src,I p2.dst,I p2.coins],PV.agg [I p4.src,I p4.dst,I p4.coins],PV.agg [I p5.src,I p5.dst,I p5.coins]]) ([PV.sl [PV.agg [I p0.src,I p0.dst,I p0.coins],PV.agg [I p1.src,I p1.dst,I p1.coins],PV.agg [I p2.src,I p2.dst,I p2.coins],PV.agg [I p4.src,I p4.dst,I p4.coins],PV.agg [I p5.src,I p5.dst,I p5.coins],PV.agg [I 0,I 0,I 0]]]) rfl rfl)))))))))))))))))))))))))))))))))))))))
theorem f67_64 (p0 p1 p2 p3 p4 p5:Pay):zA2 Try.prog zAq 67 [.bor 50000000 [] 3 0 6,I 4,I 5] [.own 3 [zAA p0,zAA p1,zAA p2,zAA p3,zAA p4,zAA p5]] (.sl [zAA p0,zAA p1,zAA p2,zAA p3,zAA p5]) [.sl [zAA p0,zAA p1,zAA p2,zAA p3,zAA p5,zJm]]:=by
 refine zAi Try.f67 ?_
 refine zAb (zAa (zAe 1 (zAc (zAb (zAa (zAe 6 (zAc (zAb (zAb (zAa (zAe 3 (zAc (zAY (zAn (zAb (zAa (zAe 3 (zAc (zAb (zAa (zAe 2 (zAe 1 (zAe 2 (zAe 1 (zAe 1 (zAe 1 (zAc (zAb (zAa (zAe 4 (zAe 1 (zAe 1 (zAc (zAb (zAa (zAe 2 (zAc (zAD (E_a [] an (PV.sl [PV.agg [I p0.src,I p0.dst,I p0.coins],PV.agg [I p1.src,I p1.dst,I p1.coins],PV.agg [I p2.src,I p2.dst,I p2.coins],PV.agg [I p3.src,I p3.dst,I p3.coins],PV.agg [I p5.src,I p5.dst,I p5.coins]]) ([PV.sl [PV.agg [I p0.src,I p0.dst,I p0.coins],PV.agg [I p1.src,I p1.dst,I p1.coins],PV.agg [I p2.src,I p2.dst,I p2.coins],PV.agg [I p3.src,I p3.dst,I p3.coins],PV.agg [I p5.src,I p5.dst,I p5.coins],PV.agg [I 0,I 0,I 0]]]) rfl rfl)))))))))))))))))))))))))))))))))))))))
theorem f67_65 (p0 p1 p2 p3 p4 p5:Pay):zA2 Try.prog zAq 67 [.bor 50000000 [] 3 0 6,I 5,I 6] [.own 3 [zAA p0,zAA p1,zAA p2,zAA p3,zAA p4,zAA p5]] (.sl [zAA p0,zAA p1,zAA p2,zAA p3,zAA p4]) [.sl [zAA p0,zAA p1,zAA p2,zAA p3,zAA p4,zJm]]:=by
 refine zAi Try.f67 ?_
 refine zAb (zAa (zAe 1 (zAc (zAb (zAa (zAe 6 (zAc (zAb (zAb (zAa (zAe 3 (zAc (zAY (zAn (zAb (zAa (zAe 3 (zAc (zAb (zAa (zAe 2 (zAe 1 (zAe 3 (zAe 1 (zAe 1 (zAc (zAb (zAa (zAe 4 (zAe 1 (zAe 1 (zAc (zAb (zAa (zAe 2 (zAc (zAD (E_a [] an (PV.sl [PV.agg [I p0.src,I p0.dst,I p0.coins],PV.agg [I p1.src,I p1.dst,I p1.coins],PV.agg [I p2.src,I p2.dst,I p2.coins],PV.agg [I p3.src,I p3.dst,I p3.coins],PV.agg [I p4.src,I p4.dst,I p4.coins]]) ([PV.sl [PV.agg [I p0.src,I p0.dst,I p0.coins],PV.agg [I p1.src,I p1.dst,I p1.coins],PV.agg [I p2.src,I p2.dst,I p2.coins],PV.agg [I p3.src,I p3.dst,I p3.coins],PV.agg [I p4.src,I p4.dst,I p4.coins],PV.agg [I 0,I 0,I 0]]]) rfl rfl))))))))))))))))))))))))))))))))))))))
end
end Go.Eng
set_option maxRecDepth 10000
set_option maxHeartbeats 4000000
namespace Go.Eng
open Go Go.Proofs
def zVO (bal:List Int):Nat:=(bal.filter fun x=>decide (x≠0)).length
theorem zQS {bal:List Int} {j:Nat} (h:j<bal.length):zVO (bal.take (j+1))=zVO (bal.take j)+if bal.getD j 0=0 then 0 else 1:=zIa h
structure BalP (p:List Int) (s:Int):Prop where
 len:p.length≤6
 rng:∀ x∈p,-100≤x∧x≤100
 sb : -100≤s∧s≤100
 sum:s=p.sum
theorem zTV {p:List Int} {s:Int} (h:BalP p s):BalOk (p++[0-s])∧zBG (p++[0-s])=0:=by
 have hl:=h.len
 have hr:∀ x∈p++[0-s],-100000≤x∧x≤100000:=fun x hx=>by
  rcases List.mem_append.1 hx with hx | hx
  ·have:=h.rng x hx;omega
  ·rw [List.mem_singleton] at hx;have:=h.sb;omega
 have hs:(p++[0-s]).sum=0:=by rw [List.sum_append,← h.sum];simp;omega
 have hl8:(p++[0-s]).length≤8:=by rw [List.length_append,List.length_singleton];omega
 have j0:(!(p++[0-s]).all (fun x=>decide (-100000≤x)&&decide (x≤100000)))=false:=by
  rw [Bool.not_eq_false',List.all_eq_true]
  intro x hx;have:=hr x hx;simp;omega
 exact ⟨⟨hl8,hr,hs⟩,by simp only [zBG,if_neg (show ¬ ((p++[0-s]).length:Int)>8 by omega),j0,hs,if_true];rfl⟩
theorem zSA {bal:List Int} {Q:List Pay} {i:Nat} (h:zBG bal=0) (yD:∀ p∈Q,zGF bal.length p) (hn:∀ w,w<bal.length→zM0 bal Q w=0) (hi:i<Q.length):zFz bal (Q.eraseIdx i)=false:=by
 have hp:=yD (Q.getD i default) (by rw [zAE hi];exact List.getElem_mem _)
 have h1:=hp.1
 have h2:=hp.2.1
 have h3:=hp.2.2.1
 have h4:=hp.2.2.2
 have hw:(Q.getD i default).src.toNat<bal.length:=by omega
 have hz:=hn _ hw
 unfold zM0 at hz
 have he:=zKa (who:=((Q.getD i default).src.toNat:Int)) hi
 have ht:zPe ((Q.getD i default).src.toNat:Int) (Q.getD i default)=(Q.getD i default).coins:=by
  unfold zPe
  rw [if_pos (by omega),if_neg (by omega)];omega
 have hf:(List.range bal.length).all (fun who=>decide (zM0 bal (Q.eraseIdx i) who=0))=false:=by
  rw [List.all_eq_false]
  have hI:¬ zM0 bal (Q.eraseIdx i) (Q.getD i default).src.toNat=0:=by
   unfold zM0
   rw [he,ht];omega
  exact ⟨_,List.mem_range.2 hw,by rw [decide_eq_true_eq];exact hI⟩
 simp only [zFz,h,if_true,zMB,hf,Bool.and_false]
theorem zP4 {bal:List Int} (h:zBG bal=0):zFz bal (zFa bal (zFb bal))=true:=by
 have hb:=zN4 h
 obtain ⟨hG,hz,hm⟩:=zI6 hb.sum
 simp only [zFz,h,if_true,zMB,Bool.and_eq_true,List.all_eq_true]
 exact ⟨fun p hp=>zK6.2 (zQD hb p hp),fun w hw=>by
  rw [List.mem_range] at hw
  exact decide_eq_true (zOg hG hz w hw)⟩
theorem zU6 {bal g:List Int} (h1:g≠[]) (h2:∀ x∈g,zBR bal x≠0) (h3:zCZ bal g=0):2≤g.length:=by
 rcases g with _ | ⟨x,_ | ⟨y,g⟩⟩
 ·exact absurd rfl h1
 ·have:=h2 x (by simp)
  simp [zCZ] at h3
  exact absurd h3 this
 ·simp
section
variable [Yo]
theorem f67g (l:List Pay) (i:Nat) (h:i<l.length) (hl:l.length≤6):zA2 Try.prog zAq 67 [.bor 50000000 [] 3 0 l.length,I (i:Nat),I ((i:Nat)+1:Int)] [.own 3 (l.map zAA)] (.sl ((l.eraseIdx i).map zAA)) [.sl ((l.eraseIdx i).map zAA++[zJm])]:=by
 rcases l with _ | ⟨p0,_ | ⟨p1,_ | ⟨p2,_ | ⟨p3,_ | ⟨p4,_ | ⟨p5,_ | ⟨p6,l⟩⟩⟩⟩⟩⟩⟩
 ·exact absurd h (Nat.not_lt_zero _)
 ·obtain rfl:i=0:=by simp at h;omega
  ·exact f67_10 p0
 ·obtain rfl | rfl:i=0∨i=1:=by simp at h;omega
  ·exact f67_20 p0 p1
  ·exact f67_21 p0 p1
 ·obtain rfl | rfl | rfl:i=0∨i=1∨i=2:=by simp at h;omega
  ·exact f67_30 p0 p1 p2
  ·exact f67_31 p0 p1 p2
  ·exact f67_32 p0 p1 p2
 ·obtain rfl | rfl | rfl | rfl:i=0∨i=1∨i=2∨i=3:=by simp at h;omega
  ·exact f67_40 p0 p1 p2 p3
  ·exact f67_41 p0 p1 p2 p3
  ·exact f67_42 p0 p1 p2 p3
  ·exact f67_43 p0 p1 p2 p3
 ·obtain rfl | rfl | rfl | rfl | rfl:i=0∨i=1∨i=2∨i=3∨i=4:=by simp at h;omega
  ·exact f67_50 p0 p1 p2 p3 p4
  ·exact f67_51 p0 p1 p2 p3 p4
  ·exact f67_52 p0 p1 p2 p3 p4
  ·exact f67_53 p0 p1 p2 p3 p4
  ·exact f67_54 p0 p1 p2 p3 p4
 ·obtain rfl | rfl | rfl | rfl | rfl | rfl:i=0∨i=1∨i=2∨i=3∨i=4∨i=5:=by simp at h;omega
  ·exact f67_60 p0 p1 p2 p3 p4 p5
  ·exact f67_61 p0 p1 p2 p3 p4 p5
  ·exact f67_62 p0 p1 p2 p3 p4 p5
  ·exact f67_63 p0 p1 p2 p3 p4 p5
  ·exact f67_64 p0 p1 p2 p3 p4 p5
  ·exact f67_65 p0 p1 p2 p3 p4 p5
 ·simp at hl
end
theorem f12 (nums:List Int) (which:Int) (hl:nums.length<9223372036854775808) (hw:0≤which∧which≤255):FG 12 [.sl (nums.map u8),.int .u8 which] (.bool true):=by
 refine zAi Try.f12 ?_
 have v9:zDH nums 0:=⟨Nat.zero_le _,hl⟩
 have hs0:=zBC nums 0 0 6
 have yT:=zB0 v9
 refine zAb (zAa (zAe 1 (zAc (zAb (zAa (zAe 1 (S_a [(6,.ret (zBY nums 0 0) ([]))] (ap (f22 (nums)) an) (zAe 1 (zAc (zAb (zAa (zAe 1 (zAc (zAb (zAa (zAe 1 (zAc (zAb (zAb (zAa (zAe 1 (S_a [(6,.ret (I (zAt nums 0 0 6)) ([zBY nums (zAk nums 0) (zAF nums 0 0)]))] (ap (f24 (nums) (0) (0) (6) (by omega) (by omega)) an) (zAe 1 (zAc (zAm 0 ?_)))))))))))))))))))))))))
 generalize hm:zAt nums 0 0 6=m at *
 refine zBc (fun (k,b,t,p,s)=>(k:Int)≤m∧zDH nums b∧p.length=k∧(∀ x∈p,-100≤x∧x≤100)∧(-(4*(k:Int))≤s∧s≤4*k)∧s=p.sum) (fun (k,b,t,p,s)=>[(5,zBY nums b t),(6,.own 1 (p.map I)),(7,I s),(33,I (k:Nat))]) (fun (k,_,_,_,_)=>m.toNat-k) ((0:Nat),zAk nums 0,zAF nums 0 0,([]:List Int),(0:Int)) ⟨by omega,yT,rfl,fun x hx=>(by cases hx),by omega,rfl⟩ fun (k,b,t,p,s) ⟨hk,hb,hp,hpb,vi,hs⟩=>?_
 by_cases hkm:(k:Int)<m
 ·have u5:=zBC nums b t 8
  have ql:=zB0 hb
  have uY:=zBC nums (zAk nums b) (zAF nums b t) (3-1)
  have wq:=zB0 ql
  refine zAb (zAa (zAe 1 (zAc (zAb (zBN ((↑k:Int)<m) (by omega) (zAn (zAb (zAm 1 (zAb (zAa (zAe 1 (S_a [(6,.ret (I (zAt nums b t 8)) ([zBY nums (zAk nums b) (zAF nums b t)]))] (ap (f24 (nums) (b) (t) (8) (by omega) (by omega)) an) (S_a [(1,.v (I (zAt nums b t 8-4)))] (ap ((zAH rfl (by omega)):I (IntKind.i64.wrap (zAt nums b t 8-4))=I (zAt nums b t 8-4)) an) (zAe 1 (zAc (zAb (zAb (zAa (zAe 1 (S_a [(6,.ret (PV.bool (decide (zAt nums (zAk nums b) (zAF nums b t) (3-1)=0))) ([zBY nums (zAk nums (zAk nums b)) (zAF nums (zAk nums b) (zAF nums b t))]))] (ap (f28 (nums) (zAk nums b) (zAF nums b t) (3) (by omega) (by omega)) an) (zAc (zCC (zAt nums (zAk nums b) (zAF nums b t) (3-1)=0) (fun k1=>(zAa (zAe 1 (S_a [(0,.v (I (0-s)))] (ap ((zAH rfl (by omega)):I (IntKind.i64.wrap (0-s))=I (0-s)) an) (zAe 1 (zAc (zAb (zAa (zAe 3 (S_a [(4,.ob),(0,.ob),(0,.yes),(2,.v (PV.own 1 (List.map I (p++[0-s]))))] (ap ((by exact zAw (by simp only [List.length_map,zzLn,zAC]<;>omega)):(0+(List.map I p).length).ble (List.map I p).length=true) (ap ((by exact zAw (by simp only [List.length_map,zzLn,zAC]<;>omega)):((List.map I p).length + [I (0-s)].length).ble zAC=true) (ap ((by exact zBF (by simp<;>omega)):(0+(List.map I p).length).beq (List.map I p).length=true) (ap ((by simp):PV.own 1 (List.map I p++[I (0-s)])=PV.own 1 (List.map I (p++[0-s]))) an)))) (zAe 1 (zAc (zAa (zAe 2 (S_a [(1,.v (I (s+(0-s))))] (ap ((zAH rfl (by omega)):I (IntKind.i64.wrap (s+(0-s)))=I (s+(0-s))) an) (zAe 1 (zAc (zAa (S_a [(1,.v (I (↑(k+1):Int)))] (ap ((zAH (by omega) (by omega)):I (IntKind.i64.wrap ((↑k:Int)+1))=I (↑(k+1):Int)) an) (zAe 1 (zAc ?_))))))))))))))))))))) (fun k1=>(zAn (zAb (zAa (zAe 3 (S_a [(4,.ob),(0,.ob),(0,.yes),(2,.v (PV.own 1 (List.map I (p++[zAt nums b t 8-4]))))] (ap ((by exact zAw (by simp only [List.length_map,zzLn,zAC]<;>omega)):(0+(List.map I p).length).ble (List.map I p).length=true) (ap ((by exact zAw (by simp only [List.length_map,zzLn,zAC]<;>omega)):((List.map I p).length + [I (zAt nums b t 8-4)].length).ble zAC=true) (ap ((by exact zBF (by simp<;>omega)):(0+(List.map I p).length).beq (List.map I p).length=true) (ap ((by simp):PV.own 1 (List.map I p++[I (zAt nums b t 8-4)])=PV.own 1 (List.map I (p++[zAt nums b t 8-4]))) an)))) (zAe 1 (zAc (zAa (zAe 2 (S_a [(1,.v (I (s+(zAt nums b t 8-4))))] (ap ((zAH rfl (by omega)):I (IntKind.i64.wrap (s+(zAt nums b t 8-4)))=I (s+(zAt nums b t 8-4))) an) (zAe 1 (zAc (zAa (S_a [(1,.v (I (↑(k+1):Int)))] (ap ((zAH (by omega) (by omega)):I (IntKind.i64.wrap ((↑k:Int)+1))=I (↑(k+1):Int)) an) (zAe 1 (zAc ?_)))))))))))))))))))))))))))))))))))))))
  ·refine ⟨(k+1,zAk nums (zAk nums b),zAF nums (zAk nums b) (zAF nums b t),p++[0-s],s+(0-s)),⟨by omega,wq,by simp;omega,fun x hx=>?_,by omega,by rw [List.sum_append,← hs];simp⟩,by simp only;omega,by kernel_rfl,by kernel_rfl⟩
   rcases List.mem_append.1 hx with hx | hx
   ·exact hpb x hx
   ·rw [List.mem_singleton] at hx;omega
  ·refine ⟨(k+1,zAk nums (zAk nums b),zAF nums (zAk nums b) (zAF nums b t),p++[zAt nums b t 8-4],s+(zAt nums b t 8-4)),⟨by omega,wq,by simp;omega,fun x hx=>?_,by omega,by rw [List.sum_append,← hs];simp⟩,by simp only;omega,by kernel_rfl,by kernel_rfl⟩
   rcases List.mem_append.1 hx with hx | hx
   ·exact hpb x hx
   ·rw [List.mem_singleton] at hx;omega
 ·have hP : BalP p s:=⟨by omega,hpb,by omega,hs⟩
  have hP2:=zTV hP
  have gP:=hP2.1
  have he:=hP2.2
  have vI:(p++[0-s]).length=p.length+1:=by rw [List.length_append,List.length_singleton]
  have hp6:=hP.len
  have hga:=zI6 gP.sum
  have hG:=hga.1
  have hz:=hga.2.1
  have ue:=zR8 gP
  have wo:=zQD gP
  have hnz:=zOg hG hz
  have hcy:=zP4 he
  have hGl:=zKI hG
  have e1:zTf (p++[0-s])=zFa (p++[0-s]) (zFb (p++[0-s])):=by simp only [zTf,he,if_true]
  have e2:zUa (p++[0-s])=zFb (p++[0-s]):=by simp only [zUa,he,if_true]
  have h48:=f48 (p++[0-s]) (by omega)
  have h49:=f49 (p++[0-s]) (by omega)
  rw [e1,he] at h48
  rw [e2,he] at h49
  have ji:=List.length_filter_le (fun x=>decide (x≠0)) (p++[0-s])
  have hl6:(zFa (p++[0-s]) (zFb (p++[0-s]))).length≤6:=by
   by_cases hg0:(zFb (p++[0-s])).length=0
   ·have h0:zFb (p++[0-s])=[]:=List.eq_nil_of_length_eq_zero hg0
    rw [h0];exact Nat.zero_le _
   ·omega
  have h45:=f45 (p++[0-s]) (zFa (p++[0-s]) (zFb (p++[0-s]))) (by omega) (by omega)
  rw [hcy,he] at h45
  clear hga hP2 hcy e1 e2 hP
  generalize zFa (p++[0-s]) (zFb (p++[0-s]))=Q at *
  generalize zFb (p++[0-s])=G at *
  have vV:zER (G.map zAg)=true:=zCo G fun x=>zCo x
  refine zAb (zAa (zAe 1 (zAc (zAb (zB3 ((↑k:Int)<m) (by omega) (zBA 0 (zAb (zAa (zAe 2 (S_a [(0,.v (I (0-s)))] (ap ((zAH rfl (by omega)):I (IntKind.i64.wrap (0-s))=I (0-s)) an) (zAe 1 (S_a [(4,.ob),(0,.ob),(0,.yes),(2,.v (PV.own 1 (List.map I (p++[0-s]))))] (ap ((by exact zAw (by simp only [List.length_map,zzLn,zAC]<;>omega)):(0+(List.map I p).length).ble (List.map I p).length=true) (ap ((by exact zAw (by simp only [List.length_map,zzLn,zAC]<;>omega)):((List.map I p).length + [I (0-s)].length).ble zAC=true) (ap ((by exact zBF (by simp<;>omega)):(0+(List.map I p).length).beq (List.map I p).length=true) (ap ((by simp):PV.own 1 (List.map I p++[I (0-s)])=PV.own 1 (List.map I (p++[0-s]))) an)))) (zAe 1 (zAc (zAb (zAa (zAe 1 (S_a [(3,.ob),(0,.v (PV.sl (List.map I (p++[0-s])))),(2,.ret (PV.tup [PV.own 3 (List.map zAA Q),I 0]) ([])),(1,.yes)] (ap ((by exact zAw (by simp only [List.length_map,zzLn,zAC]<;>omega)):(0+(List.map I (p++[0-s])).length).ble (List.map I (p++[0-s])).length=true) (ap ((zDB (zA3 (zAM _))):PV.sl (zAx (List.take (List.map I (p++[0-s])).length (List.drop 0 (List.map I (p++[0-s])))))=PV.sl (List.map I (p++[0-s]))) (ap (h48) (ap ((by exact zQs (zCo _) rfl):(PV.tup [PV.own 3 (List.map zAA Q),I 0]).free=true) an)))) (zAe 5 (zAc (zAb (zAa (zAe 1 (S_a [(3,.ob),(0,.v (PV.sl (List.map I (p++[0-s])))),(2,.ret (PV.tup [zDg G,I 0]) ([])),(1,.yes)] (ap ((by exact zAw (by simp only [List.length_map,zzLn,zAC]<;>omega)):(0+(List.map I (p++[0-s])).length).ble (List.map I (p++[0-s])).length=true) (ap ((zDB (zA3 (zAM _))):PV.sl (zAx (List.take (List.map I (p++[0-s])).length (List.drop 0 (List.map I (p++[0-s])))))=PV.sl (List.map I (p++[0-s]))) (ap (h49) (ap (?_:(PV.tup [zDg G,I 0]).free=true) an)))) (zAe 5 (zAc (zAb (zAa (zAe 2 (S_a [(3,.ob),(0,.v (PV.sl (List.map I (p++[0-s])))),(1,.ob),(0,.v (PV.sl (List.map zAA Q))),(2,.ret (PV.tup [PV.bool true,I 0]) ([]))] (ap ((by exact zAw (by simp only [List.length_map,zzLn,zAC]<;>omega)):(0+(List.map I (p++[0-s])).length).ble (List.map I (p++[0-s])).length=true) (ap ((zDB (zA3 (zAM _))):PV.sl (zAx (List.take (List.map I (p++[0-s])).length (List.drop 0 (List.map I (p++[0-s])))))=PV.sl (List.map I (p++[0-s]))) (ap ((by exact zAw (by simp only [List.length_map,zzLn,zAC]<;>omega)):(0+(List.map zAA Q).length).ble (List.map zAA Q).length=true) (ap ((zDB (zA3 (zAM _))):PV.sl (zAx (List.take (List.map zAA Q).length (List.drop 0 (List.map zAA Q))))=PV.sl (List.map zAA Q)) (ap (h45) an))))) (zAe 5 (zAc (zAb (zAa (zAe 1 (zAc (zAb (zAb (zAa (zAe 1 (S_a [(0,.n ((p++[0-s]).length))] (ap ((by simp):some (List.map I (p++[0-s])).length=some (p++[0-s]).length) an) (zAe 1 (zAc (zAm 2 ?_))))))))))))))))))))))))))))))))))))))))))))
  ·show (zER (G.map zAg)&&_)=true
   rw [vV];rfl
  refine zBc (fun (j,c)=>j≤(p++[0-s]).length∧c=zVO ((p++[0-s]).take j)) (fun (j,c)=>[(15,I (c:Nat)),(73,I (j:Nat))]) (fun (j,_)=>(p++[0-s]).length-j) ((0:Nat),(0:Nat)) ⟨Nat.zero_le _,rfl⟩ fun (j,c) ⟨hj,hc⟩=>?_
  have gE:c≤8:=by
   rw [hc]
   exact Nat.le_trans (List.length_filter_le _ _) (by rw [List.length_take];omega)
  by_cases kO:j<(p++[0-s]).length
  ·have hct:=zQS kO
   rw [← hc] at hct
   by_cases hj0:(p++[0-s]).getD j 0=0
   ·rw [if_pos hj0] at hct
    refine zAb (zAa (zAe 1 (zAc (zAb (zBN ((↑j:Int)<(↑(p++[0-s]).length:Int)) (by omega) (zAn (zAb (zAm 3 (zAb (zAa (S_a [(2,.ob),(1,.n (j))] (ap ((by exact zAu (by simp only [List.length_map,zzLn]<;>omega)):decide (j<(List.map I (p++[0-s])).length)=true) (ap ((by simp):some (0+j)=some j) an)) (S_a [(0,.cs false ([I ((p++[0-s]).getD j 0)]))] (ap (zBx (q:=PV.own 1 (List.map I (p++[0-s]))) (xs:=List.map I (p++[0-s])) (x:=I ((p++[0-s]).getD j 0)) rfl (zBd (0) (by omega)):zAj 6 (PV.own 1 (List.map I (p++[0-s]))) [] j 0 1=some (false,[I ((p++[0-s]).getD j 0)])) an) (zAe 1 (zAc (zAb (zAa (zAe 2 (zAc (zHm ((p++[0-s]).getD j 0=0) (by omega) (zAn (zAa (S_a [(1,.v (I (↑(j+1):Int)))] (ap ((zAH (by omega) (by omega)):I (IntKind.i64.wrap ((↑j:Int)+1))=I (↑(j+1):Int)) an) (zAe 1 (zAc ?_))))))))))))))))))))))))
    exact ⟨(j+1,c),⟨by omega,hct.symm⟩,by simp only;omega,by kernel_rfl,by kernel_rfl⟩
   ·rw [if_neg hj0] at hct
    refine zAb (zAa (zAe 1 (zAc (zAb (zBN ((↑j:Int)<(↑(p++[0-s]).length:Int)) (by omega) (zAn (zAb (zAm 3 (zAb (zAa (S_a [(2,.ob),(1,.n (j))] (ap ((by exact zAu (by simp only [List.length_map,zzLn]<;>omega)):decide (j<(List.map I (p++[0-s])).length)=true) (ap ((by simp):some (0+j)=some j) an)) (S_a [(0,.cs false ([I ((p++[0-s]).getD j 0)]))] (ap (zBx (q:=PV.own 1 (List.map I (p++[0-s]))) (xs:=List.map I (p++[0-s])) (x:=I ((p++[0-s]).getD j 0)) rfl (zBd (0) (by omega)):zAj 6 (PV.own 1 (List.map I (p++[0-s]))) [] j 0 1=some (false,[I ((p++[0-s]).getD j 0)])) an) (zAe 1 (zAc (zAb (zAa (zAe 2 (zAc (zGz ((p++[0-s]).getD j 0=0) (by omega) (zAa (zAe 1 (S_a [(1,.v (I (↑(c+1):Int)))] (ap ((zAH (by omega) (by omega)):I (IntKind.i64.wrap ((↑c:Int)+1))=I (↑(c+1):Int)) an) (zAe 1 (zAc (zAa (S_a [(1,.v (I (↑(j+1):Int)))] (ap ((zAH (by omega) (by omega)):I (IntKind.i64.wrap ((↑j:Int)+1))=I (↑(j+1):Int)) an) (zAe 1 (zAc ?_))))))))))))))))))))))))))))
    exact ⟨(j+1,c+1),⟨by omega,hct.symm⟩,by simp only;omega,by kernel_rfl,by kernel_rfl⟩
  ·rw [List.take_of_length_le (by omega)] at hc
   have hcq:Q.length+G.length=c:=by rw [hc];exact ue
   have hw0:zLR (p++[0-s]) []=(p++[0-s]):=by
    apply List.ext_getElem
    ·simp [zCK]
    ·intro j h1 h2
     have:=zFG (bal:=(p++[0-s])) (l:=[]) h2
     rw [zAE (by rw [zCK];exact h2)] at this
     rw [this];simp only [zM0,zH3,List.map_nil,List.sum_nil,Int.add_zero];exact zAE h2
   clear hc ji ue vV h48 h49
   refine zAb (zAa (zAe 1 (zAc (zAb (zB3 ((↑j:Int)<(↑(p++[0-s]).length:Int)) (by omega) (zBA 2 (zAb (zAb (zAa (zAe 16 (S_a [(0,.n (Q.length))] (ap ((by simp):some (List.map zAA Q).length=some Q.length) an) (zAe 2 (S_a [(0,.n (G.length))] (ap ((by simp):some (List.map zAg G).length=some G.length) an) (S_a [(1,.v (I (↑(c-G.length):Int)))] (ap ((zAH (by omega) (by omega)):I (IntKind.i64.wrap ((↑c:Int)-(↑G.length:Int)))=I (↑(c-G.length):Int)) an) (zAe 2 (zAc (zHm ((↑Q.length:Int)=(↑(c-G.length):Int)) (by omega) (zAn (zAb (zAa (zAe 1 (S_a [(3,.ob),(0,.v (PV.sl (List.map I (p++[0-s])))),(2,.ret (PV.own 1 (List.map I (p++[0-s]))) ([])),(1,.yes)] (ap ((by exact zAw (by simp only [List.length_map,zzLn,zAC]<;>omega)):(0+(List.map I (p++[0-s])).length).ble (List.map I (p++[0-s])).length=true) (ap ((zDB (zA3 (zAM _))):PV.sl (zAx (List.take (List.map I (p++[0-s])).length (List.drop 0 (List.map I (p++[0-s])))))=PV.sl (List.map I (p++[0-s]))) (ap (f17 (p++[0-s]) (by omega)) (ap ((by exact zCo _):(PV.own 1 (List.map I (p++[0-s]))).free=true) an)))) (zAe 1 (zAc (zAb (zAb (zAa (zAe 1 (S_a [(0,.n (Q.length))] (ap ((by simp):some (List.map zAA Q).length=some Q.length) an) (zAe 1 (zAc (zAm 4 ?_))))))))))))))))))))))))))))))))
   refine zBc (fun (j,o)=>j≤Q.length∧o=zLR (p++[0-s]) (Q.take j)) (fun (j,o)=>[(18,.own 1 (o.map I)),(109,I (j:Nat))]) (fun (j,_)=>Q.length-j) ((0:Nat),(p++[0-s])) ⟨Nat.zero_le _,hw0.symm⟩ fun (j,o) ⟨hj2,ho⟩=>?_
   have hol:o.length=(p++[0-s]).length:=by rw [ho,zCK]
   by_cases hjq:j<Q.length
   ·have gr:=wo (Q.getD j default) (by rw [zAE hjq];exact List.getElem_mem _)
    have kw:=zNY hjq gr
    rw [← ho] at kw
    have p1:=gr.1
    have p2:=gr.2.1
    have p3:=gr.2.2.1
    have p4:=gr.2.2.2
    have uO:=zQY (bal:=(p++[0-s])) (l:=Q.take j) gP.rng (fun q hq=>wo q (List.mem_of_mem_take hq)) (by rw [List.length_take];omega)
    rw [← ho] at uO
    have hb1':=uO (Q.getD j default).src.toNat
    have hb2':=uO (Q.getD j default).dst.toNat
    have hgs:(o.set (Q.getD j default).src.toNat (o.getD (Q.getD j default).src.toNat 0+(Q.getD j default).coins)).getD (Q.getD j default).dst.toNat 0=o.getD (Q.getD j default).dst.toNat 0:=by
     rw [zEh,if_neg (by omega)]
    clear uO hw0 gr ho wo hnz hG hz gP
    refine zAb (zAa (zAe 1 (zAc (zAb (zBN ((↑j:Int)<(↑Q.length:Int)) (by omega) (zAn (zAb (zAm 5 (zAb (zAa (S_a [(2,.ob),(1,.n (j))] (ap ((by exact zAu (by simp only [List.length_map,zzLn]<;>omega)):decide (j<(List.map zAA Q).length)=true) (ap ((by simp):some (0+j)=some j) an)) (S_a [(0,.cs true ([I (Q.getD j default).src,I (Q.getD j default).dst,I (Q.getD j default).coins]))] (ap (zBx (q:=PV.own 3 (List.map zAA Q)) (xs:=List.map zAA Q) (x:=PV.agg [I (Q.getD j default).src,I (Q.getD j default).dst,I (Q.getD j default).coins]) rfl (zBd (default) (by omega)):zAj 9 (PV.own 3 (List.map zAA Q)) [] j 0 Try.prog.types[83].size=some (true,[I (Q.getD j default).src,I (Q.getD j default).dst,I (Q.getD j default).coins])) an) (zAe 2 (zAc (zAb (zAb (zAa (zAe 4 (zEa 116 ((Q.getD j default).src<0) (by omega) (zAe 3 (S_a [(0,.n (o.length))] (ap ((by simp):some (List.map I o).length=some o.length) an) (zAe 3 (zEa 123 ((Q.getD j default).src≥(↑o.length:Int)) (by omega) (zAe 5 (zEa 128 ((Q.getD j default).dst<0) (by omega) (zAe 3 (S_a [(0,.n (o.length))] (ap ((by simp):some (List.map I o).length=some o.length) an) (zAe 3 (zEa 135 ((Q.getD j default).dst≥(↑o.length:Int)) (by omega) (zAe 7 (zEa 142 ((Q.getD j default).src=(Q.getD j default).dst) (by omega) (zAe 5 (zEa 147 ((Q.getD j default).coins<1) (by omega) (zAe 4 (zAc (zB3 ((Q.getD j default).coins>1000000) (by omega) (zAn (zAb (zAa (zAe 3 (S_a [(0,.ob),(1,.ob),(1,.n ((Q.getD j default).src.toNat))] (ap ((by exact zAu (by omega)):decide (0≤(Q.getD j default).src)=true) (ap ((by exact zAu (by simp only [List.length_map,zzLn]<;>omega)):decide ((Q.getD j default).src.toNat<(List.map I o).length)=true) (ap ((by simp):some (0+(Q.getD j default).src.toNat)=some (Q.getD j default).src.toNat) an))) (S_a [(0,.cs false ([I (o.getD (Q.getD j default).src.toNat 0)]))] (ap (zBx (q:=PV.own 1 (List.map I o)) (xs:=List.map I o) (x:=I (o.getD (Q.getD j default).src.toNat 0)) rfl (zBd (0) (by omega)):zAj 18 (PV.own 1 (List.map I o)) [] (Q.getD j default).src.toNat 0 1=some (false,[I (o.getD (Q.getD j default).src.toNat 0)])) an) (zAe 2 (S_a [(1,.v (I (o.getD (Q.getD j default).src.toNat 0+(Q.getD j default).coins)))] (ap ((zAH rfl (by omega)):I (IntKind.i64.wrap (o.getD (Q.getD j default).src.toNat 0+(Q.getD j default).coins))=I (o.getD (Q.getD j default).src.toNat 0+(Q.getD j default).coins)) an) (S_a [(0,.ob),(1,.ob),(1,.n ((Q.getD j default).src.toNat))] (ap ((by exact zAu (by omega)):decide (0≤(Q.getD j default).src)=true) (ap ((by exact zAu (by simp only [List.length_map,zzLn]<;>omega)):decide ((Q.getD j default).src.toNat<(List.map I o).length)=true) (ap ((by simp):some (0+(Q.getD j default).src.toNat)=some (Q.getD j default).src.toNat) an))) (S_a [(8,.root (PV.own 1 (List.map I (o.set (Q.getD j default).src.toNat (o.getD (Q.getD j default).src.toNat 0+(Q.getD j default).coins)))) true)] (ap (zMg (zBd (0) (by omega)) zDM:zA5 (PV.own 1 (List.map I o)) [] (Q.getD j default).src.toNat 0 (I (o.getD (Q.getD j default).src.toNat 0+(Q.getD j default).coins)).cells=some (PV.own 1 (List.map I (o.set (Q.getD j default).src.toNat (o.getD (Q.getD j default).src.toNat 0+(Q.getD j default).coins))))∧zAp (PV.own 1 (List.map I o)) (PV.own 1 (List.map I (o.set (Q.getD j default).src.toNat (o.getD (Q.getD j default).src.toNat 0+(Q.getD j default).coins)))) []=true) an) (zAc (zAa (zAe 3 (S_a [(0,.ob),(1,.ob),(1,.n ((Q.getD j default).dst.toNat))] (ap ((by exact zAu (by omega)):decide (0≤(Q.getD j default).dst)=true) (ap ((by exact zAu (by simp only [List.length_map,zzLn]<;>omega)):decide ((Q.getD j default).dst.toNat<(List.map I (o.set (Q.getD j default).src.toNat (o.getD (Q.getD j default).src.toNat 0+(Q.getD j default).coins))).length)=true) (ap ((by simp):some (0+(Q.getD j default).dst.toNat)=some (Q.getD j default).dst.toNat) an))) (S_a [(0,.cs false ([I ((o.set (Q.getD j default).src.toNat (o.getD (Q.getD j default).src.toNat 0+(Q.getD j default).coins)).getD (Q.getD j default).dst.toNat 0)]))] (ap (zBx (q:=PV.own 1 (List.map I (o.set (Q.getD j default).src.toNat (o.getD (Q.getD j default).src.toNat 0+(Q.getD j default).coins)))) (xs:=List.map I (o.set (Q.getD j default).src.toNat (o.getD (Q.getD j default).src.toNat 0+(Q.getD j default).coins))) (x:=I ((o.set (Q.getD j default).src.toNat (o.getD (Q.getD j default).src.toNat 0+(Q.getD j default).coins)).getD (Q.getD j default).dst.toNat 0)) rfl (zBd (0) ?_):zAj 18 (PV.own 1 (List.map I (o.set (Q.getD j default).src.toNat (o.getD (Q.getD j default).src.toNat 0+(Q.getD j default).coins)))) [] (Q.getD j default).dst.toNat 0 1=some (false,[I ((o.set (Q.getD j default).src.toNat (o.getD (Q.getD j default).src.toNat 0+(Q.getD j default).coins)).getD (Q.getD j default).dst.toNat 0)])) an) (zAe 2 (S_a [(1,.v (I ((o.set (Q.getD j default).src.toNat (o.getD (Q.getD j default).src.toNat 0+(Q.getD j default).coins)).getD (Q.getD j default).dst.toNat 0-(Q.getD j default).coins)))] (ap ((zAH rfl (by omega)):I (IntKind.i64.wrap ((o.set (Q.getD j default).src.toNat (o.getD (Q.getD j default).src.toNat 0+(Q.getD j default).coins)).getD (Q.getD j default).dst.toNat 0-(Q.getD j default).coins))=I ((o.set (Q.getD j default).src.toNat (o.getD (Q.getD j default).src.toNat 0+(Q.getD j default).coins)).getD (Q.getD j default).dst.toNat 0-(Q.getD j default).coins)) an) (S_a [(0,.ob),(1,.ob),(1,.n ((Q.getD j default).dst.toNat))] (ap ((by exact zAu (by omega)):decide (0≤(Q.getD j default).dst)=true) (ap ((by exact zAu (by simp only [List.length_map,zzLn]<;>omega)):decide ((Q.getD j default).dst.toNat<(List.map I (o.set (Q.getD j default).src.toNat (o.getD (Q.getD j default).src.toNat 0+(Q.getD j default).coins))).length)=true) (ap ((by simp):some (0+(Q.getD j default).dst.toNat)=some (Q.getD j default).dst.toNat) an))) (S_a [(8,.root (PV.own 1 (List.map I ((o.set (Q.getD j default).src.toNat (o.getD (Q.getD j default).src.toNat 0+(Q.getD j default).coins)).set (Q.getD j default).dst.toNat ((o.set (Q.getD j default).src.toNat (o.getD (Q.getD j default).src.toNat 0+(Q.getD j default).coins)).getD (Q.getD j default).dst.toNat 0-(Q.getD j default).coins)))) true)] (ap (zMg (zBd (0) ?_) zDM:zA5 (PV.own 1 (List.map I (o.set (Q.getD j default).src.toNat (o.getD (Q.getD j default).src.toNat 0+(Q.getD j default).coins)))) [] (Q.getD j default).dst.toNat 0 (I ((o.set (Q.getD j default).src.toNat (o.getD (Q.getD j default).src.toNat 0+(Q.getD j default).coins)).getD (Q.getD j default).dst.toNat 0-(Q.getD j default).coins)).cells=some (PV.own 1 (List.map I ((o.set (Q.getD j default).src.toNat (o.getD (Q.getD j default).src.toNat 0+(Q.getD j default).coins)).set (Q.getD j default).dst.toNat ((o.set (Q.getD j default).src.toNat (o.getD (Q.getD j default).src.toNat 0+(Q.getD j default).coins)).getD (Q.getD j default).dst.toNat 0-(Q.getD j default).coins))))∧zAp (PV.own 1 (List.map I (o.set (Q.getD j default).src.toNat (o.getD (Q.getD j default).src.toNat 0+(Q.getD j default).coins)))) (PV.own 1 (List.map I ((o.set (Q.getD j default).src.toNat (o.getD (Q.getD j default).src.toNat 0+(Q.getD j default).coins)).set (Q.getD j default).dst.toNat ((o.set (Q.getD j default).src.toNat (o.getD (Q.getD j default).src.toNat 0+(Q.getD j default).coins)).getD (Q.getD j default).dst.toNat 0-(Q.getD j default).coins)))) []=true) an) (zAc (zAa (S_a [(1,.v (I (↑(j+1):Int)))] (ap ((zAH (by omega) (by omega)):I (IntKind.i64.wrap ((↑j:Int)+1))=I (↑(j+1):Int)) an) (zAe 1 (zAc ?_))))))))))))))))))))))))))))))))))))))))))))))))))))))))))))
    ·rw [List.length_set];omega
    ·rw [List.length_set];omega
    exact ⟨(j+1,_),⟨by omega,kw⟩,by simp only;omega,by kernel_rfl,by kernel_rfl⟩
   ·have hje:j=Q.length:=by omega
    rw [hje,List.take_of_length_le (Nat.le_refl _)] at ho
    have wa:o.any (fun x => !decide (x=0))=false:=by
     rw [List.any_eq_false]
     intro x hx
     rw [ho] at hx
     obtain ⟨c',wi,rfl⟩:=List.getElem_of_mem hx
     rw [zCK] at wi
     have h2:=zFG (bal:=(p++[0-s])) (l:=Q) wi
     rw [zAE (by rw [zCK];exact wi),hnz c' wi] at h2
     rw [h2];decide
    have h65:=f65_66 o (by omega)
    rw [wa] at h65
    clear hw0 ho wa
    refine zAb (zAa (zAe 1 (zAc (zAb (zB3 ((↑j:Int)<(↑Q.length:Int)) (by omega) (zBA 4 (zAb (zAb (zAa (zAe 1 (S_a [(3,.ob),(0,.v (PV.sl (List.map I o))),(3,.ret (PV.bool false) ([]))] (ap ((by exact zAw (by simp only [List.length_map,zzLn,zAC]<;>omega)):(0+(List.map I o).length).ble (List.map I o).length=true) (ap ((zDB (zA3 (zAM _))):PV.sl (zAx (List.take (List.map I o).length (List.drop 0 (List.map I o))))=PV.sl (List.map I o)) (ap (h65) an))) (zAc (zAY (zAn (zAb (zAb (zAa (zAe 1 (S_a [(0,.n (G.length))] (ap ((by simp):some (List.map zAg G).length=some G.length) an) (zAe 1 (zAc (zAm 6 ?_))))))))))))))))))))))
    clear h65
    refine zBc (fun i=>i≤G.length) (fun i=>[(175,I (i:Nat))]) (fun i=>G.length-i) (0:Nat) (Nat.zero_le _) fun i hi=>?_
    by_cases jP:i<G.length
    ·have g0:=hG.el _ (zC7 jP)
     have g1:=g0.1
     have g3:=g0.2.2
     have hg8:=zMN (zC7 jP)
     have hgz:=zNf hz jP
     have wt:=zU6 g1 (fun x hx=>(g3 x hx).2.2) hgz
     clear g0
     refine zAb (zAa (zAe 1 (zAc (zAb (zBN ((↑i:Int)<(↑G.length:Int)) (by omega) (zAn (zAb (zAm 7 (zAb (zAa (S_a [(2,.ob),(1,.n (i))] (ap ((by exact zAu (by simp only [List.length_map,zzLn]<;>omega)):decide (i<(List.map zAg G).length)=true) (ap ((by simp):some (0+i)=some i) an)) (S_a [(0,.cs false ([PV.bor 11 [(i,0)] 1 0 (List.map I (G.getD i [])).length])),(0,.v (PV.bor 11 [(i,0)] 1 0 (G.getD i []).length))] (ap (zBx (q:=PV.own 1 (List.map zAg G)) (xs:=List.map zAg G) (x:=PV.own 1 (List.map I (G.getD i []))) rfl (zBd ([]) (by omega)):zAj 11 (PV.own 1 (List.map zAg G)) [] i 0 1=some (false,[PV.bor 11 [(i,0)] 1 0 (List.map I (G.getD i [])).length])) (ap ((by simp):PV.bor 11 [(i,0)] 1 0 (List.map I (G.getD i [])).length=PV.bor 11 [(i,0)] 1 0 (G.getD i []).length) an)) (zAe 1 (zAc (zAb (zAa (zAe 1 (zAc (zAb (zAb (zAa (zAe 3 (zAc (zAm 8 ?_))))))))))))))))))))))))
     refine zBc (fun (k2,n)=>k2≤(G.getD i []).length∧n=zCZ (p++[0-s]) ((G.getD i []).take k2)) (fun (k2,n)=>[(23,I n),(181,I (k2:Nat))]) (fun (k2,_)=>(G.getD i []).length-k2) ((0:Nat),(0:Int)) ⟨Nat.zero_le _,rfl⟩ fun (k2,n) ⟨ky,hn⟩=>?_
     have hsb2:=zNl (bal:=(p++[0-s])) (g:=(G.getD i []).take k2) gP.rng
     rw [← hn,List.length_take] at hsb2
     by_cases uh:k2<(G.getD i []).length
     ·have jI:=g3 ((G.getD i []).getD k2 0) (by rw [zAE uh];exact List.getElem_mem _)
      have p1:=jI.1
      have p2:=jI.2.1
      have hbp:=zOl gP.rng ((G.getD i []).getD k2 0)
      have gi:zBR (p++[0-s]) ((G.getD i []).getD k2 0)=(p++[0-s]).getD ((G.getD i []).getD k2 0).toNat 0:=rfl
      rw [gi] at hbp
      have gO:=zIR (bal:=(p++[0-s])) uh
      rw [← hn] at gO
      clear jI gi hn g3 hG hz hgz
      refine zAb (zAa (zAe 1 (zAc (zAb (zBN ((↑k2:Int)<(↑(G.getD i []).length:Int)) (by omega) (zAn (zAb (zAm 9 (zAb (zAa (S_a [(2,.ob),(1,.n (k2))] (ap ((by exact zAu (by omega)):decide (k2<(G.getD i []).length)=true) (ap ((by simp):some (0+k2)=some k2) an)) (S_a [(0,.cs false ([I ((G.getD i []).getD k2 0)]))] (ap (zBx (q:=PV.own 1 (List.map I (G.getD i []))) (xs:=List.map I (G.getD i [])) (x:=I ((G.getD i []).getD k2 0)) (zBz (xs:=List.map zAg G) (x:=PV.own 1 (List.map I (G.getD i []))) (y:=PV.own 1 (List.map I (G.getD i []))) (zBd ([]) (by omega)) rfl) (zBd (0) (by omega)):zAj 11 (PV.own 1 (List.map zAg G)) [(i,0)] k2 0 1=some (false,[I ((G.getD i []).getD k2 0)])) an) (zAe 1 (zAc (zAb (zAb (zAa (zAe 3 (zEa 187 ((G.getD i []).getD k2 0<0) (by omega) (zAe 2 (S_a [(0,.n ((p++[0-s]).length))] (ap ((by simp):some (List.map I (p++[0-s])).length=some (p++[0-s]).length) an) (zAe 2 (zAc (zB3 ((G.getD i []).getD k2 0≥(↑(p++[0-s]).length:Int)) (by omega) (zAn (zAa (zAe 3 (S_a [(0,.ob),(1,.ob),(1,.n (((G.getD i []).getD k2 0).toNat))] (ap ((by exact zAu (by omega)):decide (0≤(G.getD i []).getD k2 0)=true) (ap ((by exact zAu (by simp only [List.length_map,zzLn]<;>omega)):decide (((G.getD i []).getD k2 0).toNat<(List.map I (p++[0-s])).length)=true) (ap ((by simp):some (0+((G.getD i []).getD k2 0).toNat)=some ((G.getD i []).getD k2 0).toNat) an))) (S_a [(0,.cs false ([I ((p++[0-s]).getD ((G.getD i []).getD k2 0).toNat 0)]))] (ap (zBx (q:=PV.own 1 (List.map I (p++[0-s]))) (xs:=List.map I (p++[0-s])) (x:=I ((p++[0-s]).getD ((G.getD i []).getD k2 0).toNat 0)) rfl (zBd (0) (by omega)):zAj 6 (PV.own 1 (List.map I (p++[0-s]))) [] ((G.getD i []).getD k2 0).toNat 0 1=some (false,[I ((p++[0-s]).getD ((G.getD i []).getD k2 0).toNat 0)])) an) (S_a [(1,.v (I (n+(p++[0-s]).getD ((G.getD i []).getD k2 0).toNat 0)))] (ap ((zAH rfl (by omega)):I (IntKind.i64.wrap (n+(p++[0-s]).getD ((G.getD i []).getD k2 0).toNat 0))=I (n+(p++[0-s]).getD ((G.getD i []).getD k2 0).toNat 0)) an) (zAe 1 (zAc (zAa (S_a [(1,.v (I (↑(k2+1):Int)))] (ap ((zAH (by omega) (by omega)):I (IntKind.i64.wrap ((↑k2:Int)+1))=I (↑(k2+1):Int)) an) (zAe 1 (zAc ?_))))))))))))))))))))))))))))))))))))
      exact ⟨(k2+1,n+(p++[0-s]).getD ((G.getD i []).getD k2 0).toNat 0),⟨by omega,gO.symm⟩,by simp only;omega,by kernel_rfl,by kernel_rfl⟩
     ·rw [List.take_of_length_le (by omega),hgz] at hn
      clear g3 hG hz hgz hsb2
      refine zAb (zAa (zAe 1 (zAc (zAb (zB3 ((↑k2:Int)<(↑(G.getD i []).length:Int)) (by omega) (zBA 8 (zAb (zAa (zAe 3 (zHl 202 (n=0) (by omega) (zAe 4 (zAc (zB3 ((↑(G.getD i []).length:Int)<2) (by omega) (zAn (zAa (S_a [(1,.v (I (↑(i+1):Int)))] (ap ((zAH (by omega) (by omega)):I (IntKind.i64.wrap ((↑i:Int)+1))=I (↑(i+1):Int)) an) (zAe 1 (zAc ?_))))))))))))))))))
      exact ⟨i+1,by omega,by omega,by kernel_rfl,by kernel_rfl⟩
    ·by_cases hq0:0<Q.length
     ·have j4:=zUd (a:=which) (b:=(Q.length:Int)) (by omega) (by omega)
      have hix:((which.tmod (Q.length:Int)).toNat:Int)=which.tmod (Q.length:Int):=Int.toNat_of_nonneg j4.1
      have hilt:(which.tmod (Q.length:Int)).toNat<Q.length:=by omega
      have h67:=f67g Q (which.tmod (Q.length:Int)).toNat hilt hl6
      rw [hix] at h67
      have h68:=f68 Q (by omega)
      have jm:=zSA he wo hnz hilt
      have h45b:=f45 (p++[0-s]) (Q.eraseIdx (which.tmod (Q.length:Int)).toNat) (by have:=List.length_eraseIdx_le Q (which.tmod (Q.length:Int)).toNat;omega) (by omega)
      rw [jm,he] at h45b
      clear jm hnz wo hG hz
      refine zAb (zAa (zAe 1 (zAc (zAb (zB3 ((↑i:Int)<(↑G.length:Int)) (by omega) (zBA 6 (zAb (zAb (zAa (zAe 1 (S_a [(0,.n (Q.length))] (ap ((by simp):some (List.map zAA Q).length=some Q.length) an) (zAe 1 (zAc (zBN ((↑Q.length:Int)>0) (by omega) (zAb (zAa (zAe 1 (S_a [(0,.v (I which))] (ap ((zAH rfl (by omega)):I (IntKind.i64.wrap which)=I which) an) (zAe 1 (S_a [(0,.n (Q.length))] (ap ((by simp):some (List.map zAA Q).length=some Q.length) an) (S_a [(0,.v (I (which.tmod (↑Q.length:Int))))] (ap (zQz (by omega) rfl:zPf Try.prog BinOp.rem 3 (I which) (I (↑Q.length:Int))=some (I (which.tmod (↑Q.length:Int)))) an) (zAe 1 (zAc (zAb (zAa (zAe 2 (S_a [(3,.ob),(0,.v (PV.sl (List.map zAA Q))),(2,.ret (PV.own 3 (List.map zAA Q)) ([])),(1,.yes)] (ap ((by exact zAw (by simp only [List.length_map,zzLn,zAC]<;>omega)):(0+(List.map zAA Q).length).ble (List.map zAA Q).length=true) (ap ((zDB (zA3 (zAM _))):PV.sl (zAx (List.take (List.map zAA Q).length (List.drop 0 (List.map zAA Q))))=PV.sl (List.map zAA Q)) (ap (h68) (ap ((by exact zCo _):(PV.own 3 (List.map zAA Q)).free=true) an)))) (zAe 2 (S_a [(1,.v (I (which.tmod (↑Q.length:Int)+1)))] (ap ((zAH rfl (by omega)):I (IntKind.i64.wrap (which.tmod (↑Q.length:Int)+1))=I (which.tmod (↑Q.length:Int)+1)) an) (S_a [(7,.vs ([PV.bor 50000000 [] 3 0 Q.length,I (which.tmod (↑Q.length:Int)),I (which.tmod (↑Q.length:Int)+1)])),(0,.ret (PV.sl (List.map zAA (Q.eraseIdx (which.tmod (↑Q.length:Int)).toNat))) ([PV.sl (List.map zAA (Q.eraseIdx (which.tmod (↑Q.length:Int)).toNat)++[zJm])])),(2,.v (PV.sl (List.map zAA (Q.eraseIdx (which.tmod (↑Q.length:Int)).toNat++[{src:=0,dst:=0,coins:=0}]))))] (ap ((by simp) : [PV.bor 50000000 [] 3 0 (List.map zAA Q).length,I (which.tmod (↑Q.length:Int)),I (which.tmod (↑Q.length:Int)+1)]=[PV.bor 50000000 [] 3 0 Q.length,I (which.tmod (↑Q.length:Int)),I (which.tmod (↑Q.length:Int)+1)]) (ap (h67) (ap ((by simp):PV.sl (List.map zAA (Q.eraseIdx (which.tmod (↑Q.length:Int)).toNat)++[PV.agg [I 0,I 0,I 0]])=PV.sl (List.map zAA (Q.eraseIdx (which.tmod (↑Q.length:Int)).toNat++[{src:=0,dst:=0,coins:=0}]))) an))) (S_a [(3,.ob),(0,.v (PV.sl (List.map I (p++[0-s])))),(4,.ret (PV.tup [PV.bool false,I 0]) ([]))] (ap ((by exact zAw (by simp only [List.length_map,zzLn,zAC]<;>omega)):(0+(List.map I (p++[0-s])).length).ble (List.map I (p++[0-s])).length=true) (ap ((zDB (zA3 (zAM _))):PV.sl (zAx (List.take (List.map I (p++[0-s])).length (List.drop 0 (List.map I (p++[0-s])))))=PV.sl (List.map I (p++[0-s]))) (ap (h45b) an))) (zAe 5 (zAc (zAb (zAa (zAe 5 (zAc (zAY (zAn (zAb (zAa (S_a [(4,.ret (PV.bool true) ([]))] (ap (f16) an) (zAe 1 (zAc (zAD (E_a [] an (PV.bool true) ([]) rfl rfl))))))))))))))))))))))))))))))))))))))))))))))
     ·refine zAb (zAa (zAe 1 (zAc (zAb (zB3 ((↑i:Int)<(↑G.length:Int)) (by omega) (zBA 6 (zAb (zAb (zAa (zAe 1 (S_a [(0,.n (Q.length))] (ap ((by simp):some (List.map zAA Q).length=some Q.length) an) (zAe 1 (zAc (zB3 ((↑Q.length:Int)>0) (by omega) (zAn (zAb (zAa (S_a [(4,.ret (PV.bool true) ([]))] (ap (f16) an) (zAe 1 (zAc (zAD (E_a [] an (PV.bool true) ([]) rfl rfl))))))))))))))))))))))
end Go.Eng
set_option maxRecDepth 100000
namespace Go.Proofs.Ytpmbobnmpehobaa
open Go.ChangeShapes Go.WideShapes Go.ChangeAt Go.RowKit Go.Eng
theorem feeCleared_gives (ss:List (Bool×List Sh)) (wE:zEO Try.prog Try.f12.params.toList=some ss) (qs:List PV) (hq:zKX ss qs):@zA2 (yo1 Try.prog zAq) Try.prog zAq 12 qs [] (.bool true) []:=by
 have he:zEO Try.prog Try.f12.params.toList=some [(false,[.list false [.num .u8]]),(false,[.num .u8])]:=by kernel_rfl
 rw [he] at wE
 cases wE
 obtain ⟨p0,qs0,rfl,h0,hq0⟩:=hq
 obtain ⟨p1,qs1,rfl,h1,kV⟩:=hq0
 simp only [zKX] at kV
 subst kV
 obtain ⟨x0,rfl,l0,b0⟩:=zTG h0
 unfold maxLen at l0
 simp only [IntKind.min,IntKind.max,IntKind.signed,IntKind.bits] at b0
 simp at b0
 obtain ⟨x1,rfl,b1⟩:=zUS h1
 simp only [IntKind.min,IntKind.max,IntKind.signed,IntKind.bits] at b1
 simp at b1
 exact f12 x0 x1 (by omega) (by omega)
theorem feeCleared_lifted (os:Os) (started:os.Started) (H:Type) (enc:TypeId×Value→H) :
  ReturnsInHanded {} Try.checked os 12 .any (Rows.feeClearedSpec.pre6 enc Try.prog Try.f12 Rows.feeClearedRow.domain false) (Rows.feeClearedSpec.post enc Try.prog Try.f12 false true false false):=by
 refine returnsInHanded_of_change (C:=Try.checked) Try.own started (by kernel_rfl) Try.func12
  (ChangeSpec.witness6 (enc:=enc) (C:=Try.checked) false ⟨#[],#[.slice none 0 0,.int .u8 0],[]⟩ 8 (by kernel_rfl) (by kernel_rfl) (by kernel_rfl) (by kernel_rfl)) ?_
 intro W base args ds gs before hval0 hW hcnd _
 obtain ⟨p,q,hA0,hV,_,_,_⟩:=id hW
 obtain ⟨rfl,rfl⟩:=trodVars_none hV
 obtain ⟨ss,wE⟩:∃ ss,zEO Try.prog Try.f12.params.toList=some ss:=Option.isSome_iff_exists.1 (by kernel_rfl)
 have hO:ss.length≤1000:=by
  have h:((zEO Try.prog Try.f12.params.toList).map fun s=>Nat.ble s.length 1000)=some true:=by kernel_rfl
  rw [wE] at h
  simpa using h
 exact zTp zEV hnm zLA hin Try.laidOut rfl Try.underlying4 (by kernel_rfl) (by kernel_rfl) (fun ds hd=>by match ds,hd with | [d0,d1],_=>rfl) wE hO (feeCleared_gives ss wE) hval0 hW
theorem feeCleared_holds:Rows.FeeClearedSaid :=
 OpenClaim.holds_of_wide 12 Try.f12 rfl rfl rfl rfl rfl rfl rfl ⟨rfl,rfl,rfl,rfl,rfl⟩ rfl rfl rfl rfl rfl (by kernel_rfl) Try.func12 (by kernel_rfl)
  (of_decide_eq_true (by kernel_rfl)) (by unfold Func.isWrapper;first | (rw [if_pos (by decide +kernel)];kernel_rfl) | (rw [if_neg (by decide +kernel)];exact ⟨rfl,rfl⟩))
  (fun os started H enc _=>feeCleared_lifted os started H enc)
end Go.Proofs.Ytpmbobnmpehobaa
