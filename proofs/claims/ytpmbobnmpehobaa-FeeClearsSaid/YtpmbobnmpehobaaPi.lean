/- Payments that are returned clear balances, and are as few as can be; groups that are returned are such, and as many as can be; whether payments clear is as specified; so are the errors; arguments are not modified (at most 12 balances, and 24 payments). -/
import Derived.Test.YtpmbobnmpehobaaPh
import Derived.Test.YtpmbobnmpehobaaPd
import Derived.Test.YtpmbobnmpehobaaPg
import Derived.Test.YtpmbobnmpehobaaPf
import Derived.Test.YtpmbobnmpehobaaPe
set_option linter.unusedVariables false
set_option linter.unusedSimpArgs false
set_option linter.unusedSectionVars false
set_option maxRecDepth 10000
set_option maxHeartbeats 4000000
namespace Go.Eng
open Go Go.Proofs
theorem zRD {bal l:List Int} {n:Int} {k:Nat} (h:k+1<l.length):zKP bal n (l.drop k)=(if n+zBU bal (l.getD k 0)>0 then [⟨l.getD (k+1) 0,l.getD k 0,n+zBU bal (l.getD k 0)⟩] else if n+zBU bal (l.getD k 0)<0 then [⟨l.getD k 0,l.getD (k+1) 0,-(n+zBU bal (l.getD k 0))⟩] else [])++zKP bal (n+zBU bal (l.getD k 0)) (l.drop (k+1)):=by
 rw [List.drop_eq_getElem_cons (show k<l.length by omega),List.drop_eq_getElem_cons h]
 simp only [zKP,zAC h,zAC (show k<l.length by omega)]
theorem zUq {bal l:List Int} {n:Int} {k:Nat} (h:l.length≤k+1):zKP bal n (l.drop k)=[]:=by
 by_cases hk:k<l.length
 ·rw [List.drop_eq_getElem_cons hk,List.drop_of_length_le h];rfl
 ·rw [List.drop_of_length_le (by omega)];rfl
def zSx (bal:List Int):List Pay:=if zBe bal=0 then zFn bal (zFS bal) else []
section
variable [Yo]
theorem f48 (bal:List Int) (hl:bal.length<4294967296):FG 48 [zB2 bal] (.tup [.own 3 ((zSx bal).map zA1),I (zBe bal)]):=by
 have h108:=f108 bal hl
 by_cases h:zBe bal=0
 ·have hb := zJS h
  have hb8:=hb.len
  have h111:=f111 bal hb.rng hb.len
  have e:zSx bal=zFn bal (zFS bal):=by simp only [zSx,h,if_true]
  obtain ⟨hG,hz,hm⟩:=zIx hb.sum
  have hGl:=zKr hG
  rw [e]
  rw [h] at h108 ⊢
  have yd:∀ i,i<(zFS bal).length→((zFS bal).getD i []).length≠0∧((zFS bal).getD i []).length≤8∧∀ x∈(zFS bal).getD i [],0≤x∧x<bal.length:=fun i hi=>by
   have hm:=zCO (now:=zFS bal) hi
   obtain ⟨g1,g2,g3⟩:=hG.el _ hm
   have:=zNg hm
   exact ⟨fun h0=>g1 (List.eq_nil_of_length_eq_zero h0),by omega,fun x hx=>by have:=g3 x hx;omega⟩
  generalize zFS bal=G at *
  clear hG hz hm
  refine zAi Try.f48 ?_
  refine zAb (zAa (zAe 2 (zAc (zAb (zAb (zAa (zAe 1 (S_a [(6,.ret (I 0) ([]))] (ap (h108) an) (zAe 1 (zAc (zAb (zAa (zAe 2 (zAc (zBp (zAl (zAb (zAa (zAe 1 (zAc (zAb (zAb (zAa (zAe 1 (S_a [(6,.ret (zDh G) ([]))] (ap (h111) an) (S_a [(0,.n (G.length))] (ap ((by simp):some (List.map zAg G).length=some G.length) an) (zAe 1 (zAc (zAj 0 ?_)))))))))))))))))))))))))))))
  refine zAX (fun (i,q)=>i≤G.length∧q=zFn bal (G.take i)∧q.length≤8*i) (fun (i,q)=>[(5,.own 3 (q.map zA1)),(19,I (i:Nat))]) (fun (i,_)=>G.length-i) ((0:Nat),([]:List Pay)) ⟨Nat.zero_le _,rfl,Nat.zero_le _⟩ fun (i,q) ⟨hi,hq,hql⟩=>?_
  by_cases yU:i<G.length
  ·obtain ⟨e1,e2,e3⟩:=yd i yU
   have jU:zFn bal (G.take (i+1))=q++zKP bal 0 ((G.getD i []).drop 0):=by
    rw [hq,List.take_add_one,List.getElem?_eq_getElem yU,zAC yU,List.drop_zero]
    simp only [zFn,Option.toList,List.flatMap_append,List.flatMap_cons,List.flatMap_nil,List.append_nil]
   refine zAb (zAa (zAe 1 (zAc (zAb (zA6 ((↑i:Int)<(↑G.length:Int)) (by omega) (zAl (zAb (zAj 1 (zAb (zAa (S_a [(2,.ob),(1,.n (i))] (ap ((by exact zAp (by simp only [List.length_map,zzLn]<;>omega)):decide (i<(List.map zAg G).length)=true) (ap ((by simp):some (0+i)=some i) an)) (S_a [(0,.cs false ([PV.bor 17 [(i,0)] 1 0 (List.map I (G.getD i [])).length])),(0,.v (PV.bor 17 [(i,0)] 1 0 (G.getD i []).length))] (ap (zBw (q:=PV.own 1 (List.map zAg G)) (xs:=List.map zAg G) (x:=PV.own 1 (List.map I (G.getD i []))) rfl (zAR ([]) (by omega)):zAk 17 (PV.own 1 (List.map zAg G)) [] i 0 1=some (false,[PV.bor 17 [(i,0)] 1 0 (List.map I (G.getD i [])).length])) (ap ((by simp):PV.bor 17 [(i,0)] 1 0 (List.map I (G.getD i [])).length=PV.bor 17 [(i,0)] 1 0 (G.getD i []).length) an)) (zAe 1 (zAc (zAb (zAa (zAe 1 (zAc (zAb (zAa (zAe 3 (S_a [(1,.v (I (↑((G.getD i []).length-1):Int)))] (ap ((zAy (by omega) (by omega)):I (IntKind.i64.wrap ((↑(G.getD i []).length:Int)-1))=I (↑((G.getD i []).length-1):Int)) an) (S_a [(4,.yes)] (ap ((by exact zAs (by simp<;>omega)):((G.getD i []).length-1).ble (G.getD i []).length=true) an) (zAe 2 (zAc (zAj 2 ?_))))))))))))))))))))))))))
   refine zAX (fun (k,n,q2)=>k≤(G.getD i []).length-1∧n=zC5 bal ((G.getD i []).take k)∧q2++zKP bal n ((G.getD i []).drop k)=zFn bal (G.take (i+1))∧q2.length≤8*i+k) (fun (k,n,q2)=>[(5,.own 3 (q2.map zA1)),(8,I n),(29,I (k:Nat))]) (fun (k,_,_)=>(G.getD i []).length-1-k) ((0:Nat),(0:Int),q) ⟨Nat.zero_le _,rfl,jU.symm,by omega⟩ fun (k,n,q2) ⟨hk,hn,kP,hl2⟩=>?_
   have uC:=zML (bal:=bal) (g:=(G.getD i []).take k) hb.rng
   rw [← hn,List.length_take] at uC
   by_cases kV:k+1<(G.getD i []).length
   ·have hp:=e3 ((G.getD i []).getD k 0) (by rw [zAC (show k<(G.getD i []).length by omega)];exact List.getElem_mem _)
    have hbp:=zOE hb.rng ((G.getD i []).getD k 0)
    have yQ:=zRD (bal:=bal) (n:=n) kV
    have qZ:=zJb (bal:=bal) (show k<(G.getD i []).length by omega)
    rw [← hn] at qZ
    have gh:zBU bal ((G.getD i []).getD k 0)=bal.getD ((G.getD i []).getD k 0).toNat 0:=rfl
    rw [gh] at yQ hbp
    have hw:IntKind.i64.wrap (n+bal.getD ((G.getD i []).getD k 0).toNat 0)=n+bal.getD ((G.getD i []).getD k 0).toNat 0:=zTo (by omega)
    by_cases hpos:n+bal.getD ((G.getD i []).getD k 0).toNat 0>0
    ·rw [if_pos hpos] at yQ
     rw [yQ,← List.append_assoc] at kP
     clear yQ hq jU yd hw
     refine zAb (zAa (zAe 1 (zAc (zAb (zA6 ((↑k:Int)<(↑((↑((G.getD i []).length-1):Int).toNat-0):Int)) (by omega) (zAl (zAb (zAj 3 (zAb (zAa (zAe 1 (S_a [(2,.ob),(1,.n (k))] (ap ((by exact zAp (by omega)):decide (k<(↑((G.getD i []).length-1):Int).toNat-0)=true) (ap ((by simp):some (0+k)=some k) an)) (S_a [(0,.cs false ([I ((G.getD i []).getD k 0)]))] (ap (zBw (q:=PV.own 1 (List.map I (G.getD i []))) (xs:=List.map I (G.getD i [])) (x:=I ((G.getD i []).getD k 0)) (zBt (xs:=List.map zAg G) (x:=PV.own 1 (List.map I (G.getD i []))) (y:=PV.own 1 (List.map I (G.getD i []))) (zAR ([]) (by omega)) rfl) (zAR (0) (by omega)):zAk 17 (PV.own 1 (List.map zAg G)) [(i,0)] k 0 1=some (false,[I ((G.getD i []).getD k 0)])) an) (zAe 2 (zAc (zAb (zAa (zAe 3 (S_a [(0,.ob),(1,.v (I (bal.getD ((G.getD i []).getD k 0).toNat 0)))] (ap ((by exact zAp (by omega)):decide (0≤(G.getD i []).getD k 0)=true) (ap (zAR (0) (by omega):(List.map I bal)[((G.getD i []).getD k 0).toNat]? = some (I (bal.getD ((G.getD i []).getD k 0).toNat 0))) an)) (zAe 1 (S_a [(1,.v (I (n+bal.getD ((G.getD i []).getD k 0).toNat 0)))] (ap ((zAy rfl (by omega)):I (IntKind.i64.wrap (n+bal.getD ((G.getD i []).getD k 0).toNat 0))=I (n+bal.getD ((G.getD i []).getD k 0).toNat 0)) an) (zAe 1 (zAc (zAj 4 (zAb (zAa (zAe 3 (zAc (zA6 (n+bal.getD ((G.getD i []).getD k 0).toNat 0>0) (by omega) (zAa (zAe 3 (S_a [(1,.v (I (↑(k+1):Int)))] (ap ((zAy (by omega) (by omega)):I (IntKind.i64.wrap ((↑k:Int)+1))=I (↑(k+1):Int)) an) (S_a [(2,.ob),(1,.n (k+1))] (ap ((by exact zAp (by omega)):decide (k+1<(G.getD i []).length)=true) (ap ((by simp):some (0+(k+1))=some (k+1)) an)) (S_a [(0,.cs false ([I ((G.getD i []).getD (k+1) 0)]))] (ap (zBw (q:=PV.own 1 (List.map I (G.getD i []))) (xs:=List.map I (G.getD i [])) (x:=I ((G.getD i []).getD (k+1) 0)) (zBt (xs:=List.map zAg G) (x:=PV.own 1 (List.map I (G.getD i []))) (y:=PV.own 1 (List.map I (G.getD i []))) (zAR ([]) (by omega)) rfl) (zAR (0) (by omega)):zAk 17 (PV.own 1 (List.map zAg G)) [(i,0)] (k+1) 0 1=some (false,[I ((G.getD i []).getD (k+1) 0)])) an) (zAe 4 (S_a [(4,.ob),(0,.ob),(0,.yes),(2,.v (PV.own 3 (List.map zA1 (q2++[{src:=(G.getD i []).getD (k+1) 0,dst:=(G.getD i []).getD k 0,coins:=n+bal.getD ((G.getD i []).getD k 0).toNat 0}]))))] (ap ((by exact zAs (by simp only [List.length_map,zzLn,zAv]<;>omega)):(0+(List.map zA1 q2).length).ble (List.map zA1 q2).length=true) (ap ((by exact zAs (by simp only [List.length_map,zzLn,zAv]<;>omega)):((List.map zA1 q2).length + [PV.agg [I ((G.getD i []).getD (k+1) 0),I ((G.getD i []).getD k 0),I (n+bal.getD ((G.getD i []).getD k 0).toNat 0)]].length).ble zAv=true) (ap ((by exact zBH (by simp<;>omega)):(0+(List.map zA1 q2).length).beq (List.map zA1 q2).length=true) (ap ((by simp):PV.own 3 (List.map zA1 q2++[PV.agg [I ((G.getD i []).getD (k+1) 0),I ((G.getD i []).getD k 0),I (n+bal.getD ((G.getD i []).getD k 0).toNat 0)]])=PV.own 3 (List.map zA1 (q2++[{src:=(G.getD i []).getD (k+1) 0,dst:=(G.getD i []).getD k 0,coins:=n+bal.getD ((G.getD i []).getD k 0).toNat 0}]))) an)))) (zAe 1 (zAc (zAa (S_a [(1,.v (I (↑(k+1):Int)))] (ap ((zAy (by omega) (by omega)):I (IntKind.i64.wrap ((↑k:Int)+1))=I (↑(k+1):Int)) an) (zAe 1 (zAc ?_))))))))))))))))))))))))))))))))))))))))))
     exact ⟨(k+1,n+bal.getD ((G.getD i []).getD k 0).toNat 0,q2++[⟨(G.getD i []).getD (k+1) 0,(G.getD i []).getD k 0,n+bal.getD ((G.getD i []).getD k 0).toNat 0⟩]),⟨by omega,qZ.symm,kP,by rw [List.length_append,List.length_singleton];omega⟩,by simp only;omega,by kernel_rfl,by kernel_rfl⟩
    ·rw [if_neg hpos] at yQ
     by_cases hneg:n+bal.getD ((G.getD i []).getD k 0).toNat 0<0
     ·rw [if_pos hneg,show -(n+bal.getD ((G.getD i []).getD k 0).toNat 0)=0-(n+bal.getD ((G.getD i []).getD k 0).toNat 0) from by omega] at yQ
      rw [yQ,← List.append_assoc] at kP
      clear yQ hq jU yd hw
      refine zAb (zAa (zAe 1 (zAc (zAb (zA6 ((↑k:Int)<(↑((↑((G.getD i []).length-1):Int).toNat-0):Int)) (by omega) (zAl (zAb (zAj 3 (zAb (zAa (zAe 1 (S_a [(2,.ob),(1,.n (k))] (ap ((by exact zAp (by omega)):decide (k<(↑((G.getD i []).length-1):Int).toNat-0)=true) (ap ((by simp):some (0+k)=some k) an)) (S_a [(0,.cs false ([I ((G.getD i []).getD k 0)]))] (ap (zBw (q:=PV.own 1 (List.map I (G.getD i []))) (xs:=List.map I (G.getD i [])) (x:=I ((G.getD i []).getD k 0)) (zBt (xs:=List.map zAg G) (x:=PV.own 1 (List.map I (G.getD i []))) (y:=PV.own 1 (List.map I (G.getD i []))) (zAR ([]) (by omega)) rfl) (zAR (0) (by omega)):zAk 17 (PV.own 1 (List.map zAg G)) [(i,0)] k 0 1=some (false,[I ((G.getD i []).getD k 0)])) an) (zAe 2 (zAc (zAb (zAa (zAe 3 (S_a [(0,.ob),(1,.v (I (bal.getD ((G.getD i []).getD k 0).toNat 0)))] (ap ((by exact zAp (by omega)):decide (0≤(G.getD i []).getD k 0)=true) (ap (zAR (0) (by omega):(List.map I bal)[((G.getD i []).getD k 0).toNat]? = some (I (bal.getD ((G.getD i []).getD k 0).toNat 0))) an)) (zAe 1 (S_a [(1,.v (I (n+bal.getD ((G.getD i []).getD k 0).toNat 0)))] (ap ((zAy rfl (by omega)):I (IntKind.i64.wrap (n+bal.getD ((G.getD i []).getD k 0).toNat 0))=I (n+bal.getD ((G.getD i []).getD k 0).toNat 0)) an) (zAe 1 (zAc (zAj 4 (zAb (zAa (zAe 3 (zAc (zBo (n+bal.getD ((G.getD i []).getD k 0).toNat 0>0) (by omega) (zAb (zAa (zAe 3 (zAc (zA6 (n+bal.getD ((G.getD i []).getD k 0).toNat 0<0) (by omega) (zAa (zAe 4 (S_a [(1,.v (I (↑(k+1):Int)))] (ap ((zAy (by omega) (by omega)):I (IntKind.i64.wrap ((↑k:Int)+1))=I (↑(k+1):Int)) an) (S_a [(2,.ob),(1,.n (k+1))] (ap ((by exact zAp (by omega)):decide (k+1<(G.getD i []).length)=true) (ap ((by simp):some (0+(k+1))=some (k+1)) an)) (S_a [(0,.cs false ([I ((G.getD i []).getD (k+1) 0)]))] (ap (zBw (q:=PV.own 1 (List.map I (G.getD i []))) (xs:=List.map I (G.getD i [])) (x:=I ((G.getD i []).getD (k+1) 0)) (zBt (xs:=List.map zAg G) (x:=PV.own 1 (List.map I (G.getD i []))) (y:=PV.own 1 (List.map I (G.getD i []))) (zAR ([]) (by omega)) rfl) (zAR (0) (by omega)):zAk 17 (PV.own 1 (List.map zAg G)) [(i,0)] (k+1) 0 1=some (false,[I ((G.getD i []).getD (k+1) 0)])) an) (zAe 1 (S_a [(0,.v (I (0-(n+bal.getD ((G.getD i []).getD k 0).toNat 0))))] (ap ((zAy rfl (by omega)):I (IntKind.i64.wrap (0-(n+bal.getD ((G.getD i []).getD k 0).toNat 0)))=I (0-(n+bal.getD ((G.getD i []).getD k 0).toNat 0))) an) (zAe 2 (S_a [(4,.ob),(0,.ob),(0,.yes),(2,.v (PV.own 3 (List.map zA1 (q2++[{src:=(G.getD i []).getD k 0,dst:=(G.getD i []).getD (k+1) 0,coins:=0-(n+bal.getD ((G.getD i []).getD k 0).toNat 0)}]))))] (ap ((by exact zAs (by simp only [List.length_map,zzLn,zAv]<;>omega)):(0+(List.map zA1 q2).length).ble (List.map zA1 q2).length=true) (ap ((by exact zAs (by simp only [List.length_map,zzLn,zAv]<;>omega)):((List.map zA1 q2).length + [PV.agg [I ((G.getD i []).getD k 0),I ((G.getD i []).getD (k+1) 0),I (0-(n+bal.getD ((G.getD i []).getD k 0).toNat 0))]].length).ble zAv=true) (ap ((by exact zBH (by simp<;>omega)):(0+(List.map zA1 q2).length).beq (List.map zA1 q2).length=true) (ap ((by simp):PV.own 3 (List.map zA1 q2++[PV.agg [I ((G.getD i []).getD k 0),I ((G.getD i []).getD (k+1) 0),I (0-(n+bal.getD ((G.getD i []).getD k 0).toNat 0))]])=PV.own 3 (List.map zA1 (q2++[{src:=(G.getD i []).getD k 0,dst:=(G.getD i []).getD (k+1) 0,coins:=0-(n+bal.getD ((G.getD i []).getD k 0).toNat 0)}]))) an)))) (zAe 1 (zAc (zAa (S_a [(1,.v (I (↑(k+1):Int)))] (ap ((zAy (by omega) (by omega)):I (IntKind.i64.wrap ((↑k:Int)+1))=I (↑(k+1):Int)) an) (zAe 1 (zAc ?_)))))))))))))))))))))))))))))))))))))))))))))))))
      exact ⟨(k+1,n+bal.getD ((G.getD i []).getD k 0).toNat 0,q2++[⟨(G.getD i []).getD k 0,(G.getD i []).getD (k+1) 0,0-(n+bal.getD ((G.getD i []).getD k 0).toNat 0)⟩]),⟨by omega,qZ.symm,kP,by rw [List.length_append,List.length_singleton];omega⟩,by simp only;omega,by kernel_rfl,by kernel_rfl⟩
     ·rw [if_neg hneg,List.nil_append] at yQ
      rw [yQ] at kP
      clear yQ hq jU yd hw
      refine zAb (zAa (zAe 1 (zAc (zAb (zA6 ((↑k:Int)<(↑((↑((G.getD i []).length-1):Int).toNat-0):Int)) (by omega) (zAl (zAb (zAj 3 (zAb (zAa (zAe 1 (S_a [(2,.ob),(1,.n (k))] (ap ((by exact zAp (by omega)):decide (k<(↑((G.getD i []).length-1):Int).toNat-0)=true) (ap ((by simp):some (0+k)=some k) an)) (S_a [(0,.cs false ([I ((G.getD i []).getD k 0)]))] (ap (zBw (q:=PV.own 1 (List.map I (G.getD i []))) (xs:=List.map I (G.getD i [])) (x:=I ((G.getD i []).getD k 0)) (zBt (xs:=List.map zAg G) (x:=PV.own 1 (List.map I (G.getD i []))) (y:=PV.own 1 (List.map I (G.getD i []))) (zAR ([]) (by omega)) rfl) (zAR (0) (by omega)):zAk 17 (PV.own 1 (List.map zAg G)) [(i,0)] k 0 1=some (false,[I ((G.getD i []).getD k 0)])) an) (zAe 2 (zAc (zAb (zAa (zAe 3 (S_a [(0,.ob),(1,.v (I (bal.getD ((G.getD i []).getD k 0).toNat 0)))] (ap ((by exact zAp (by omega)):decide (0≤(G.getD i []).getD k 0)=true) (ap (zAR (0) (by omega):(List.map I bal)[((G.getD i []).getD k 0).toNat]? = some (I (bal.getD ((G.getD i []).getD k 0).toNat 0))) an)) (zAe 1 (S_a [(1,.v (I (n+bal.getD ((G.getD i []).getD k 0).toNat 0)))] (ap ((zAy rfl (by omega)):I (IntKind.i64.wrap (n+bal.getD ((G.getD i []).getD k 0).toNat 0))=I (n+bal.getD ((G.getD i []).getD k 0).toNat 0)) an) (zAe 1 (zAc (zAj 4 (zAb (zAa (zAe 3 (zAc (zBo (n+bal.getD ((G.getD i []).getD k 0).toNat 0>0) (by omega) (zAb (zAa (zAe 3 (zAc (zBo (n+bal.getD ((G.getD i []).getD k 0).toNat 0<0) (by omega) (zAl (zAa (S_a [(1,.v (I (↑(k+1):Int)))] (ap ((zAy (by omega) (by omega)):I (IntKind.i64.wrap ((↑k:Int)+1))=I (↑(k+1):Int)) an) (zAe 1 (zAc ?_)))))))))))))))))))))))))))))))))))))))
      exact ⟨(k+1,n+bal.getD ((G.getD i []).getD k 0).toNat 0,q2),⟨by omega,qZ.symm,kP,by omega⟩,by simp only;omega,by kernel_rfl,by kernel_rfl⟩
   ·rw [zUq (by omega),List.append_nil] at kP
    clear hq jU yd hn uC
    refine zAb (zAa (zAe 1 (zAc (zAb (zBo ((↑k:Int)<(↑((↑((G.getD i []).length-1):Int).toNat-0):Int)) (by omega) (zA9 2 (zAa (S_a [(1,.v (I (↑(i+1):Int)))] (ap ((zAy (by omega) (by omega)):I (IntKind.i64.wrap ((↑i:Int)+1))=I (↑(i+1):Int)) an) (zAe 1 (zAc ?_))))))))))
    exact ⟨(i+1,q2),⟨by omega,kP,by omega⟩,by simp only;omega,by kernel_rfl,by kernel_rfl⟩
  ·rw [List.take_of_length_le (by omega)] at hq
   rw [← hq]
   refine zAb (zAa (zAe 1 (zAc (zAb (zBo ((↑i:Int)<(↑G.length:Int)) (by omega) (zA9 0 (zAb (zAa (zAe 1 (S_a [(2,.yes)] (ap ((by exact zBH (by simp<;>omega)):(Nat.beq 0 0&&(List.map zA1 q).length.beq (List.map zA1 q).length)=true) an) (zAe 1 (zAc (zAD (E_a [(1,.yes),(1,.v (PV.own 3 (List.map zA1 q)))] (ap ((by exact zAs (by simp only [List.length_map,zzLn,zAv]<;>omega)):(0+(List.map zA1 q).length).ble (List.map zA1 q).length=true) (ap ((zFy zDE):PV.own 3 (List.take (List.map zA1 q).length (List.drop 0 (List.map zA1 q)))=PV.own 3 (List.map zA1 q)) an)) (PV.tup [PV.own 3 (List.map zA1 q),I 0]) ([]) rfl rfl))))))))))))))
 ·have e:zSx bal=[]:=by simp only [zSx,h,if_false]
  rw [e]
  refine zAi Try.f48 ?_
  refine zAb (zAa (zAe 2 (zAc (zAb (zAb (zAa (zAe 1 (S_a [(6,.ret (I (zBe bal)) ([]))] (ap (h108) an) (zAe 1 (zAc (zAb (zAa (zAe 2 (zAc (zEb (zBe bal=0) (by omega) (zAb (zAa (zAe 3 (zAc (zAD (E_a [] an (PV.tup [PV.own 3 [],I (zBe bal)]) ([]) rfl rfl)))))))))))))))))))))
end
end Go.Eng
set_option maxRecDepth 10000
set_option maxHeartbeats 4000000
namespace Go.Eng
open Go Go.Proofs
theorem zQb {a b:Int}:(if b>a then b else a)=max a b:=by split<;>omega
theorem zMi {bal sums:List Int} {j:Nat} (hj:j<bal.length) (h0:bal.getD j 0=0):zBF bal (bal.length-j) sums=zBF bal (bal.length-(j+1)) sums:=by
 obtain ⟨k,hk⟩:∃ k,bal.length-j=k+1:=⟨bal.length-j-1,by omega⟩
 rw [hk,zBF,show bal.length-(k+1)=j by omega,if_pos h0,show bal.length-(j+1)=k by omega]
theorem zLu {bal sums:List Int} {j:Nat} (hj:j<bal.length) (h0:¬ bal.getD j 0=0):zBF bal (bal.length-j) sums=max ((List.range sums.length).foldl (fun b g=>max b (zBF bal (bal.length-(j+1)) (sums.set g (sums.getD g 0+bal.getD j 0)))) (-1)) (zBF bal (bal.length-(j+1)) (sums++[bal.getD j 0])):=by
 obtain ⟨k,hk⟩:∃ k,bal.length-j=k+1:=⟨bal.length-j-1,by omega⟩
 rw [hk,zBF,show bal.length-(k+1)=j by omega,if_neg h0,show bal.length-(j+1)=k by omega]
theorem zN9 {bal sums:List Int} {j:Nat} (hj:j=bal.length):zBF bal (bal.length-j) sums=if sums.all (fun s=>decide (s=0))=true then (sums.length:Int) else -1:=by
 rw [hj,Nat.sub_self,zBF]
def zL3 (i:Nat) (sums:List Int):Prop:=sums.length≤i∧∀ s∈sums,-(100000*(i:Int))≤s∧s≤100000*i
theorem zUW {i j:Nat} {sums:List Int} (h:zL3 i sums) (hij:i≤j):zL3 j sums:=⟨by have:=h.1;omega,fun s hs=>by have:=h.2 s hs;omega⟩
theorem zTY {j g:Nat} {sums:List Int} {x:Int} (h:zL3 j sums) (hx : -100000≤x∧x≤100000) (hg:g<sums.length):zL3 (j+1) (sums.set g (sums.getD g 0+x)):=by
 refine ⟨by have:=h.1;rw [List.length_set];omega,fun s hs=>?_⟩
 rcases List.mem_or_eq_of_mem_set hs with hs | rfl
 ·have:=h.2 s hs;omega
 ·have:=zBI h.2 g hg;omega
theorem zQz {j:Nat} {sums:List Int} {x:Int} (h:zL3 j sums) (hx : -100000≤x∧x≤100000):zL3 (j+1) (sums++[x]):=by
 refine ⟨by have:=h.1;rw [List.length_append,List.length_singleton];omega,fun s hs=>?_⟩
 rcases List.mem_append.1 hs with hs | hs
 ·have:=h.2 s hs;omega
 ·rw [List.mem_singleton] at hs;subst hs;omega
section
variable [Yo]
theorem f51 (bal:List Int) (hb:∀ x∈bal,-100000≤x∧x≤100000) (kW:bal.length≤8):∀ (k i:Nat) (sums:List Int),i+k=bal.length→zL3 i sums→FG 51 [zB2 bal,I i,zB2 sums] (I (zBF bal (bal.length-i) sums)):=by
 intro k
 induction k using Nat.strongRecOn with
 | ind k ih =>
  intro i sums hi hs
  refine zAi Try.f51 ?_
  refine zAb (zAa (zAe 1 (zAc (zAb (zAj 0 ?_)))))
  refine zAX (fun j=>i≤j∧j≤bal.length∧zBF bal (bal.length-j) sums=zBF bal (bal.length-i) sums) (fun j=>[(1,I (j:Nat))]) (fun j=>bal.length-j) i ⟨Nat.le_refl _,by omega,rfl⟩ fun j ⟨hj1,hj2,hj3⟩=>?_
  have hsj:=zUW hs hj1
  have j0:=hsj.1
  rw [← hj3]
  clear hj3
  by_cases jZ:j<bal.length
  ·have hx:=zBI hb j jZ
   by_cases h0:bal.getD j 0=0
   ·have hsk:=zMi (sums:=sums) jZ h0
    refine zAb (zAb (zAa (zAe 2 (S_a [(0,.n (bal.length))] (ap ((by simp):some (List.map I bal).length=some bal.length) an) (zAe 2 (zDF 15 ((↑j:Int)<(↑bal.length:Int)) (by omega) (zAe 2 (S_a [(2,.v (I (bal.getD j 0)))] (ap (zAR (0) (by omega):(List.map I bal)[j]? = some (I (bal.getD j 0))) an) (zAe 3 (zAc (zA6 (bal.getD j 0=0) (by omega) (zAl (zAj 1 (zAa (zAe 1 (S_a [(1,.v (I (↑(j+1):Int)))] (ap ((zAy (by omega) (by omega)):I (IntKind.i64.wrap ((↑j:Int)+1))=I (↑(j+1):Int)) an) (zAe 1 (zAc ?_))))))))))))))))))
    exact ⟨j+1,⟨by omega,by omega,hsk.symm⟩,by omega,by kernel_rfl,by kernel_rfl⟩
   ·rw [zLu jZ h0]
    refine zAb (zAb (zAa (zAe 2 (S_a [(0,.n (bal.length))] (ap ((by simp):some (List.map I bal).length=some bal.length) an) (zAe 2 (zDF 15 ((↑j:Int)<(↑bal.length:Int)) (by omega) (zAe 2 (S_a [(2,.v (I (bal.getD j 0)))] (ap (zAR (0) (by omega):(List.map I bal)[j]? = some (I (bal.getD j 0))) an) (zAe 3 (zAc (zBo (bal.getD j 0=0) (by omega) (zA9 0 (zAb (zAb (zAa (zAe 2 (S_a [(0,.n (bal.length))] (ap ((by simp):some (List.map I bal).length=some bal.length) an) (zAe 1 (zAc (zBo ((↑j:Int)=(↑bal.length:Int)) (by omega) (zAl (zAb (zAa (zAe 1 (zAc (zAb (zAb (zAa (zAe 1 (zAc (zAj 4 ?_)))))))))))))))))))))))))))))))
    refine zAX (fun (g,b)=>g≤sums.length∧b=(List.range g).foldl (fun b g=>max b (zBF bal (bal.length-(j+1)) (sums.set g (sums.getD g 0+bal.getD j 0)))) (-1)) (fun (g,b)=>[(8,I b),(9,I (g:Nat))]) (fun (g,_)=>sums.length-g) ((0:Nat),(-1:Int)) ⟨Nat.zero_le _,rfl⟩ fun (g,b) ⟨hg,hbe⟩=>?_
    by_cases uo:g<sums.length
    ·have y6:=zBI hsj.2 g uo
     have ihg:=ih (bal.length-(j+1)) (by omega) (j+1) _ (by omega) (zTY hsj hx uo)
     have jU:(List.range (g+1)).foldl (fun b g=>max b (zBF bal (bal.length-(j+1)) (sums.set g (sums.getD g 0+bal.getD j 0)))) (-1)=(if zBF bal (bal.length-(j+1)) (sums.set g (sums.getD g 0+bal.getD j 0))>b then zBF bal (bal.length-(j+1)) (sums.set g (sums.getD g 0+bal.getD j 0)) else b):=by
      rw [List.range_succ,List.foldl_append,← hbe,zQb];rfl
     clear ih hbe
     generalize zBF bal (bal.length-(j+1)) (sums.set g (sums.getD g 0+bal.getD j 0))=x at *
     refine zAb (zAb (zAa (zAe 2 (S_a [(0,.n (sums.length))] (ap ((by simp):some (List.map I sums).length=some sums.length) an) (zAe 1 (zAc (zA6 ((↑g:Int)<(↑sums.length:Int)) (by omega) (zAl (zAb (zAj 5 (zAb (zAa (zAe 2 (S_a [(0,.ob),(0,.ob),(0,.ob),(3,.ob)] (ap ((by exact all_map _):((List.map I sums).all fun x=>x.plain)=true) (ap ((by exact all_map _):((List.map I sums).all fun y=>y.cells.length.beq ((fun x=>x.size) Try.prog.types[3])&&y.cells.all fun q=>q.oneCell)=true) (ap ((by exact List.isEmpty_iff.2 (zMI _)):(zBB (List.map I sums)).isEmpty=true) (ap ((by exact zAs (by simp only [List.length_map,zzLn,zAv]<;>omega)):(0+(List.map I sums).length).ble zAv=true) an)))) (zAe 1 (zAc (zAb (zAa (zAe 4 (S_a [(2,.ob),(1,.n (g))] (ap ((by exact zAp (by simp only [List.length_map,zzLn]<;>omega)):decide (g<([]++List.map I sums).length)=true) (ap ((by simp):some (0+g)=some g) an)) (S_a [(0,.cs false ([I (sums.getD g 0)]))] (ap (zBw (q:=PV.own 1 ([]++List.map I sums)) (xs:=[]++List.map I sums) (x:=I (sums.getD g 0)) rfl (zAR (0) (by omega)):zAk 10 (PV.own 1 ([]++List.map I sums)) [] g 0 1=some (false,[I (sums.getD g 0)])) an) (zAe 2 (S_a [(2,.v (I (bal.getD j 0)))] (ap (zAR (0) (by omega):(List.map I bal)[j]? = some (I (bal.getD j 0))) an) (zAe 1 (S_a [(1,.v (I (sums.getD g 0+bal.getD j 0)))] (ap ((zAy rfl (by omega)):I (IntKind.i64.wrap (sums.getD g 0+bal.getD j 0))=I (sums.getD g 0+bal.getD j 0)) an) (S_a [(2,.ob),(1,.n (g))] (ap ((by exact zAp (by simp only [List.length_map,zzLn]<;>omega)):decide (g<([]++List.map I sums).length)=true) (ap ((by simp):some (0+g)=some g) an)) (S_a [(8,.root (PV.own 1 (List.map I (sums.set g (sums.getD g 0+bal.getD j 0)))) true)] (ap (zLc (zAR (0) (by omega)) zDz:zA4 (PV.own 1 ([]++List.map I sums)) [] g 0 (I (sums.getD g 0+bal.getD j 0)).cells=some (PV.own 1 (List.map I (sums.set g (sums.getD g 0+bal.getD j 0))))∧zAq (PV.own 1 ([]++List.map I sums)) (PV.own 1 (List.map I (sums.set g (sums.getD g 0+bal.getD j 0)))) []=true) an) (zAc (zAa (zAe 3 (S_a [(1,.v (I (↑(j+1):Int)))] (ap ((zAy (by omega) (by omega)):I (IntKind.i64.wrap ((↑j:Int)+1))=I (↑(j+1):Int)) an) (zAe 1 (S_a [(7,.ob),(0,.v (PV.sl (List.map I (sums.set g (sums.getD g 0+bal.getD j 0))))),(2,.ret (I x) ([]))] (ap ((by exact zAs (by simp only [List.length_map,zzLn,zAv]<;>omega)):(0+(List.map I (sums.set g (sums.getD g 0+bal.getD j 0))).length).ble (List.map I (sums.set g (sums.getD g 0+bal.getD j 0))).length=true) (ap ((zB6 (zAM (zAE _))):PV.sl (zAr (List.take (List.map I (sums.set g (sums.getD g 0+bal.getD j 0))).length (List.drop 0 (List.map I (sums.set g (sums.getD g 0+bal.getD j 0))))))=PV.sl (List.map I (sums.set g (sums.getD g 0+bal.getD j 0)))) (ap (ihg) an))) (zAe 2 (zAc (zAa (zAe 1 (S_a [(1,.v (I (↑(g+1):Int)))] (ap ((zAy (by omega) (by omega)):I (IntKind.i64.wrap ((↑g:Int)+1))=I (↑(g+1):Int)) an) (zAe 1 (zAc ?_))))))))))))))))))))))))))))))))))))))))
     exact ⟨(g+1,if x>b then x else b),⟨by omega,jU.symm⟩,by simp only;omega,by kernel_rfl,by kernel_rfl⟩
    ·have qY:g=sums.length:=by omega
     have iha:=ih (bal.length-(j+1)) (by omega) (j+1) _ (by omega) (zQz hsj hx)
     rw [qY] at hbe
     rw [← hbe,← zQb]
     clear ih hbe
     generalize zBF bal (bal.length-(j+1)) (sums++[bal.getD j 0])=x at *
     refine zAb (zAb (zAa (zAe 2 (S_a [(0,.n (sums.length))] (ap ((by simp):some (List.map I sums).length=some sums.length) an) (zAe 1 (zAc (zBo ((↑g:Int)<(↑sums.length:Int)) (by omega) (zA9 4 (zAb (zAa (zAe 3 (S_a [(1,.v (I (↑(j+1):Int)))] (ap ((zAy (by omega) (by omega)):I (IntKind.i64.wrap ((↑j:Int)+1))=I (↑(j+1):Int)) an) (zAe 2 (S_a [(0,.ob),(0,.ob),(0,.ob),(3,.ob)] (ap ((by exact all_map _):((List.map I sums).all fun x=>x.plain)=true) (ap ((by exact all_map _):((List.map I sums).all fun y=>y.cells.length.beq ((fun x=>x.size) Try.prog.types[3])&&y.cells.all fun q=>q.oneCell)=true) (ap ((by exact List.isEmpty_iff.2 (zMI _)):(zBB (List.map I sums)).isEmpty=true) (ap ((by exact zAs (by simp only [List.length_map,zzLn,zAv]<;>omega)):(0+(List.map I sums).length).ble zAv=true) an)))) (zAe 2 (S_a [(2,.v (I (bal.getD j 0)))] (ap (zAR (0) (by omega):(List.map I bal)[j]? = some (I (bal.getD j 0))) an) (zAe 2 (S_a [(4,.ob),(0,.ob),(0,.yes),(2,.v (PV.own 1 (List.map I (sums++[bal.getD j 0]))))] (ap ((by exact zAs (by simp only [List.length_map,zzLn,zAv]<;>omega)):(0+([]++List.map I sums).length).ble ([]++List.map I sums).length=true) (ap ((by exact zAs (by simp only [List.length_map,zzLn,zAv]<;>omega)):(([]++List.map I sums).length + [I (bal.getD j 0)].length).ble zAv=true) (ap ((by exact zBH (by simp<;>omega)):(0+([]++List.map I sums).length).beq ([]++List.map I sums).length=true) (ap ((by simp):PV.own 1 ([]++List.map I sums++[I (bal.getD j 0)])=PV.own 1 (List.map I (sums++[bal.getD j 0]))) an)))) (S_a [(7,.ob),(0,.v (PV.sl (List.map I (sums++[bal.getD j 0])))),(2,.ret (I x) ([]))] (ap ((by exact zAs (by simp only [List.length_map,zzLn,zAv]<;>omega)):(0+(List.map I (sums++[bal.getD j 0])).length).ble (List.map I (sums++[bal.getD j 0])).length=true) (ap ((zB6 (zAM (zAE _))):PV.sl (zAr (List.take (List.map I (sums++[bal.getD j 0])).length (List.drop 0 (List.map I (sums++[bal.getD j 0])))))=PV.sl (List.map I (sums++[bal.getD j 0]))) (ap (iha) an))) (zAe 2 (zAc (zAD (E_a [] an (I (if x>b then x else b)) ([]) rfl rfl)))))))))))))))))))))))
  ·have hje:j=bal.length:=by omega
   rw [zN9 hje]
   clear ih
   refine zAb (zAb (zAa (zAe 2 (S_a [(0,.n (bal.length))] (ap ((by simp):some (List.map I bal).length=some bal.length) an) (zAe 2 (zCo 15 ((↑j:Int)<(↑bal.length:Int)) (by omega) (zAe 6 (zAc (zBp (zA9 0 (zAb (zAb (zAa (zAe 2 (S_a [(0,.n (bal.length))] (ap ((by simp):some (List.map I bal).length=some bal.length) an) (zAe 1 (zAc (zA6 ((↑j:Int)=(↑bal.length:Int)) (by omega) (zAb (zAb (zAa (zAe 1 (zAc (zAj 2 ?_))))))))))))))))))))))))
   refine zAX (fun g=>g≤sums.length∧∀ c,c<g→sums.getD c 0=0) (fun g=>[(7,I (g:Nat))]) (fun g=>sums.length-g) (0:Nat) ⟨Nat.zero_le _,fun c hc=>absurd hc (Nat.not_lt_zero _)⟩ fun g ⟨hg,hz⟩=>?_
   by_cases uo:g<sums.length
   ·by_cases LE:sums.getD g 0=0
    ·refine zAb (zAb (zAa (zAe 2 (S_a [(0,.n (sums.length))] (ap ((by simp):some (List.map I sums).length=some sums.length) an) (zAe 1 (zAc (zA6 ((↑g:Int)<(↑sums.length:Int)) (by omega) (zAl (zAb (zAj 3 (zAb (zAa (zAe 2 (S_a [(2,.v (I (sums.getD g 0)))] (ap (zAR (0) (by omega):(List.map I sums)[g]? = some (I (sums.getD g 0))) an) (zAe 2 (zAc (zEu (sums.getD g 0=0) (by omega) (zAl (zAa (zAe 1 (S_a [(1,.v (I (↑(g+1):Int)))] (ap ((zAy (by omega) (by omega)):I (IntKind.i64.wrap ((↑g:Int)+1))=I (↑(g+1):Int)) an) (zAe 1 (zAc ?_)))))))))))))))))))))))
     exact ⟨g+1,⟨by omega,fun c hc=>by
      rcases Nat.lt_succ_iff_lt_or_eq.1 hc with h | rfl
      ·exact hz c h
      ·exact LE⟩,by omega,by kernel_rfl,by kernel_rfl⟩
    ·rw [if_neg (by rw [zP5 (p:=fun s=>decide (s=0)) (d:=0) uo (by simpa using LE)];exact Bool.false_ne_true)]
     refine zAb (zAb (zAa (zAe 2 (S_a [(0,.n (sums.length))] (ap ((by simp):some (List.map I sums).length=some sums.length) an) (zAe 1 (zAc (zA6 ((↑g:Int)<(↑sums.length:Int)) (by omega) (zAl (zAb (zAj 3 (zAb (zAa (zAe 2 (S_a [(2,.v (I (sums.getD g 0)))] (ap (zAR (0) (by omega):(List.map I sums)[g]? = some (I (sums.getD g 0))) an) (zAe 2 (zAc (zEb (sums.getD g 0=0) (by omega) (zAb (zAa (zAe 1 (zAc (zAD (E_a [] an (I (-1)) ([]) rfl rfl)))))))))))))))))))))))
   ·rw [if_pos (zNy (p:=fun s=>decide (s=0)) (d:=0) fun c hc=>by simpa using hz c (by omega))]
    refine zAb (zAb (zAa (zAe 2 (S_a [(0,.n (sums.length))] (ap ((by simp):some (List.map I sums).length=some sums.length) an) (zAe 1 (zAc (zBo ((↑g:Int)<(↑sums.length:Int)) (by omega) (zA9 2 (zAb (zAa (zAe 1 (S_a [(0,.n (sums.length))] (ap ((by simp):some (List.map I sums).length=some sums.length) an) (zAe 1 (zAc (zAD (E_a [] an (I (↑sums.length:Int)) ([]) rfl rfl))))))))))))))))
theorem f51n (bal:List Int) (hb:∀ x∈bal,-100000≤x∧x≤100000) (kW:bal.length≤8):FG 51 [zB2 bal,I 0,.nils 0] (I (zBF bal bal.length [])):=by
 have e0:zBF bal bal.length []=zBF bal (bal.length-0) []:=rfl
 rw [e0]
 refine zAi Try.f51 ?_
 refine zAb (zAa (zAe 1 (zAc (zAb (zAj 0 ?_)))))
 refine zAX (fun j=>j≤bal.length∧zBF bal (bal.length-j) []=zBF bal (bal.length-0) []) (fun j=>[(1,I (j:Nat))]) (fun j=>bal.length-j) (0:Nat) ⟨by omega,rfl⟩ fun j ⟨hj2,hj3⟩=>?_
 rw [← hj3]
 clear hj3 e0
 have hs0:zL3 j []:=⟨Nat.zero_le _,fun s hs=>by cases hs⟩
 by_cases jZ:j<bal.length
 ·have hx:=zBI hb j jZ
  by_cases h0:bal.getD j 0=0
  ·have hsk:=zMi (sums:=[]) jZ h0
   refine zAb (zAb (zAa (zAe 2 (S_a [(0,.n (bal.length))] (ap ((by simp):some (List.map I bal).length=some bal.length) an) (zAe 2 (zDF 15 ((↑j:Int)<(↑bal.length:Int)) (by omega) (zAe 2 (S_a [(2,.v (I (bal.getD j 0)))] (ap (zAR (0) (by omega):(List.map I bal)[j]? = some (I (bal.getD j 0))) an) (zAe 3 (zAc (zA6 (bal.getD j 0=0) (by omega) (zAl (zAj 1 (zAa (zAe 1 (S_a [(1,.v (I (↑(j+1):Int)))] (ap ((zAy (by omega) (by omega)):I (IntKind.i64.wrap ((↑j:Int)+1))=I (↑(j+1):Int)) an) (zAe 1 (zAc ?_))))))))))))))))))
   exact ⟨j+1,⟨by omega,hsk.symm⟩,by omega,by kernel_rfl,by kernel_rfl⟩
  ·rw [zLu jZ h0]
   have iha:=f51 bal hb kW (bal.length-(j+1)) (j+1) _ (by omega) (zQz hs0 hx)
   rw [List.nil_append] at iha ⊢
   rw [← zQb]
   generalize hxx:zBF bal (bal.length-(j+1)) [bal.getD j 0]=x at *
   refine zAb (zAb (zAa (zAe 2 (S_a [(0,.n (bal.length))] (ap ((by simp):some (List.map I bal).length=some bal.length) an) (zAe 2 (zDF 15 ((↑j:Int)<(↑bal.length:Int)) (by omega) (zAe 2 (S_a [(2,.v (I (bal.getD j 0)))] (ap (zAR (0) (by omega):(List.map I bal)[j]? = some (I (bal.getD j 0))) an) (zAe 3 (zAc (zBo (bal.getD j 0=0) (by omega) (zA9 0 (zAb (zAb (zAa (zAe 2 (S_a [(0,.n (bal.length))] (ap ((by simp):some (List.map I bal).length=some bal.length) an) (zAe 1 (zAc (zBo ((↑j:Int)=(↑bal.length:Int)) (by omega) (zAl (zAb (zAa (zAe 1 (zAc (zAb (zAb (zAa (zAe 1 (zAc (zAj 4 ?_)))))))))))))))))))))))))))))))
   refine zAX (fun g=>g=0) (fun g=>[(9,I (g:Nat))]) (fun g=>0-g) (0:Nat) rfl fun g hg=>?_
   subst hg
   refine zAb (zAb (zAa (zAe 4 (zAc (zBp (zA9 4 (zAb (zAa (zAe 3 (S_a [(1,.v (I (↑(j+1):Int)))] (ap ((zAy (by omega) (by omega)):I (IntKind.i64.wrap ((↑j:Int)+1))=I (↑(j+1):Int)) an) (zAe 5 (S_a [(2,.v (I (bal.getD j 0)))] (ap (zAR (0) (by omega):(List.map I bal)[j]? = some (I (bal.getD j 0))) an) (zAe 3 (S_a [(11,.ret (I x) ([]))] (ap (iha) an) (zAe 2 (zAc (zAD (E_a [] an (I (if x > -1 then x else -1)) ([]) rfl rfl))))))))))))))))))
 ·have hje:j=bal.length:=by omega
  rw [zN9 hje]
  refine zAb (zAb (zAa (zAe 2 (S_a [(0,.n (bal.length))] (ap ((by simp):some (List.map I bal).length=some bal.length) an) (zAe 2 (zCo 15 ((↑j:Int)<(↑bal.length:Int)) (by omega) (zAe 6 (zAc (zBp (zA9 0 (zAb (zAb (zAa (zAe 2 (S_a [(0,.n (bal.length))] (ap ((by simp):some (List.map I bal).length=some bal.length) an) (zAe 1 (zAc (zA6 ((↑j:Int)=(↑bal.length:Int)) (by omega) (zAb (zAb (zAa (zAe 1 (zAc (zAj 2 ?_))))))))))))))))))))))))
  refine zAX (fun g=>g=0) (fun g=>[(7,I (g:Nat))]) (fun g=>0-g) (0:Nat) rfl fun g hg=>?_
  subst hg
  refine zAb (zAb (zAa (zAe 4 (zAc (zBp (zA9 2 (zAb (zAa (zAe 3 (zAc (zAD (E_a [] an (I (↑0:Int)) ([]) rfl rfl))))))))))))
end
end Go.Eng
set_option maxRecDepth 10000
set_option maxHeartbeats 4000000
namespace Go.Eng
open Go Go.Proofs
theorem zUw {bal:List Int} {l:List Pay} (hb:∀ x∈bal,-100000≤x∧x≤100000) (hl:∀ p∈l,zFg bal.length p) (hn:l.length≤100) {c:Nat} (hc:c<bal.length) : -1000000000≤zJz bal l c∧zJz bal l c≤1000000000:=by
 have h1:=zND (who:=(c:Int)) hl
 have h2:=zBI hb c hc
 unfold zJz;omega
theorem zPM {bal:List Int} {l:List Pay} {i w:Nat} (h:i<l.length):zJz bal (l.take (i+1)) w=zJz bal (l.take i) w+((if (l.getD i default).src=w then (l.getD i default).coins else 0)-(if (l.getD i default).dst=w then (l.getD i default).coins else 0)):=by
 unfold zJz;rw [zMd h];unfold zRq;omega
section
variable [Yo]
theorem f46 (bal:List Int) (l:List Pay) (hl:l.length≤100) (kW:bal.length<4294967296):FG 46 [zB2 bal,.sl (l.map zA1)] (.tup [.bool (zDl bal l),I (zBe bal)]):=by
 by_cases hb:zBe bal=0
 ·have gp:=zJS hb
  have hb8:=gp.len
  have h50:=f50 bal kW
  rw [hb] at h50 ⊢
  refine zAi Try.f46 ?_
  refine zAb (zAa (zAe 2 (zAc (zAb (zAb (zAa (zAe 1 (S_a [(6,.ret (I 0) ([]))] (ap (h50) an) (zAe 1 (zAc (zAb (zAa (zAe 2 (zAc (zBp (zAl (zAb (zAb (zAa (zAe 1 (zAc (zAj 0 ?_))))))))))))))))))))))
  refine zAX (fun i=>i≤l.length∧∀ j,j<i→zFg bal.length (l.getD j default)) (fun i=>[(7,I (i:Nat))]) (fun i=>l.length-i) (0:Nat) ⟨Nat.zero_le _,fun j hj=>absurd hj (Nat.not_lt_zero _)⟩ fun i ⟨hi,hj⟩=>?_
  by_cases yU:i<l.length
  ·by_cases hp:zPq bal.length (l.getD i default)=true
   ·have gq:=zGC.1 hp
    have gO:=gq
    obtain ⟨p1,p2,p3,p4⟩:=gO
    have q1:(decide ((l.getD i default).src<0)||decide (((bal.length-1:Nat):Int)<(l.getD i default).src))=false:=by rw [Bool.or_eq_false_iff,decide_eq_false_iff_not,decide_eq_false_iff_not];omega
    have q2:(decide ((l.getD i default).dst<0)||decide (((bal.length-1:Nat):Int)<(l.getD i default).dst))=false:=by rw [Bool.or_eq_false_iff,decide_eq_false_iff_not,decide_eq_false_iff_not];omega
    have q3:(decide ((l.getD i default).coins<1)||decide (1000000<(l.getD i default).coins))=false:=by rw [Bool.or_eq_false_iff,decide_eq_false_iff_not,decide_eq_false_iff_not];omega
    clear hp
    refine zAb (zAb (zAa (zAe 2 (S_a [(0,.n (l.length))] (ap ((by simp):some (List.map zA1 l).length=some l.length) an) (zAe 1 (zAc (zA6 ((↑i:Int)<(↑l.length:Int)) (by omega) (zAl (zAb (zAj 1 (zAb (zAa (zAe 2 (S_a [(2,.v (PV.agg [I (l.getD i default).src,I (l.getD i default).dst,I (l.getD i default).coins]))] (ap (zAR (default) (by omega):(List.map zA1 l)[i]? = some (PV.agg [I (l.getD i default).src,I (l.getD i default).dst,I (l.getD i default).coins])) an) (zAe 3 (S_a [(0,.n (bal.length))] (ap ((by simp):some (List.map I bal).length=some bal.length) an) (S_a [(1,.v (I (↑(bal.length-1):Int)))] (ap ((zAy (by omega) (by omega)):I (IntKind.i64.wrap ((↑bal.length:Int)-1))=I (↑(bal.length-1):Int)) an) (S_a [(10,.ret (PV.bool (decide ((l.getD i default).src<0)||decide ((↑(bal.length-1):Int)<(l.getD i default).src))) ([]))] (ap (f84 ((l.getD i default).src) (0) ((↑(bal.length-1):Int))) an) (zAe 1 (zC0 31 (decide ((l.getD i default).src<0)||decide ((↑(bal.length-1):Int)<(l.getD i default).src)) (fun k0=>(zAe 31 (zAc (zCb (zAb (zAa (zAe 2 (zAc (zAD (E_a [] an (PV.tup [PV.bool false,I 0]) ([]) ?_ rfl)))))))))) (fun k0=>(zAe 2 (S_a [(2,.v (PV.agg [I (l.getD i default).src,I (l.getD i default).dst,I (l.getD i default).coins]))] (ap (zAR (default) (by omega):(List.map zA1 l)[i]? = some (PV.agg [I (l.getD i default).src,I (l.getD i default).dst,I (l.getD i default).coins])) an) (zAe 3 (S_a [(0,.n (bal.length))] (ap ((by simp):some (List.map I bal).length=some bal.length) an) (S_a [(1,.v (I (↑(bal.length-1):Int)))] (ap ((zAy (by omega) (by omega)):I (IntKind.i64.wrap ((↑bal.length:Int)-1))=I (↑(bal.length-1):Int)) an) (S_a [(10,.ret (PV.bool (decide ((l.getD i default).dst<0)||decide ((↑(bal.length-1):Int)<(l.getD i default).dst))) ([]))] (ap (f84 ((l.getD i default).dst) (0) ((↑(bal.length-1):Int))) an) (zAe 2 (zC0 42 (decide ((l.getD i default).dst<0)||decide ((↑(bal.length-1):Int)<(l.getD i default).dst)) (fun k1=>(zAe 20 (zAc (zCb (zAb (zAa (zAe 2 (zAc (zAD (E_a [] an (PV.tup [PV.bool false,I 0]) ([]) ?_ rfl)))))))))) (fun k1=>(zAe 2 (S_a [(2,.v (PV.agg [I (l.getD i default).src,I (l.getD i default).dst,I (l.getD i default).coins]))] (ap (zAR (default) (by omega):(List.map zA1 l)[i]? = some (PV.agg [I (l.getD i default).src,I (l.getD i default).dst,I (l.getD i default).coins])) an) (zAe 4 (S_a [(2,.v (PV.agg [I (l.getD i default).src,I (l.getD i default).dst,I (l.getD i default).coins]))] (ap (zAR (default) (by omega):(List.map zA1 l)[i]? = some (PV.agg [I (l.getD i default).src,I (l.getD i default).dst,I (l.getD i default).coins])) an) (zAe 5 (zCo 55 ((l.getD i default).src=(l.getD i default).dst) (by omega) (zAe 2 (S_a [(2,.v (PV.agg [I (l.getD i default).src,I (l.getD i default).dst,I (l.getD i default).coins]))] (ap (zAR (default) (by omega):(List.map zA1 l)[i]? = some (PV.agg [I (l.getD i default).src,I (l.getD i default).dst,I (l.getD i default).coins])) an) (zAe 2 (S_a [(10,.ret (PV.bool (decide ((l.getD i default).coins<1)||decide (1000000<(l.getD i default).coins))) ([]))] (ap (f84 ((l.getD i default).coins) (1) (1000000)) an) (zAe 1 (zAc (zHP (decide ((l.getD i default).coins<1)||decide (1000000<(l.getD i default).coins)) (fun k2=>(zAb (zAa (zAe 2 (zAc (zAD (E_a [] an (PV.tup [PV.bool false,I 0]) ([]) ?_ rfl))))))) (fun k2=>(zAl (zAa (zAe 1 (S_a [(1,.v (I (↑(i+1):Int)))] (ap ((zAy (by omega) (by omega)):I (IntKind.i64.wrap ((↑i:Int)+1))=I (↑(i+1):Int)) an) (zAe 1 (zAc ?_))))))))))))))))))))))))))))))))))))))))))))))))))
    all_goals try first | (rw [q1] at k0;cases k0;done) | (rw [q2] at k1;cases k1;done) | (rw [q3] at k3;cases k3;done) | (rw [q3] at k2;cases k2;done) | exact absurd k2 p3
    exact ⟨i+1,⟨by omega,fun j wo=>by
     rcases Nat.lt_succ_iff_lt_or_eq.1 wo with h | rfl
     ·exact hj j h
     ·exact gq⟩,by omega,by kernel_rfl,by kernel_rfl⟩
   ·have hp:zPq bal.length (l.getD i default)=false:=by simpa using hp
    have hf:zDl bal l=false:=by simp only [zDl,hb,if_true,zKk,zP5 (p:=zPq bal.length) (d:=default) yU hp,Bool.false_and]
    rw [hf]
    have jQ:¬ zFg bal.length (l.getD i default):=fun h=>by rw [zGC.2 h] at hp;cases hp
    clear hp hf
    refine zAb (zAb (zAa (zAe 2 (S_a [(0,.n (l.length))] (ap ((by simp):some (List.map zA1 l).length=some l.length) an) (zAe 1 (zAc (zA6 ((↑i:Int)<(↑l.length:Int)) (by omega) (zAl (zAb (zAj 1 (zAb (zAa (zAe 2 (S_a [(2,.v (PV.agg [I (l.getD i default).src,I (l.getD i default).dst,I (l.getD i default).coins]))] (ap (zAR (default) (by omega):(List.map zA1 l)[i]? = some (PV.agg [I (l.getD i default).src,I (l.getD i default).dst,I (l.getD i default).coins])) an) (zAe 3 (S_a [(0,.n (bal.length))] (ap ((by simp):some (List.map I bal).length=some bal.length) an) (S_a [(1,.v (I ((↑bal.length:Int)-1)))] (ap ((zAy rfl (by omega)):I (IntKind.i64.wrap ((↑bal.length:Int)-1))=I ((↑bal.length:Int)-1)) an) (S_a [(10,.ret (PV.bool (decide ((l.getD i default).src<0)||decide ((↑bal.length:Int)-1<(l.getD i default).src))) ([]))] (ap (f84 ((l.getD i default).src) (0) ((↑bal.length:Int)-1)) an) (zAe 1 (zC0 31 (decide ((l.getD i default).src<0)||decide ((↑bal.length:Int)-1<(l.getD i default).src)) (fun k0=>(zAe 31 (zAc (zCb (zAb (zAa (zAe 2 (zAc (zAD (E_a [] an (PV.tup [PV.bool false,I 0]) ([]) rfl rfl)))))))))) (fun k0=>(zAe 2 (S_a [(2,.v (PV.agg [I (l.getD i default).src,I (l.getD i default).dst,I (l.getD i default).coins]))] (ap (zAR (default) (by omega):(List.map zA1 l)[i]? = some (PV.agg [I (l.getD i default).src,I (l.getD i default).dst,I (l.getD i default).coins])) an) (zAe 3 (S_a [(0,.n (bal.length))] (ap ((by simp):some (List.map I bal).length=some bal.length) an) (S_a [(1,.v (I ((↑bal.length:Int)-1)))] (ap ((zAy rfl (by omega)):I (IntKind.i64.wrap ((↑bal.length:Int)-1))=I ((↑bal.length:Int)-1)) an) (S_a [(10,.ret (PV.bool (decide ((l.getD i default).dst<0)||decide ((↑bal.length:Int)-1<(l.getD i default).dst))) ([]))] (ap (f84 ((l.getD i default).dst) (0) ((↑bal.length:Int)-1)) an) (zAe 2 (zC0 42 (decide ((l.getD i default).dst<0)||decide ((↑bal.length:Int)-1<(l.getD i default).dst)) (fun k1=>(zAe 20 (zAc (zCb (zAb (zAa (zAe 2 (zAc (zAD (E_a [] an (PV.tup [PV.bool false,I 0]) ([]) rfl rfl)))))))))) (fun k1=>(zAe 2 (S_a [(2,.v (PV.agg [I (l.getD i default).src,I (l.getD i default).dst,I (l.getD i default).coins]))] (ap (zAR (default) (by omega):(List.map zA1 l)[i]? = some (PV.agg [I (l.getD i default).src,I (l.getD i default).dst,I (l.getD i default).coins])) an) (zAe 4 (S_a [(2,.v (PV.agg [I (l.getD i default).src,I (l.getD i default).dst,I (l.getD i default).coins]))] (ap (zAR (default) (by omega):(List.map zA1 l)[i]? = some (PV.agg [I (l.getD i default).src,I (l.getD i default).dst,I (l.getD i default).coins])) an) (zAe 5 (zI2 55 ((l.getD i default).src=(l.getD i default).dst) (fun k2=>(zAe 7 (zAc (zCb (zAb (zAa (zAe 2 (zAc (zAD (E_a [] an (PV.tup [PV.bool false,I 0]) ([]) rfl rfl)))))))))) (fun k2=>(zAe 2 (S_a [(2,.v (PV.agg [I (l.getD i default).src,I (l.getD i default).dst,I (l.getD i default).coins]))] (ap (zAR (default) (by omega):(List.map zA1 l)[i]? = some (PV.agg [I (l.getD i default).src,I (l.getD i default).dst,I (l.getD i default).coins])) an) (zAe 2 (S_a [(10,.ret (PV.bool (decide ((l.getD i default).coins<1)||decide (1000000<(l.getD i default).coins))) ([]))] (ap (f84 ((l.getD i default).coins) (1) (1000000)) an) (zAe 1 (zAc (zHP (decide ((l.getD i default).coins<1)||decide (1000000<(l.getD i default).coins)) (fun k3=>(zAb (zAa (zAe 2 (zAc (zAD (E_a [] an (PV.tup [PV.bool false,I 0]) ([]) rfl rfl))))))) (fun k3=>(zAl (zAa (zAe 1 (S_a [(1,.v (I (↑(i+1):Int)))] (ap ((zAy (by omega) (by omega)):I (IntKind.i64.wrap ((↑i:Int)+1))=I (↑(i+1):Int)) an) (zAe 1 (zAc ?_)))))))))))))))))))))))))))))))))))))))))))))))))))
    all_goals (exfalso;apply jQ;unfold zFg;simp only [Bool.or_eq_false_iff,decide_eq_false_iff_not] at k0 k1 k2 k3;omega)
  ·have jT:l.all (zPq bal.length)=true:=zNy (d:=default) fun j wo=>zGC.2 (hj j (by omega))
   have yD:∀ p∈l,zFg bal.length p:=fun p hp=>by
    obtain ⟨j,wo,rfl⟩:=List.getElem_of_mem hp
    have:=hj j (by omega)
    rwa [zAC wo] at this
   have yK:zDl bal l=(List.range bal.length).all fun who=>decide (zJz bal l who=0):=by
    simp only [zDl,hb,if_true,zKk,jT,Bool.true_and]
   rw [yK]
   clear yK jT hj
   refine zAb (zAb (zAa (zAe 2 (S_a [(0,.n (l.length))] (ap ((by simp):some (List.map zA1 l).length=some l.length) an) (zAe 1 (zAc (zBo ((↑i:Int)<(↑l.length:Int)) (by omega) (zA9 0 (zAb (zAb (zAa (zAe 1 (zAc (zAj 2 ?_))))))))))))))
   refine zAX (fun w=>w≤bal.length∧∀ c,c<w→zJz bal l c=0) (fun w=>[(8,I (w:Nat))]) (fun w=>bal.length-w) (0:Nat) ⟨Nat.zero_le _,fun j hj=>absurd hj (Nat.not_lt_zero _)⟩ fun w ⟨hw,hz⟩=>?_
   by_cases hwl:w<bal.length
   ·have qN:=zBI gp.rng w hwl
    refine zAb (zAb (zAa (zAe 2 (S_a [(0,.n (bal.length))] (ap ((by simp):some (List.map I bal).length=some bal.length) an) (zAe 1 (zAc (zA6 ((↑w:Int)<(↑bal.length:Int)) (by omega) (zAl (zAb (zAj 3 (zAb (zAa (zAe 2 (S_a [(2,.v (I (bal.getD w 0)))] (ap (zAR (0) (by omega):(List.map I bal)[w]? = some (I (bal.getD w 0))) an) (zAe 2 (zAc (zAb (zAb (zAa (zAe 1 (zAc (zAj 4 ?_))))))))))))))))))))))
    refine zAX (fun (i,n)=>i≤l.length∧n=zJz bal (l.take i) w) (fun (i,n)=>[(9,I n),(10,I (i:Nat))]) (fun (i,_)=>l.length-i) ((0:Nat),bal.getD w 0) ⟨Nat.zero_le _,by simp [zJz,zJG]⟩ fun (i,n) ⟨hi,hn⟩=>?_
    have qT:=zUw (l:=l.take i) gp.rng (fun p hp=>yD p (List.mem_of_mem_take hp)) (by rw [List.length_take];omega) hwl
    rw [← hn] at qT
    by_cases yU:i<l.length
    ·have jU:=zPM (bal:=bal) (w:=w) yU
     rw [← hn] at jU
     have hpc:=(yD (l.getD i default) (by rw [zAC yU];exact List.getElem_mem _)).2.2.2
     by_cases hs:(l.getD i default).src=w
     ·rw [if_pos hs] at jU
      by_cases hd:(l.getD i default).dst=w
      ·rw [if_pos hd] at jU
       refine zAb (zAb (zAa (zAe 2 (S_a [(0,.n (l.length))] (ap ((by simp):some (List.map zA1 l).length=some l.length) an) (zAe 1 (zAc (zA6 ((↑i:Int)<(↑l.length:Int)) (by omega) (zAl (zAb (zAj 5 (zAb (zAb (zAa (zAe 2 (S_a [(2,.v (PV.agg [I (l.getD i default).src,I (l.getD i default).dst,I (l.getD i default).coins]))] (ap (zAR (default) (by omega):(List.map zA1 l)[i]? = some (PV.agg [I (l.getD i default).src,I (l.getD i default).dst,I (l.getD i default).coins])) an) (zAe 4 (zAc (zA6 ((l.getD i default).src=(↑w:Int)) (by omega) (zAa (zAe 3 (S_a [(2,.v (PV.agg [I (l.getD i default).src,I (l.getD i default).dst,I (l.getD i default).coins]))] (ap (zAR (default) (by omega):(List.map zA1 l)[i]? = some (PV.agg [I (l.getD i default).src,I (l.getD i default).dst,I (l.getD i default).coins])) an) (zAe 2 (S_a [(1,.v (I (n+(l.getD i default).coins)))] (ap ((zAy rfl (by omega)):I (IntKind.i64.wrap (n+(l.getD i default).coins))=I (n+(l.getD i default).coins)) an) (zAe 1 (zAc (zAb (zAa (zAe 2 (S_a [(2,.v (PV.agg [I (l.getD i default).src,I (l.getD i default).dst,I (l.getD i default).coins]))] (ap (zAR (default) (by omega):(List.map zA1 l)[i]? = some (PV.agg [I (l.getD i default).src,I (l.getD i default).dst,I (l.getD i default).coins])) an) (zAe 4 (zAc (zA6 ((l.getD i default).dst=(↑w:Int)) (by omega) (zAa (zAe 3 (S_a [(2,.v (PV.agg [I (l.getD i default).src,I (l.getD i default).dst,I (l.getD i default).coins]))] (ap (zAR (default) (by omega):(List.map zA1 l)[i]? = some (PV.agg [I (l.getD i default).src,I (l.getD i default).dst,I (l.getD i default).coins])) an) (zAe 2 (S_a [(1,.v (I (n+(l.getD i default).coins-(l.getD i default).coins)))] (ap ((zAy rfl (by omega)):I (IntKind.i64.wrap (n+(l.getD i default).coins-(l.getD i default).coins))=I (n+(l.getD i default).coins-(l.getD i default).coins)) an) (zAe 1 (zAc (zAa (zAe 1 (S_a [(1,.v (I (↑(i+1):Int)))] (ap ((zAy (by omega) (by omega)):I (IntKind.i64.wrap ((↑i:Int)+1))=I (↑(i+1):Int)) an) (zAe 1 (zAc ?_))))))))))))))))))))))))))))))))))))))))))))
       exact ⟨(i+1,n+(l.getD i default).coins-(l.getD i default).coins),⟨by omega,by rw [jU];omega⟩,by simp only;omega,by kernel_rfl,by kernel_rfl⟩
      ·rw [if_neg hd] at jU
       refine zAb (zAb (zAa (zAe 2 (S_a [(0,.n (l.length))] (ap ((by simp):some (List.map zA1 l).length=some l.length) an) (zAe 1 (zAc (zA6 ((↑i:Int)<(↑l.length:Int)) (by omega) (zAl (zAb (zAj 5 (zAb (zAb (zAa (zAe 2 (S_a [(2,.v (PV.agg [I (l.getD i default).src,I (l.getD i default).dst,I (l.getD i default).coins]))] (ap (zAR (default) (by omega):(List.map zA1 l)[i]? = some (PV.agg [I (l.getD i default).src,I (l.getD i default).dst,I (l.getD i default).coins])) an) (zAe 4 (zAc (zA6 ((l.getD i default).src=(↑w:Int)) (by omega) (zAa (zAe 3 (S_a [(2,.v (PV.agg [I (l.getD i default).src,I (l.getD i default).dst,I (l.getD i default).coins]))] (ap (zAR (default) (by omega):(List.map zA1 l)[i]? = some (PV.agg [I (l.getD i default).src,I (l.getD i default).dst,I (l.getD i default).coins])) an) (zAe 2 (S_a [(1,.v (I (n+(l.getD i default).coins)))] (ap ((zAy rfl (by omega)):I (IntKind.i64.wrap (n+(l.getD i default).coins))=I (n+(l.getD i default).coins)) an) (zAe 1 (zAc (zAb (zAa (zAe 2 (S_a [(2,.v (PV.agg [I (l.getD i default).src,I (l.getD i default).dst,I (l.getD i default).coins]))] (ap (zAR (default) (by omega):(List.map zA1 l)[i]? = some (PV.agg [I (l.getD i default).src,I (l.getD i default).dst,I (l.getD i default).coins])) an) (zAe 4 (zAc (zBo ((l.getD i default).dst=(↑w:Int)) (by omega) (zAl (zAa (zAe 1 (S_a [(1,.v (I (↑(i+1):Int)))] (ap ((zAy (by omega) (by omega)):I (IntKind.i64.wrap ((↑i:Int)+1))=I (↑(i+1):Int)) an) (zAe 1 (zAc ?_))))))))))))))))))))))))))))))))))))))
       exact ⟨(i+1,n+(l.getD i default).coins),⟨by omega,by rw [jU];omega⟩,by simp only;omega,by kernel_rfl,by kernel_rfl⟩
     ·rw [if_neg hs] at jU
      by_cases hd:(l.getD i default).dst=w
      ·rw [if_pos hd] at jU
       refine zAb (zAb (zAa (zAe 2 (S_a [(0,.n (l.length))] (ap ((by simp):some (List.map zA1 l).length=some l.length) an) (zAe 1 (zAc (zA6 ((↑i:Int)<(↑l.length:Int)) (by omega) (zAl (zAb (zAj 5 (zAb (zAb (zAa (zAe 2 (S_a [(2,.v (PV.agg [I (l.getD i default).src,I (l.getD i default).dst,I (l.getD i default).coins]))] (ap (zAR (default) (by omega):(List.map zA1 l)[i]? = some (PV.agg [I (l.getD i default).src,I (l.getD i default).dst,I (l.getD i default).coins])) an) (zAe 4 (zAc (zBo ((l.getD i default).src=(↑w:Int)) (by omega) (zAl (zAb (zAa (zAe 2 (S_a [(2,.v (PV.agg [I (l.getD i default).src,I (l.getD i default).dst,I (l.getD i default).coins]))] (ap (zAR (default) (by omega):(List.map zA1 l)[i]? = some (PV.agg [I (l.getD i default).src,I (l.getD i default).dst,I (l.getD i default).coins])) an) (zAe 4 (zAc (zA6 ((l.getD i default).dst=(↑w:Int)) (by omega) (zAa (zAe 3 (S_a [(2,.v (PV.agg [I (l.getD i default).src,I (l.getD i default).dst,I (l.getD i default).coins]))] (ap (zAR (default) (by omega):(List.map zA1 l)[i]? = some (PV.agg [I (l.getD i default).src,I (l.getD i default).dst,I (l.getD i default).coins])) an) (zAe 2 (S_a [(1,.v (I (n-(l.getD i default).coins)))] (ap ((zAy rfl (by omega)):I (IntKind.i64.wrap (n-(l.getD i default).coins))=I (n-(l.getD i default).coins)) an) (zAe 1 (zAc (zAa (zAe 1 (S_a [(1,.v (I (↑(i+1):Int)))] (ap ((zAy (by omega) (by omega)):I (IntKind.i64.wrap ((↑i:Int)+1))=I (↑(i+1):Int)) an) (zAe 1 (zAc ?_))))))))))))))))))))))))))))))))))))))
       exact ⟨(i+1,n-(l.getD i default).coins),⟨by omega,by rw [jU];omega⟩,by simp only;omega,by kernel_rfl,by kernel_rfl⟩
      ·rw [if_neg hd] at jU
       refine zAb (zAb (zAa (zAe 2 (S_a [(0,.n (l.length))] (ap ((by simp):some (List.map zA1 l).length=some l.length) an) (zAe 1 (zAc (zA6 ((↑i:Int)<(↑l.length:Int)) (by omega) (zAl (zAb (zAj 5 (zAb (zAb (zAa (zAe 2 (S_a [(2,.v (PV.agg [I (l.getD i default).src,I (l.getD i default).dst,I (l.getD i default).coins]))] (ap (zAR (default) (by omega):(List.map zA1 l)[i]? = some (PV.agg [I (l.getD i default).src,I (l.getD i default).dst,I (l.getD i default).coins])) an) (zAe 4 (zAc (zBo ((l.getD i default).src=(↑w:Int)) (by omega) (zAl (zAb (zAa (zAe 2 (S_a [(2,.v (PV.agg [I (l.getD i default).src,I (l.getD i default).dst,I (l.getD i default).coins]))] (ap (zAR (default) (by omega):(List.map zA1 l)[i]? = some (PV.agg [I (l.getD i default).src,I (l.getD i default).dst,I (l.getD i default).coins])) an) (zAe 4 (zAc (zBo ((l.getD i default).dst=(↑w:Int)) (by omega) (zAl (zAa (zAe 1 (S_a [(1,.v (I (↑(i+1):Int)))] (ap ((zAy (by omega) (by omega)):I (IntKind.i64.wrap ((↑i:Int)+1))=I (↑(i+1):Int)) an) (zAe 1 (zAc ?_))))))))))))))))))))))))))))))))
       exact ⟨(i+1,n),⟨by omega,by rw [jU];omega⟩,by simp only;omega,by kernel_rfl,by kernel_rfl⟩
    ·have hie:i=l.length:=by omega
     rw [hie,List.take_of_length_le (Nat.le_refl _)] at hn
     by_cases jk:n=0
     ·refine zAb (zAb (zAa (zAe 2 (S_a [(0,.n (l.length))] (ap ((by simp):some (List.map zA1 l).length=some l.length) an) (zAe 1 (zAc (zBo ((↑i:Int)<(↑l.length:Int)) (by omega) (zA9 4 (zAb (zAa (zAe 2 (zAc (zEu (n=0) (by omega) (zAl (zAa (zAe 1 (S_a [(1,.v (I (↑(w+1):Int)))] (ap ((zAy (by omega) (by omega)):I (IntKind.i64.wrap ((↑w:Int)+1))=I (↑(w+1):Int)) an) (zAe 1 (zAc ?_)))))))))))))))))))
      exact ⟨w+1,⟨by omega,fun c hc=>by
       rcases Nat.lt_succ_iff_lt_or_eq.1 hc with h | rfl
       ·exact hz c h
       ·rw [← hn];exact jk⟩,by omega,by kernel_rfl,by kernel_rfl⟩
     ·have hf:((List.range bal.length).all fun who=>decide (zJz bal l who=0))=false:=by
       rw [List.all_eq_false]
       exact ⟨w,List.mem_range.2 hwl,by rw [← hn];simpa using jk⟩
      rw [hf]
      refine zAb (zAb (zAa (zAe 2 (S_a [(0,.n (l.length))] (ap ((by simp):some (List.map zA1 l).length=some l.length) an) (zAe 1 (zAc (zBo ((↑i:Int)<(↑l.length:Int)) (by omega) (zA9 4 (zAb (zAa (zAe 2 (zAc (zEb (n=0) (by omega) (zAb (zAa (zAe 2 (zAc (zAD (E_a [] an (PV.tup [PV.bool false,I 0]) ([]) rfl rfl)))))))))))))))))))
   ·have ht:((List.range bal.length).all fun who=>decide (zJz bal l who=0))=true:=by
     rw [List.all_eq_true]
     intro c hc
     rw [List.mem_range] at hc
     simpa using hz c (by omega)
    rw [ht]
    refine zAb (zAb (zAa (zAe 2 (S_a [(0,.n (bal.length))] (ap ((by simp):some (List.map I bal).length=some bal.length) an) (zAe 1 (zAc (zBo ((↑w:Int)<(↑bal.length:Int)) (by omega) (zA9 2 (zAb (zAa (zAe 2 (zAc (zAD (E_a [] an (PV.tup [PV.bool true,I 0]) ([]) rfl rfl))))))))))))))
 ·have hv:zDl bal l=false:=by simp only [zDl,hb,if_false]
  rw [hv]
  refine zAi Try.f46 ?_
  refine zAb (zAa (zAe 2 (zAc (zAb (zAb (zAa (zAe 1 (S_a [(6,.ret (I (zBe bal)) ([]))] (ap (f50 (bal) (by omega)) an) (zAe 1 (zAc (zAb (zAa (zAe 2 (zAc (zEb (zBe bal=0) (by omega) (zAb (zAa (zAe 3 (zAc (zAD (E_a [] an (PV.tup [PV.bool false,I (zBe bal)]) ([]) rfl rfl)))))))))))))))))))))
theorem f47 (l:List Pay) (hl:l.length≤100):FG 47 [.sl (l.map zA1)] (.own 3 (l.map zA1)):=by
 refine zAi Try.f47 ?_
 refine zAb (zAa (zAe 1 (zAc (zAb (zAa (zAe 1 (zAc (zAb (zAb (zAa (zAe 1 (S_a [(0,.n (l.length))] (ap ((by simp):some (List.map zA1 l).length=some l.length) an) (zAe 1 (zAc (zAj 0 ?_)))))))))))))))
 refine zAX (fun (i,q)=>i≤l.length∧q=l.take i) (fun (i,q)=>[(3,.own 3 (q.map zA1)),(8,I (i:Nat))]) (fun (i,_)=>l.length-i) ((0:Nat),([]:List Pay)) ⟨Nat.zero_le _,rfl⟩ fun (i,q) ⟨hi,hq⟩=>?_
 have hql:q.length≤100:=by rw [hq];simp;omega
 by_cases yU:i<l.length
 ·refine zAb (zAa (zAe 1 (zAc (zAb (zA6 ((↑i:Int)<(↑l.length:Int)) (by omega) (zAl (zAb (zAj 1 (zAb (zAa (S_a [(2,.v (PV.agg [I (l.getD i default).src,I (l.getD i default).dst,I (l.getD i default).coins]))] (ap (zAR (default) (by omega):(List.map zA1 l)[i]? = some (PV.agg [I (l.getD i default).src,I (l.getD i default).dst,I (l.getD i default).coins])) an) (zAe 3 (zAc (zAa (zAe 3 (S_a [(4,.ob),(0,.ob),(0,.yes),(2,.v (PV.own 3 (List.map zA1 (q++[l.getD i default]))))] (ap ((by exact zAs (by simp only [List.length_map,zzLn,zAv]<;>omega)):(0+(List.map zA1 q).length).ble (List.map zA1 q).length=true) (ap ((by exact zAs (by simp only [List.length_map,zzLn,zAv]<;>omega)):((List.map zA1 q).length + [PV.agg [I (l.getD i default).src,I (l.getD i default).dst,I (l.getD i default).coins]].length).ble zAv=true) (ap ((by exact zBH (by simp<;>omega)):(0+(List.map zA1 q).length).beq (List.map zA1 q).length=true) (ap ((by simp):PV.own 3 (List.map zA1 q++[PV.agg [I (l.getD i default).src,I (l.getD i default).dst,I (l.getD i default).coins]])=PV.own 3 (List.map zA1 (q++[l.getD i default]))) an)))) (zAe 1 (zAc (zAa (S_a [(1,.v (I (↑(i+1):Int)))] (ap ((zAy (by omega) (by omega)):I (IntKind.i64.wrap ((↑i:Int)+1))=I (↑(i+1):Int)) an) (zAe 1 (zAc ?_))))))))))))))))))))))
  exact ⟨(i+1,q++[l.getD i default]),⟨by omega,by rw [hq,List.take_add_one,List.getElem?_eq_getElem yU,zAC yU];rfl⟩,by simp only;omega,by kernel_rfl,by kernel_rfl⟩
 ·rw [List.take_of_length_le (by omega)] at hq
  rw [hq]
  refine zAb (zAa (zAe 1 (zAc (zAb (zBo ((↑i:Int)<(↑l.length:Int)) (by omega) (zA9 0 (zAb (zAa (zAe 1 (S_a [(2,.yes)] (ap ((by exact zBH (by simp<;>omega)):(Nat.beq 0 0&&(List.map zA1 l).length.beq (List.map zA1 l).length)=true) an) (zAc (zAD (E_a [(1,.yes),(1,.v (PV.own 3 (List.map zA1 l)))] (ap ((by exact zAs (by simp only [List.length_map,zzLn,zAv]<;>omega)):(0+(List.map zA1 l).length).ble (List.map zA1 l).length=true) (ap ((zFy zDE):PV.own 3 (List.take (List.map zA1 l).length (List.drop 0 (List.map zA1 l)))=PV.own 3 (List.map zA1 l)) an)) (PV.own 3 (List.map zA1 l)) ([]) rfl rfl)))))))))))))
theorem f44 (l:List Pay) (hl:l.length≤100):FG 44 [.sl (l.map zA1)] (.own 3 (l.map zA1)):=by
 refine zAi Try.f44 ?_
 refine zAb (zAa (zAe 1 (zAc (zAb (zAa (zAe 1 (S_a [(0,.n (l.length))] (ap ((by simp):some (List.map zA1 l).length=some l.length) an) (S_a [(4,.ob),(0,.ob),(1,.v (PV.own 3 (List.map (fun x=>PV.agg [I 0,I 0,I 0]) (List.replicate l.length ()))))] (ap ((by exact zAp (by omega)):decide (l.length≤l.length)=true) (ap ((by exact zAp (by simp [zAv]<;>omega)):decide (l.length≤zAv)=true) (ap ((by simp):PV.own 3 (List.replicate l.length (PV.agg [I 0,I 0,I 0]))=PV.own 3 (List.map (fun x=>PV.agg [I 0,I 0,I 0]) (List.replicate l.length ()))) an))) (zAe 1 (zAc (zAb (zAa (zAe 2 (zPy (fun q=>q) 3 3 (List.map (fun x=>PV.agg [I 0,I 0,I 0]) (List.replicate l.length ())) (List.map zA1 l) (List.map zA1 l) (zNF fun _ _=>(by first | exact zOu | exact ⟨rfl,rfl,rfl,rfl,Nat.le_refl _,rfl⟩)) (by simp<;>omega) (zQ8 (by simp<;>omega)) zS7.nil (zAc (zAb (zAa (zAe 1 (S_a [(2,.yes)] (ap ((by exact zBH (by simp<;>omega)):(Nat.beq 0 0&&(List.map zA1 l).length.beq (List.map zA1 l).length)=true) an) (zAc (zAD (E_a [(1,.yes),(1,.v (PV.own 3 (List.map zA1 l)))] (ap ((by exact zAs (by simp only [List.length_map,zzLn,zAv]<;>omega)):(0+(List.map zA1 l).length).ble (List.map zA1 l).length=true) (ap ((zFy zDE):PV.own 3 (List.take (List.map zA1 l).length (List.drop 0 (List.map zA1 l)))=PV.own 3 (List.map zA1 l)) an)) (PV.own 3 (List.map zA1 l)) ([]) rfl rfl))))))))))))))))))))))
theorem f112 (l:List Pay) (hl:l.length≤100):FG 112 [.sl (l.map zA1),.sl (l.map zA1)] (.bool true):=by
 refine zAi Try.f112 ?_
 refine zAb (zAa (zAe 1 (zAc (zAb (zAb (zAa (zAe 1 (S_a [(0,.n (l.length))] (ap ((by simp):some (List.map zA1 l).length=some l.length) an) (zAe 1 (S_a [(0,.n (l.length))] (ap ((by simp):some (List.map zA1 l).length=some l.length) an) (zAe 1 (zAc (zEu ((↑l.length:Int)=(↑l.length:Int)) (by omega) (zAl (zAb (zAb (zAa (zAe 1 (S_a [(0,.n (l.length))] (ap ((by simp):some (List.map zA1 l).length=some l.length) an) (zAe 1 (zAc (zAj 0 ?_))))))))))))))))))))))
 refine zAX (fun i=>i≤l.length) (fun i=>[(13,I (i:Nat))]) (fun i=>l.length-i) (0:Nat) (Nat.zero_le _) fun i hi=>?_
 by_cases yU:i<l.length
 ·refine zAb (zAa (zAe 1 (zAc (zAb (zA6 ((↑i:Int)<(↑l.length:Int)) (by omega) (zAl (zAb (zAj 1 (zAb (zAa (zAe 2 (zAc (zAb (zAa (zAe 2 (S_a [(2,.v (PV.agg [I (l.getD i default).src,I (l.getD i default).dst,I (l.getD i default).coins]))] (ap (zAR (default) (by omega):(List.map zA1 l)[i]? = some (PV.agg [I (l.getD i default).src,I (l.getD i default).dst,I (l.getD i default).coins])) an) (zAe 3 (S_a [(2,.v (PV.agg [I (l.getD i default).src,I (l.getD i default).dst,I (l.getD i default).coins]))] (ap (zAR (default) (by omega):(List.map zA1 l)[i]? = some (PV.agg [I (l.getD i default).src,I (l.getD i default).dst,I (l.getD i default).coins])) an) (zAe 1 (S_a [(0,.v (PV.bool false))] (ap (zSc:zNV Try.prog BinOp.neq 83 (PV.agg [I (l.getD i default).src,I (l.getD i default).dst,I (l.getD i default).coins]) (PV.agg [I (l.getD i default).src,I (l.getD i default).dst,I (l.getD i default).coins])=some (PV.bool false)) an) (zAc (zBp (zAl (zAa (S_a [(1,.v (I (↑(i+1):Int)))] (ap ((zAy (by omega) (by omega)):I (IntKind.i64.wrap ((↑i:Int)+1))=I (↑(i+1):Int)) an) (zAe 1 (zAc ?_)))))))))))))))))))))))))))
  exact ⟨i+1,by omega,by omega,by kernel_rfl,by kernel_rfl⟩
 ·refine zAb (zAa (zAe 1 (zAc (zAb (zBo ((↑i:Int)<(↑l.length:Int)) (by omega) (zA9 0 (zAb (zAa (zAe 1 (zAc (zAD (E_a [] an (PV.bool true) ([]) rfl rfl))))))))))))
theorem f52 (l:List Pay) (hl:l.length≤100):FG 52 [.sl (l.map zA1),.sl (l.map zA1)] (.bool true):=by
 refine zAi Try.f52 ?_
 refine zAb (zAa (zAe 1 (zAc (zAb (zAa (zAe 2 (S_a [(8,.ret (PV.bool true) ([]))] (ap (f112 (l) (by omega)) an) (zAe 1 (zAc (zAD (E_a [] an (PV.bool true) ([]) rfl rfl)))))))))))
end
end Go.Eng
set_option maxRecDepth 10000
set_option maxHeartbeats 4000000
namespace Go.Eng
open Go Go.Proofs
def zVS (bal:List Int):Nat:=(bal.filter fun x=>decide (x≠0)).length
theorem zQf {bal:List Int} (h:zBe bal=0):zDl bal (zFn bal (zFS bal))=true:=by
 have hb:=zJS h
 obtain ⟨hG,hz,hm⟩:=zIx hb.sum
 simp only [zDl,h,if_true,zKk,Bool.and_eq_true,List.all_eq_true]
 exact ⟨fun p hp=>zGC.2 (zTs hb p hp),fun w hw=>by
  rw [List.mem_range] at hw
  exact decide_eq_true (zSj hG hz w hw)⟩
theorem zHA {α:Type} {G:List (List α)} {i:Nat} (h:i<G.length):G.flatten=(G.take i).flatten++(G.getD i []++(G.drop (i+1)).flatten):=by
 have:G=G.take i++(G.getD i []::G.drop (i+1)):=by
  rw [zAC h,← List.drop_eq_getElem_cons h,List.take_append_drop]
 conv=>lhs;rw [this]
 simp
theorem zKo {α:Type} {G:List (List α)} {i:Nat} (h:i<G.length):(G.take (i+1)).flatten=(G.take i).flatten++G.getD i []:=by
 rw [List.take_add_one,List.getElem?_eq_getElem h,zAC h]
 simp only [Option.toList,List.flatten_append,List.flatten_cons,List.flatten_nil,List.append_nil]
theorem fresh {G:List (List Int)} {i k:Nat} (hn:G.flatten.Nodup) (hi:i<G.length) (hk:k<(G.getD i []).length):(G.getD i []).getD k 0∉(G.take i).flatten++(G.getD i []).take k:=by
 rw [zHA hi] at hn
 generalize G.getD i []=g at *
 have hg:g=g.take k++(g.getD k 0::g.drop (k+1)):=by
  rw [zAC hk,← List.drop_eq_getElem_cons hk,List.take_append_drop]
 rw [hg] at hn
 rw [List.append_assoc,← List.append_assoc,List.nodup_append] at hn
 have h1:=hn.2.2
 intro hm
 have hx:(g.take k++(g.getD k 0::g.drop (k+1))).getD k 0=g.getD k 0:=by rw [← hg]
 exact h1 _ hm _ (by simp) rfl
theorem zUn {l:List Int} (h:l.Pairwise (· < ·)) {k:Nat} (hk:k<l.length) (h0:0<k):l.getD (k-1) 0<l.getD k 0:=by
 rw [zAC (show k-1<l.length by omega),zAC hk]
 exact List.pairwise_iff_getElem.1 h (k-1) k (by omega) hk (by omega)
theorem zTM {G:List (List Int)} (h:G.Pairwise fun a b=>a.headD 0<b.headD 0) {k:Nat} (hk:k<G.length) (h0:0<k):(G.getD (k-1) []).getD 0 0<(G.getD k []).getD 0 0:=by
 have:=List.pairwise_iff_getElem.1 h (k-1) k (by omega) hk (by omega)
 rw [zAC (show k-1<G.length by omega),zAC hk]
 have e:∀ l:List Int,l.getD 0 0=l.headD 0:=fun l=>by cases l<;>rfl
 rw [e,e];exact this
theorem zRP {bal:List Int} {j:Nat} (h:j<bal.length):zVS (bal.take (j+1))=zVS (bal.take j)+if bal.getD j 0=0 then 0 else 1:=zIe h
theorem zTx {M:List Bool} {n:Nat} {A:List Int} {p:Int} (hM:M.length=n) (h:∀ c:Nat,c<n→(M.getD c false=true↔(c:Int)∈A)) (hp:0≤p∧p<n):∀ c:Nat,c<n→((M.set p.toNat true).getD c false=true↔(c:Int)∈A++[p]):=by
 intro c hc
 have hi:=h c hc
 have e:(M.set p.toNat true).getD c false=if p.toNat=c∧c<M.length then true else M.getD c false:=by
  simp only [List.getD_eq_getElem?_getD,List.getElem?_set]
  by_cases h:p.toNat=c
  ·subst h
   by_cases h2:p.toNat<M.length
   ·simp [h2]
   ·simp [h2]
  ·simp [h]
 rw [e,List.mem_append,List.mem_singleton]
 by_cases h1:p.toNat=c
 ·rw [if_pos ⟨h1,by omega⟩]
  exact ⟨fun _ => .inr (by omega),fun _=>rfl⟩
 ·rw [if_neg (fun h=>h1 h.1),hi]
  exact ⟨.inl,fun h=>h.elim id (fun h=>absurd h (by omega))⟩
theorem f9 (bal:List Int) (l:List Pay) (kW:bal.length<9223372036854775808) (hll:l.length<9223372036854775808):FG 9 [zB2 bal,.sl (l.map zA1)] (.bool true):=by
 by_cases h12:bal.length≤12∧l.length≤24
 ·obtain ⟨hb12,hl24⟩:=h12
  have h45:=f45 bal l (by omega) (by omega)
  have h46:=f46 bal l (by omega) (by omega)
  by_cases h:zBe bal=0
  ·have hb := zJS h
   have hb8:=hb.len
   have wj:=zQf h
   have ug:=zSy hb
   have e1:zSx bal=zFn bal (zFS bal):=by simp only [zSx,h,if_true]
   have e2:zSi bal=zFS bal:=by simp only [zSi,h,if_true]
   have h48:=f48 bal (by omega)
   have h49:=f49 bal (by omega)
   have h50:=f50 bal (by omega)
   have h51:=f51n bal hb.rng hb8
   obtain ⟨hG,hz,hm⟩:=zIx hb.sum
   have hGl:=zKr hG
   have jn:=List.length_filter_le (fun x=>decide (x≠0)) bal
   have gQ:=f46 bal (zFn bal (zFS bal)) (by omega) (by omega)
   rw [e1,h] at h48
   rw [e2,h] at h49
   rw [wj,h] at gQ
   rw [h] at h45 h46 h50
   rw [← hm] at h51
   generalize zDl bal l=vv at *
   generalize zFn bal (zFS bal)=Q at *
   generalize zFS bal=G at *
   refine zAi Try.f9 ?_
   have vX:zEQ (G.map zAg)=true:=zCI G fun x=>zCI x
   refine zAb (zAa (zAe 1 (zAc (zAb (zAb (zAa (zAe 1 (S_a [(0,.n (bal.length))] (ap ((by simp):some (List.map I bal).length=some bal.length) an) (zAe 2 (zCo 29 ((↑bal.length:Int)>12) (by omega) (zAe 1 (S_a [(0,.n (l.length))] (ap ((by simp):some (List.map zA1 l).length=some l.length) an) (zAe 2 (zAc (zBo ((↑l.length:Int)>24) (by omega) (zAl (zAb (zAa (zAe 1 (S_a [(6,.ret (PV.own 1 (List.map I bal)) ([]))] (ap (f17 (bal) (by omega)) an) (zAe 1 (S_a [(6,.ret (PV.own 3 (List.map zA1 l)) ([]))] (ap (f44 (l) (by omega)) an) (zAe 2 (zAc (zAb (zAa (zAe 2 (S_a [(3,.ob),(0,.v (PV.sl (List.map I bal))),(1,.ob),(0,.v (PV.sl (List.map zA1 l))),(2,.ret (PV.tup [PV.bool vv,I 0]) ([]))] (ap ((by exact zAs (by simp only [List.length_map,zzLn,zAv]<;>omega)):(0+(List.map I bal).length).ble (List.map I bal).length=true) (ap ((zB6 (zAM (zAE _))):PV.sl (zAr (List.take (List.map I bal).length (List.drop 0 (List.map I bal))))=PV.sl (List.map I bal)) (ap ((by exact zAs (by simp only [List.length_map,zzLn,zAv]<;>omega)):(0+(List.map zA1 l).length).ble (List.map zA1 l).length=true) (ap ((zB6 (zAM (zAE _))):PV.sl (zAr (List.take (List.map zA1 l).length (List.drop 0 (List.map zA1 l))))=PV.sl (List.map zA1 l)) (ap (h45) an))))) (zAe 5 (zAc (zAb (zAa (zAe 2 (S_a [(6,.ret (PV.own 3 (List.map zA1 l)) ([]))] (ap (f47 (l) (by omega)) an) (S_a [(5,.ob),(0,.v (PV.sl (List.map zA1 l))),(2,.ret (PV.tup [PV.bool vv,I 0]) ([]))] (ap ((by exact zAs (by simp only [List.length_map,zzLn,zAv]<;>omega)):(0+(List.map zA1 l).length).ble (List.map zA1 l).length=true) (ap ((zB6 (zAM (zAE _))):PV.sl (zAr (List.take (List.map zA1 l).length (List.drop 0 (List.map zA1 l))))=PV.sl (List.map zA1 l)) (ap (h46) an))) (zAe 5 (zAc (zAb (zAb (zAa (zAe 4 (zC0 55 (!vv==vv) (fun k0=>(zAe 4 (zAc (zCb (zAb (zAa (zAe 1 (zAc (zAD (E_a [] an (PV.bool false) ([]) ?_ rfl)))))))))) (fun k0=>(zAe 4 (zAc (zBp (zAl (zAb (zAa (zAe 1 (S_a [(3,.ob),(0,.v (PV.sl (List.map I bal))),(2,.ret (PV.tup [PV.own 3 (List.map zA1 Q),I 0]) ([])),(1,.yes)] (ap ((by exact zAs (by simp only [List.length_map,zzLn,zAv]<;>omega)):(0+(List.map I bal).length).ble (List.map I bal).length=true) (ap ((zB6 (zAM (zAE _))):PV.sl (zAr (List.take (List.map I bal).length (List.drop 0 (List.map I bal))))=PV.sl (List.map I bal)) (ap (h48) (ap ((by exact zPP (zCI _) rfl):(PV.tup [PV.own 3 (List.map zA1 Q),I 0]).free=true) an)))) (zAe 5 (zAc (zAb (zAa (zAe 1 (S_a [(3,.ob),(0,.v (PV.sl (List.map I bal))),(2,.ret (PV.tup [zDh G,I 0]) ([])),(1,.yes)] (ap ((by exact zAs (by simp only [List.length_map,zzLn,zAv]<;>omega)):(0+(List.map I bal).length).ble (List.map I bal).length=true) (ap ((zB6 (zAM (zAE _))):PV.sl (zAr (List.take (List.map I bal).length (List.drop 0 (List.map I bal))))=PV.sl (List.map I bal)) (ap (h49) (ap (?_:(PV.tup [zDh G,I 0]).free=true) an)))) (zAe 5 (zAc (zAb (zAb (zAa (zAe 1 (S_a [(6,.ret (I 0) ([]))] (ap (h50) an) (zAe 1 (zAc (zAb (zAa (zAe 20 (zAc (zBp (zAl (zAb (zAb (zAa (zAe 2 (zAc (zBp (zAl (zAb (zAa (zAe 1 (zAc (zAb (zAb (zAa (zAe 1 (S_a [(0,.n (bal.length))] (ap ((by simp):some (List.map I bal).length=some bal.length) an) (zAe 1 (zAc (zAj 0 ?_)))))))))))))))))))))))))))))))))))))))))))))))))))))))))))))))))))))))))))))))))))))))))))
   ·cases vv<;>cases k0
   ·show (zEQ (G.map zAg)&&_)=true
    rw [vX];rfl
   refine zAX (fun (j,c)=>j≤bal.length∧c=zVS (bal.take j)) (fun (j,c)=>[(14,I (c:Nat)),(102,I (j:Nat))]) (fun (j,_)=>bal.length-j) ((0:Nat),(0:Nat)) ⟨Nat.zero_le _,rfl⟩ fun (j,c) ⟨hj,hc⟩=>?_
   have gF:c≤8:=by
    rw [hc]
    exact Nat.le_trans (List.length_filter_le _ _) (by rw [List.length_take];omega)
   by_cases jZ:j<bal.length
   ·have hct:=zRP jZ
    rw [← hc] at hct
    by_cases hj0:bal.getD j 0=0
    ·rw [if_pos hj0] at hct
     refine zAb (zAa (zAe 1 (zAc (zAb (zA6 ((↑j:Int)<(↑bal.length:Int)) (by omega) (zAl (zAb (zAj 1 (zAb (zAa (S_a [(2,.v (I (bal.getD j 0)))] (ap (zAR (0) (by omega):(List.map I bal)[j]? = some (I (bal.getD j 0))) an) (zAe 2 (zAc (zAb (zAa (zAe 2 (zAc (zEu (bal.getD j 0=0) (by omega) (zAl (zAa (S_a [(1,.v (I (↑(j+1):Int)))] (ap ((zAy (by omega) (by omega)):I (IntKind.i64.wrap ((↑j:Int)+1))=I (↑(j+1):Int)) an) (zAe 1 (zAc ?_)))))))))))))))))))))))
     exact ⟨(j+1,c),⟨by omega,hct.symm⟩,by simp only;omega,by kernel_rfl,by kernel_rfl⟩
    ·rw [if_neg hj0] at hct
     refine zAb (zAa (zAe 1 (zAc (zAb (zA6 ((↑j:Int)<(↑bal.length:Int)) (by omega) (zAl (zAb (zAj 1 (zAb (zAa (S_a [(2,.v (I (bal.getD j 0)))] (ap (zAR (0) (by omega):(List.map I bal)[j]? = some (I (bal.getD j 0))) an) (zAe 2 (zAc (zAb (zAa (zAe 2 (zAc (zEb (bal.getD j 0=0) (by omega) (zAa (zAe 1 (S_a [(1,.v (I (↑(c+1):Int)))] (ap ((zAy (by omega) (by omega)):I (IntKind.i64.wrap ((↑c:Int)+1))=I (↑(c+1):Int)) an) (zAe 1 (zAc (zAa (S_a [(1,.v (I (↑(j+1):Int)))] (ap ((zAy (by omega) (by omega)):I (IntKind.i64.wrap ((↑j:Int)+1))=I (↑(j+1):Int)) an) (zAe 1 (zAc ?_)))))))))))))))))))))))))))
     exact ⟨(j+1,c+1),⟨by omega,hct.symm⟩,by simp only;omega,by kernel_rfl,by kernel_rfl⟩
   ·rw [List.take_of_length_le (by omega)] at hc
    have hcq:Q.length+G.length=c:=by rw [hc];exact ug
    have hM0:∀ p:Nat,p<bal.length→((List.replicate bal.length false).getD p false=true↔(p:Int)∈(G.take 0).flatten):=fun p hp=>by
     simp [List.getD,hp]
    have uB:c=G.flatten.length:=by
     have:=hG.cnt
     rw [List.take_of_length_le (Nat.le_refl _)] at this
     rw [this];exact hc
    clear h45 h46 h48 h49 h50 jn ug vX hc
    refine zAb (zAa (zAe 1 (zAc (zAb (zBo ((↑j:Int)<(↑bal.length:Int)) (by omega) (zA9 0 (zAb (zAa (zAe 1 (S_a [(10,.ret (I (↑G.length:Int)) ([]))] (ap (h51) an) (zAe 1 (zAc (zAb (zAb (zAa (zAe 2 (S_a [(3,.ob),(0,.v (PV.sl (List.map zA1 Q))),(2,.ret (PV.own 3 (List.map zA1 Q)) ([])),(1,.yes)] (ap ((by exact zAs (by simp only [List.length_map,zzLn,zAv]<;>omega)):(0+(List.map zA1 Q).length).ble (List.map zA1 Q).length=true) (ap ((zB6 (zAM (zAE _))):PV.sl (zAr (List.take (List.map zA1 Q).length (List.drop 0 (List.map zA1 Q))))=PV.sl (List.map zA1 Q)) (ap (f47 (Q) (by omega)) (ap ((by exact zCI _):(PV.own 3 (List.map zA1 Q)).free=true) an)))) (S_a [(5,.ob),(0,.v (PV.sl (List.map zA1 Q))),(2,.ret (PV.tup [PV.bool true,I 0]) ([]))] (ap ((by exact zAs (by simp only [List.length_map,zzLn,zAv]<;>omega)):(0+(List.map zA1 Q).length).ble (List.map zA1 Q).length=true) (ap ((zB6 (zAM (zAE _))):PV.sl (zAr (List.take (List.map zA1 Q).length (List.drop 0 (List.map zA1 Q))))=PV.sl (List.map zA1 Q)) (ap (gQ) an))) (zAe 5 (zAc (zAb (zAa (zAe 4 (S_a [(0,.n (Q.length))] (ap ((by simp):some (List.map zA1 Q).length=some Q.length) an) (zAe 2 (S_a [(1,.v (I (↑(c-G.length):Int)))] (ap ((zAy (by omega) (by omega)):I (IntKind.i64.wrap ((↑c:Int)-(↑G.length:Int)))=I (↑(c-G.length):Int)) an) (zAe 3 (zEw 130 ((↑Q.length:Int)=(↑(c-G.length):Int)) (by omega) (zAe 1 (S_a [(0,.n (G.length))] (ap ((by simp):some (List.map zAg G).length=some G.length) an) (zAe 3 (zAc (zEu ((↑G.length:Int)=(↑G.length:Int)) (by omega) (zAl (zAb (zAa (zAe 1 (S_a [(0,.n (bal.length))] (ap ((by simp):some (List.map I bal).length=some bal.length) an) (S_a [(4,.ob),(0,.ob),(1,.v (PV.own 1 (List.map PV.bool (List.replicate bal.length false))))] (ap ((by exact zAp (by omega)):decide (bal.length≤bal.length)=true) (ap ((by exact zAp (by simp [zAv]<;>omega)):decide (bal.length≤zAv)=true) (ap ((by simp):PV.own 1 (List.replicate bal.length (PV.bool false))=PV.own 1 (List.map PV.bool (List.replicate bal.length false))) an))) (zAe 1 (zAc (zAb (zAb (zAa (zAe 1 (S_a [(0,.n (G.length))] (ap ((by simp):some (List.map zAg G).length=some G.length) an) (zAe 1 (zAc (zAj 2 ?_)))))))))))))))))))))))))))))))))))))))))))))))))
    clear h51 gQ wj e1 e2
    refine zAX (fun (i,M,x)=>i≤G.length∧M.length=bal.length∧(∀ p:Nat,p<bal.length→(M.getD p false=true↔(p:Int)∈(G.take i).flatten))∧x=(c:Int)-(G.take i).flatten.length) (fun (i,M,x)=>[(14,I x),(20,.own 1 (M.map PV.bool)),(141,I (i:Nat))]) (fun (i,_,_)=>G.length-i) ((0:Nat),List.replicate bal.length false,(c:Int)) ⟨Nat.zero_le _,by simp,hM0,by simp⟩ fun (i,M,x) ⟨hi,vb,hM,hx⟩=>?_
    by_cases yU:i<G.length
    ·have wx:=zKo yU
     have g0:=hG.el _ (zCO yU)
     have g1:=g0.1
     have g2:=g0.2.1
     have g3:=g0.2.2
     clear g0
     have hg8:=zNg (zCO yU)
     have hgz:=zNu hz yU
     have hgs:=zHA yU
     refine zAb (zAa (zAe 1 (zAc (zAb (zA6 ((↑i:Int)<(↑G.length:Int)) (by omega) (zAl (zAb (zAj 3 (zAb (zAa (zAe 1 (S_a [(2,.ob),(1,.n (i))] (ap ((by exact zAp (by simp only [List.length_map,zzLn]<;>omega)):decide (i<(List.map zAg G).length)=true) (ap ((by simp):some (0+i)=some i) an)) (S_a [(0,.cs false ([PV.bor 12 [(i,0)] 1 0 (List.map I (G.getD i [])).length])),(0,.v (PV.bor 12 [(i,0)] 1 0 (G.getD i []).length))] (ap (zBw (q:=PV.own 1 (List.map zAg G)) (xs:=List.map zAg G) (x:=PV.own 1 (List.map I (G.getD i []))) rfl (zAR ([]) (by omega)):zAk 12 (PV.own 1 (List.map zAg G)) [] i 0 1=some (false,[PV.bor 12 [(i,0)] 1 0 (List.map I (G.getD i [])).length])) (ap ((by simp):PV.bor 12 [(i,0)] 1 0 (List.map I (G.getD i [])).length=PV.bor 12 [(i,0)] 1 0 (G.getD i []).length) an)) (zAe 1 (zAe 1 (zAc (zAb (zAa (zAe 1 (zAc (zAb (zAb (zAa (zAe 3 (zAc (zAj 4 ?_))))))))))))))))))))))))))
     refine zAX (fun (k,N,y,s)=>k≤(G.getD i []).length∧N.length=bal.length∧(∀ p:Nat,p<bal.length→(N.getD p false=true↔(p:Int)∈(G.take i).flatten++(G.getD i []).take k))∧y=x-(k:Nat)∧s=zC5 bal ((G.getD i []).take k)) (fun (k,N,y,s)=>[(14,I y),(20,.own 1 (N.map PV.bool)),(23,I s),(148,I (k:Nat))]) (fun (k,_,_,_)=>(G.getD i []).length-k) ((0:Nat),M,x,(0:Int)) ⟨Nat.zero_le _,vb,fun p hp=>by rw [List.take_zero,List.append_nil];exact hM p hp,by simp,rfl⟩ fun (k,N,y,s) ⟨hk,hNL,hN,hy,hs⟩=>?_
     have uC:=zML (bal:=bal) (g:=(G.getD i []).take k) hb.rng
     rw [← hs,List.length_take] at uC
     by_cases kV:k<(G.getD i []).length
     ·have hp:=g3 ((G.getD i []).getD k 0) (by rw [zAC kV];exact List.getElem_mem _)
      have p1:=hp.1
      have p2:=hp.2.1
      have p3:=hp.2.2
      clear hp
      have hbp:=zOE hb.rng ((G.getD i []).getD k 0)
      have gh:zBU bal ((G.getD i []).getD k 0)=bal.getD ((G.getD i []).getD k 0).toNat 0:=rfl
      rw [gh] at hbp p3
      have qZ:=zJb (bal:=bal) kV
      rw [← hs] at qZ
      have jd:=fresh hG.nd yU kV
      have gr:N.getD ((G.getD i []).getD k 0).toNat false=false:=by
       have:=not_congr (hN ((G.getD i []).getD k 0).toNat (by omega))
       rw [Int.toNat_of_nonneg p1] at this
       simpa using this.2 jd
      have yP:=zTx hNL hN (p:=(G.getD i []).getD k 0) ⟨p1,p2⟩
      have htk:(G.getD i []).take (k+1)=(G.getD i []).take k++[(G.getD i []).getD k 0]:=by
       rw [List.take_add_one,List.getElem?_eq_getElem kV,zAC kV];rfl
      rw [List.append_assoc,← htk] at yP
      have hxb : -8≤x∧x≤8:=by
       have:=zKo yU
       have h2:=zHA yU
       have h3:=congrArg List.length h2
       simp only [List.length_append] at h3
       omega
      have yI:0<k→(G.getD i []).getD (k-1) 0<(G.getD i []).getD k 0:=fun h0=>zUn g2 kV h0
      clear hM hM0 hN jd hs htk hgs wx hgz gh hm hx g1 g3
      by_cases vR:0<k
      ·have yI:=yI vR
       refine zAb (zAa (zAe 1 (zAc (zAb (zA6 ((↑k:Int)<(↑(G.getD i []).length:Int)) (by omega) (zAl (zAb (zAj 5 (zAb (zAa (zAe 1 (S_a [(2,.ob),(1,.n (k))] (ap ((by exact zAp (by omega)):decide (k<(G.getD i []).length)=true) (ap ((by simp):some (0+k)=some k) an)) (S_a [(0,.cs false ([I ((G.getD i []).getD k 0)]))] (ap (zBw (q:=PV.own 1 (List.map I (G.getD i []))) (xs:=List.map I (G.getD i [])) (x:=I ((G.getD i []).getD k 0)) (zBt (xs:=List.map zAg G) (x:=PV.own 1 (List.map I (G.getD i []))) (y:=PV.own 1 (List.map I (G.getD i []))) (zAR ([]) (by omega)) rfl) (zAR (0) (by omega)):zAk 12 (PV.own 1 (List.map zAg G)) [(i,0)] k 0 1=some (false,[I ((G.getD i []).getD k 0)])) an) (zAe 2 (zAc (zAb (zAb (zAa (zAe 3 (zCo 155 ((G.getD i []).getD k 0<0) (by omega) (zAe 2 (S_a [(0,.n (bal.length))] (ap ((by simp):some (List.map I bal).length=some bal.length) an) (zAe 3 (zCo 161 ((G.getD i []).getD k 0≥(↑bal.length:Int)) (by omega) (zAe 2 (S_a [(0,.ob),(1,.ob),(1,.n (((G.getD i []).getD k 0).toNat))] (ap ((by exact zAp (by omega)):decide (0≤(G.getD i []).getD k 0)=true) (ap ((by exact zAp (by simp only [List.length_map,zzLn]<;>omega)):decide (((G.getD i []).getD k 0).toNat<(List.map PV.bool N).length)=true) (ap ((by simp):some (0+((G.getD i []).getD k 0).toNat)=some ((G.getD i []).getD k 0).toNat) an))) (S_a [(0,.cs false ([PV.bool (N.getD ((G.getD i []).getD k 0).toNat false)]))] (ap (zBw (q:=PV.own 1 (List.map PV.bool N)) (xs:=List.map PV.bool N) (x:=PV.bool (N.getD ((G.getD i []).getD k 0).toNat false)) rfl (zAR (false) (by omega)):zAk 20 (PV.own 1 (List.map PV.bool N)) [] ((G.getD i []).getD k 0).toNat 0 1=some (false,[PV.bool (N.getD ((G.getD i []).getD k 0).toNat false)])) an) (zAe 2 (zC0 167 (N.getD ((G.getD i []).getD k 0).toNat false) (fun k2=>(zAe 19 (zAc (zCb (zAb (zAa (zAe 1 (zAc (zAD (E_a [] an (PV.bool false) ([]) ?_ rfl)))))))))) (fun k2=>(zAe 2 (S_a [(0,.ob),(1,.v (I (bal.getD ((G.getD i []).getD k 0).toNat 0)))] (ap ((by exact zAp (by omega)):decide (0≤(G.getD i []).getD k 0)=true) (ap (zAR (0) (by omega):(List.map I bal)[((G.getD i []).getD k 0).toNat]? = some (I (bal.getD ((G.getD i []).getD k 0).toNat 0))) an)) (zAe 4 (zCo 174 (bal.getD ((G.getD i []).getD k 0).toNat 0=0) (by omega) (zAe 3 (zDF 177 ((↑k:Int)>0) (by omega) (zAe 2 (S_a [(1,.v (I (↑(k-1):Int)))] (ap ((zAy (by omega) (by omega)):I (IntKind.i64.wrap ((↑k:Int)-1))=I (↑(k-1):Int)) an) (S_a [(2,.ob),(1,.n (k-1))] (ap ((by exact zAp (by omega)):decide (k-1<(G.getD i []).length)=true) (ap ((by simp):some (0+(k-1))=some (k-1)) an)) (S_a [(0,.cs false ([I ((G.getD i []).getD (k-1) 0)]))] (ap (zBw (q:=PV.own 1 (List.map I (G.getD i []))) (xs:=List.map I (G.getD i [])) (x:=I ((G.getD i []).getD (k-1) 0)) (zBt (xs:=List.map zAg G) (x:=PV.own 1 (List.map I (G.getD i []))) (y:=PV.own 1 (List.map I (G.getD i []))) (zAR ([]) (by omega)) rfl) (zAR (0) (by omega)):zAk 12 (PV.own 1 (List.map zAg G)) [(i,0)] (k-1) 0 1=some (false,[I ((G.getD i []).getD (k-1) 0)])) an) (zAe 4 (zAc (zBo ((G.getD i []).getD (k-1) 0≥(G.getD i []).getD k 0) (by omega) (zAl (zAb (zAa (zAe 2 (S_a [(0,.ob),(1,.ob),(1,.n (((G.getD i []).getD k 0).toNat))] (ap ((by exact zAp (by omega)):decide (0≤(G.getD i []).getD k 0)=true) (ap ((by exact zAp (by simp only [List.length_map,zzLn]<;>omega)):decide (((G.getD i []).getD k 0).toNat<(List.map PV.bool N).length)=true) (ap ((by simp):some (0+((G.getD i []).getD k 0).toNat)=some ((G.getD i []).getD k 0).toNat) an))) (S_a [(7,.root (PV.own 1 (List.map PV.bool (N.set ((G.getD i []).getD k 0).toNat true))) true)] (ap (zLc (zAR (false) (by omega)) zDz:zA4 (PV.own 1 (List.map PV.bool N)) [] ((G.getD i []).getD k 0).toNat 0 (PV.bool true).cells=some (PV.own 1 (List.map PV.bool (N.set ((G.getD i []).getD k 0).toNat true)))∧zAq (PV.own 1 (List.map PV.bool N)) (PV.own 1 (List.map PV.bool (N.set ((G.getD i []).getD k 0).toNat true))) []=true) an) (zAc (zAb (zAa (zAe 3 (S_a [(0,.ob),(1,.v (I (bal.getD ((G.getD i []).getD k 0).toNat 0)))] (ap ((by exact zAp (by omega)):decide (0≤(G.getD i []).getD k 0)=true) (ap (zAR (0) (by omega):(List.map I bal)[((G.getD i []).getD k 0).toNat]? = some (I (bal.getD ((G.getD i []).getD k 0).toNat 0))) an)) (zAe 1 (S_a [(1,.v (I (s+bal.getD ((G.getD i []).getD k 0).toNat 0)))] (ap ((zAy rfl (by omega)):I (IntKind.i64.wrap (s+bal.getD ((G.getD i []).getD k 0).toNat 0))=I (s+bal.getD ((G.getD i []).getD k 0).toNat 0)) an) (zAe 1 (zAc (zAa (zAe 1 (S_a [(1,.v (I (y-1)))] (ap ((zAy rfl (by omega)):I (IntKind.i64.wrap (y-1))=I (y-1)) an) (zAe 1 (zAc (zAa (S_a [(1,.v (I (↑(k+1):Int)))] (ap ((zAy (by omega) (by omega)):I (IntKind.i64.wrap ((↑k:Int)+1))=I (↑(k+1):Int)) an) (zAe 1 (zAc ?_)))))))))))))))))))))))))))))))))))))))))))))))))))))))))))))))))))
       all_goals try first | (rw [gr] at k1;cases k1;done) | (rw [gr] at k2;cases k2;done) | (rw [gr] at k3;cases k3;done)
       exact ⟨(k+1,N.set ((G.getD i []).getD k 0).toNat true,y-1,s+bal.getD ((G.getD i []).getD k 0).toNat 0),⟨by omega,by rw [List.length_set];exact hNL,yP,by omega,qZ.symm⟩,by simp only;omega,by kernel_rfl,by kernel_rfl⟩
      ·clear yI
       refine zAb (zAa (zAe 1 (zAc (zAb (zA6 ((↑k:Int)<(↑(G.getD i []).length:Int)) (by omega) (zAl (zAb (zAj 5 (zAb (zAa (zAe 1 (S_a [(2,.ob),(1,.n (k))] (ap ((by exact zAp (by omega)):decide (k<(G.getD i []).length)=true) (ap ((by simp):some (0+k)=some k) an)) (S_a [(0,.cs false ([I ((G.getD i []).getD k 0)]))] (ap (zBw (q:=PV.own 1 (List.map I (G.getD i []))) (xs:=List.map I (G.getD i [])) (x:=I ((G.getD i []).getD k 0)) (zBt (xs:=List.map zAg G) (x:=PV.own 1 (List.map I (G.getD i []))) (y:=PV.own 1 (List.map I (G.getD i []))) (zAR ([]) (by omega)) rfl) (zAR (0) (by omega)):zAk 12 (PV.own 1 (List.map zAg G)) [(i,0)] k 0 1=some (false,[I ((G.getD i []).getD k 0)])) an) (zAe 2 (zAc (zAb (zAb (zAa (zAe 3 (zCo 155 ((G.getD i []).getD k 0<0) (by omega) (zAe 2 (S_a [(0,.n (bal.length))] (ap ((by simp):some (List.map I bal).length=some bal.length) an) (zAe 3 (zCo 161 ((G.getD i []).getD k 0≥(↑bal.length:Int)) (by omega) (zAe 2 (S_a [(0,.ob),(1,.ob),(1,.n (((G.getD i []).getD k 0).toNat))] (ap ((by exact zAp (by omega)):decide (0≤(G.getD i []).getD k 0)=true) (ap ((by exact zAp (by simp only [List.length_map,zzLn]<;>omega)):decide (((G.getD i []).getD k 0).toNat<(List.map PV.bool N).length)=true) (ap ((by simp):some (0+((G.getD i []).getD k 0).toNat)=some ((G.getD i []).getD k 0).toNat) an))) (S_a [(0,.cs false ([PV.bool (N.getD ((G.getD i []).getD k 0).toNat false)]))] (ap (zBw (q:=PV.own 1 (List.map PV.bool N)) (xs:=List.map PV.bool N) (x:=PV.bool (N.getD ((G.getD i []).getD k 0).toNat false)) rfl (zAR (false) (by omega)):zAk 20 (PV.own 1 (List.map PV.bool N)) [] ((G.getD i []).getD k 0).toNat 0 1=some (false,[PV.bool (N.getD ((G.getD i []).getD k 0).toNat false)])) an) (zAe 2 (zC0 167 (N.getD ((G.getD i []).getD k 0).toNat false) (fun k2=>(zAe 19 (zAc (zCb (zAb (zAa (zAe 1 (zAc (zAD (E_a [] an (PV.bool false) ([]) ?_ rfl)))))))))) (fun k2=>(zAe 2 (S_a [(0,.ob),(1,.v (I (bal.getD ((G.getD i []).getD k 0).toNat 0)))] (ap ((by exact zAp (by omega)):decide (0≤(G.getD i []).getD k 0)=true) (ap (zAR (0) (by omega):(List.map I bal)[((G.getD i []).getD k 0).toNat]? = some (I (bal.getD ((G.getD i []).getD k 0).toNat 0))) an)) (zAe 4 (zCo 174 (bal.getD ((G.getD i []).getD k 0).toNat 0=0) (by omega) (zAe 3 (zCo 177 ((↑k:Int)>0) (by omega) (zAe 9 (zAc (zBp (zAl (zAb (zAa (zAe 2 (S_a [(0,.ob),(1,.ob),(1,.n (((G.getD i []).getD k 0).toNat))] (ap ((by exact zAp (by omega)):decide (0≤(G.getD i []).getD k 0)=true) (ap ((by exact zAp (by simp only [List.length_map,zzLn]<;>omega)):decide (((G.getD i []).getD k 0).toNat<(List.map PV.bool N).length)=true) (ap ((by simp):some (0+((G.getD i []).getD k 0).toNat)=some ((G.getD i []).getD k 0).toNat) an))) (S_a [(7,.root (PV.own 1 (List.map PV.bool (N.set ((G.getD i []).getD k 0).toNat true))) true)] (ap (zLc (zAR (false) (by omega)) zDz:zA4 (PV.own 1 (List.map PV.bool N)) [] ((G.getD i []).getD k 0).toNat 0 (PV.bool true).cells=some (PV.own 1 (List.map PV.bool (N.set ((G.getD i []).getD k 0).toNat true)))∧zAq (PV.own 1 (List.map PV.bool N)) (PV.own 1 (List.map PV.bool (N.set ((G.getD i []).getD k 0).toNat true))) []=true) an) (zAc (zAb (zAa (zAe 3 (S_a [(0,.ob),(1,.v (I (bal.getD ((G.getD i []).getD k 0).toNat 0)))] (ap ((by exact zAp (by omega)):decide (0≤(G.getD i []).getD k 0)=true) (ap (zAR (0) (by omega):(List.map I bal)[((G.getD i []).getD k 0).toNat]? = some (I (bal.getD ((G.getD i []).getD k 0).toNat 0))) an)) (zAe 1 (S_a [(1,.v (I (s+bal.getD ((G.getD i []).getD k 0).toNat 0)))] (ap ((zAy rfl (by omega)):I (IntKind.i64.wrap (s+bal.getD ((G.getD i []).getD k 0).toNat 0))=I (s+bal.getD ((G.getD i []).getD k 0).toNat 0)) an) (zAe 1 (zAc (zAa (zAe 1 (S_a [(1,.v (I (y-1)))] (ap ((zAy rfl (by omega)):I (IntKind.i64.wrap (y-1))=I (y-1)) an) (zAe 1 (zAc (zAa (S_a [(1,.v (I (↑(k+1):Int)))] (ap ((zAy (by omega) (by omega)):I (IntKind.i64.wrap ((↑k:Int)+1))=I (↑(k+1):Int)) an) (zAe 1 (zAc ?_)))))))))))))))))))))))))))))))))))))))))))))))))))))))))))))))
       all_goals try first | (rw [gr] at k1;cases k1;done) | (rw [gr] at k2;cases k2;done) | (rw [gr] at k3;cases k3;done)
       exact ⟨(k+1,N.set ((G.getD i []).getD k 0).toNat true,y-1,s+bal.getD ((G.getD i []).getD k 0).toNat 0),⟨by omega,by rw [List.length_set];exact hNL,yP,by omega,qZ.symm⟩,by simp only;omega,by kernel_rfl,by kernel_rfl⟩
     ·have hke:k=(G.getD i []).length:=by omega
      rw [hke,List.take_of_length_le (Nat.le_refl _)] at hs hN
      rw [hgz] at hs
      rw [← wx] at hN
      have LE:0<(G.getD i []).length:=List.length_pos_iff.2 g1
      have hyx:y=(c:Int)-(G.take (i+1)).flatten.length:=by
       rw [wx,List.length_append];omega
      have hend:∃ s':Nat×List Bool×Int,s'=(i+1,N,y):=⟨_,rfl⟩
      by_cases jc:0<i
      ·have hhd:=zTM hG.hd yU jc
       have kG:0<(G.getD (i-1) []).length:=List.length_pos_iff.2 (hG.el _ (zCO (show i-1<G.length by omega))).1
       clear hM hM0 hgs wx hgz hm hx g3 uC
       refine zAb (zAa (zAe 1 (zAc (zAb (zBo ((↑k:Int)<(↑(G.getD i []).length:Int)) (by omega) (zA9 4 (zAb (zAa (zAe 4 (zCo 202 ((↑(G.getD i []).length:Int)=0) (by omega) (zAe 4 (zEw 206 (s=0) (by omega) (zAe 3 (zDF 209 ((↑i:Int)>0) (by omega) (zAe 2 (S_a [(1,.v (I (↑(i-1):Int)))] (ap ((zAy (by omega) (by omega)):I (IntKind.i64.wrap ((↑i:Int)-1))=I (↑(i-1):Int)) an) (S_a [(2,.ob),(1,.n (i-1))] (ap ((by exact zAp (by simp only [List.length_map,zzLn]<;>omega)):decide (i-1<(List.map zAg G).length)=true) (ap ((by simp):some (0+(i-1))=some (i-1)) an)) (S_a [(0,.cs false ([PV.bor 12 [(i-1,0)] 1 0 (List.map I (G.getD (i-1) [])).length])),(0,.v (PV.bor 12 [(i-1,0)] 1 0 (G.getD (i-1) []).length))] (ap (zBw (q:=PV.own 1 (List.map zAg G)) (xs:=List.map zAg G) (x:=PV.own 1 (List.map I (G.getD (i-1) []))) rfl (zAR ([]) (by omega)):zAk 12 (PV.own 1 (List.map zAg G)) [] (i-1) 0 1=some (false,[PV.bor 12 [(i-1,0)] 1 0 (List.map I (G.getD (i-1) [])).length])) (ap ((by simp):PV.bor 12 [(i-1,0)] 1 0 (List.map I (G.getD (i-1) [])).length=PV.bor 12 [(i-1,0)] 1 0 (G.getD (i-1) []).length) an)) (S_a [(2,.ob)] (ap ((by exact zAp (by omega)):decide (0<(G.getD (i-1) []).length)=true) an) (S_a [(0,.cs false ([I ((G.getD (i-1) []).getD 0 0)]))] (ap (zBw (q:=PV.own 1 (List.map I (G.getD (i-1) []))) (xs:=List.map I (G.getD (i-1) [])) (x:=I ((G.getD (i-1) []).getD 0 0)) (zBt (xs:=List.map zAg G) (x:=PV.own 1 (List.map I (G.getD (i-1) []))) (y:=PV.own 1 (List.map I (G.getD (i-1) []))) (zAR ([]) (by omega)) rfl) (zAR (0) (by omega)):zAk 12 (PV.own 1 (List.map zAg G)) [(i-1,0)] 0 0 1=some (false,[I ((G.getD (i-1) []).getD 0 0)])) an) (zAe 1 (S_a [(2,.ob)] (ap ((by exact zAp (by omega)):decide (0<(G.getD i []).length)=true) an) (S_a [(0,.cs false ([I ((G.getD i []).getD 0 0)]))] (ap (zBw (q:=PV.own 1 (List.map I (G.getD i []))) (xs:=List.map I (G.getD i [])) (x:=I ((G.getD i []).getD 0 0)) (zBt (xs:=List.map zAg G) (x:=PV.own 1 (List.map I (G.getD i []))) (y:=PV.own 1 (List.map I (G.getD i []))) (zAR ([]) (by omega)) rfl) (zAR (0) (by omega)):zAk 12 (PV.own 1 (List.map zAg G)) [(i,0)] 0 0 1=some (false,[I ((G.getD i []).getD 0 0)])) an) (zAe 3 (zAc (zBo ((G.getD (i-1) []).getD 0 0≥(G.getD i []).getD 0 0) (by omega) (zAl (zAa (S_a [(1,.v (I (↑(i+1):Int)))] (ap ((zAy (by omega) (by omega)):I (IntKind.i64.wrap ((↑i:Int)+1))=I (↑(i+1):Int)) an) (zAe 1 (zAc ?_)))))))))))))))))))))))))))))))
       exact ⟨(i+1,N,y),⟨by omega,hNL,hN,hyx⟩,by simp only;omega,by kernel_rfl,by kernel_rfl⟩
      ·clear hM hM0 hgs wx hgz hm hx g3 uC
       refine zAb (zAa (zAe 1 (zAc (zAb (zBo ((↑k:Int)<(↑(G.getD i []).length:Int)) (by omega) (zA9 4 (zAb (zAa (zAe 4 (zCo 202 ((↑(G.getD i []).length:Int)=0) (by omega) (zAe 4 (zEw 206 (s=0) (by omega) (zAe 3 (zCo 209 ((↑i:Int)>0) (by omega) (zAe 13 (zAc (zBp (zAl (zAa (S_a [(1,.v (I (↑(i+1):Int)))] (ap ((zAy (by omega) (by omega)):I (IntKind.i64.wrap ((↑i:Int)+1))=I (↑(i+1):Int)) an) (zAe 1 (zAc ?_))))))))))))))))))))))
       exact ⟨(i+1,N,y),⟨by omega,hNL,hN,hyx⟩,by simp only;omega,by kernel_rfl,by kernel_rfl⟩
    ·have hx0:x=0:=by rw [hx,List.take_of_length_le (by omega),uB];omega
     have h52:=f52 l (by omega)
     clear hM hM0 hm hx
     refine zAb (zAa (zAe 1 (zAc (zAb (zBo ((↑i:Int)<(↑G.length:Int)) (by omega) (zA9 2 (zAb (zAa (zAe 3 (zDF 226 (x=0) (by omega) (zAe 2 (S_a [(3,.ob),(0,.v (PV.sl (List.map I bal))),(4,.ret (PV.bool (decide (bal=bal))) ([]))] (ap ((by exact zAs (by simp only [List.length_map,zzLn,zAv]<;>omega)):(0+(List.map I bal).length).ble (List.map I bal).length=true) (ap ((zB6 (zAM (zAE _))):PV.sl (zAr (List.take (List.map I bal).length (List.drop 0 (List.map I bal))))=PV.sl (List.map I bal)) (ap (f20 (bal) (bal) (by omega)) an))) (zAe 2 (zDF 231 (bal=bal) (by (simp;done)) (zAe 2 (S_a [(3,.ob),(0,.v (PV.sl (List.map zA1 l))),(4,.ret (PV.bool true) ([]))] (ap ((by exact zAs (by simp only [List.length_map,zzLn,zAv]<;>omega)):(0+(List.map zA1 l).length).ble (List.map zA1 l).length=true) (ap ((zB6 (zAM (zAE _))):PV.sl (zAr (List.take (List.map zA1 l).length (List.drop 0 (List.map zA1 l))))=PV.sl (List.map zA1 l)) (ap (h52) an))) (zAe 2 (S_a [(4,.ret (PV.bool true) ([]))] (ap (f16) an) (zAe 2 (zAc (zAD (E_a [] an (PV.bool true) ([]) rfl rfl))))))))))))))))))))))
  ·have h48:=f48 bal (by omega)
   have h49:=f49 bal (by omega)
   have h50:=f50 bal (by omega)
   have e1:zSx bal=[]:=by simp only [zSx,h,if_false]
   have e2:zSi bal=[]:=by simp only [zSi,h,if_false]
   rw [e1] at h48
   rw [e2] at h49
   generalize zDl bal l=vv at *
   generalize zBe bal=er at *
   refine zAi Try.f9 ?_
   refine zAb (zAa (zAe 1 (zAc (zAb (zAb (zAa (zAe 1 (S_a [(0,.n (bal.length))] (ap ((by simp):some (List.map I bal).length=some bal.length) an) (zAe 2 (zCo 29 ((↑bal.length:Int)>12) (by omega) (zAe 1 (S_a [(0,.n (l.length))] (ap ((by simp):some (List.map zA1 l).length=some l.length) an) (zAe 2 (zAc (zBo ((↑l.length:Int)>24) (by omega) (zAl (zAb (zAa (zAe 1 (S_a [(6,.ret (PV.own 1 (List.map I bal)) ([]))] (ap (f17 (bal) (by omega)) an) (zAe 1 (S_a [(6,.ret (PV.own 3 (List.map zA1 l)) ([]))] (ap (f44 (l) (by omega)) an) (zAe 2 (zAc (zAb (zAa (zAe 2 (S_a [(3,.ob),(0,.v (PV.sl (List.map I bal))),(1,.ob),(0,.v (PV.sl (List.map zA1 l))),(2,.ret (PV.tup [PV.bool vv,I er]) ([]))] (ap ((by exact zAs (by simp only [List.length_map,zzLn,zAv]<;>omega)):(0+(List.map I bal).length).ble (List.map I bal).length=true) (ap ((zB6 (zAM (zAE _))):PV.sl (zAr (List.take (List.map I bal).length (List.drop 0 (List.map I bal))))=PV.sl (List.map I bal)) (ap ((by exact zAs (by simp only [List.length_map,zzLn,zAv]<;>omega)):(0+(List.map zA1 l).length).ble (List.map zA1 l).length=true) (ap ((zB6 (zAM (zAE _))):PV.sl (zAr (List.take (List.map zA1 l).length (List.drop 0 (List.map zA1 l))))=PV.sl (List.map zA1 l)) (ap (h45) an))))) (zAe 5 (zAc (zAb (zAa (zAe 2 (S_a [(6,.ret (PV.own 3 (List.map zA1 l)) ([]))] (ap (f47 (l) (by omega)) an) (S_a [(5,.ob),(0,.v (PV.sl (List.map zA1 l))),(2,.ret (PV.tup [PV.bool vv,I er]) ([]))] (ap ((by exact zAs (by simp only [List.length_map,zzLn,zAv]<;>omega)):(0+(List.map zA1 l).length).ble (List.map zA1 l).length=true) (ap ((zB6 (zAM (zAE _))):PV.sl (zAr (List.take (List.map zA1 l).length (List.drop 0 (List.map zA1 l))))=PV.sl (List.map zA1 l)) (ap (h46) an))) (zAe 5 (zAc (zAb (zAb (zAa (zAe 4 (zC0 55 (!vv==vv) (fun k0=>(zAe 4 (zAc (zCb (zAb (zAa (zAe 1 (zAc (zAD (E_a [] an (PV.bool false) ([]) ?_ rfl)))))))))) (fun k0=>(zAe 4 (zAc (zEu (er=er) (by omega) (zAl (zAb (zAa (zAe 1 (S_a [(3,.ob),(0,.v (PV.sl (List.map I bal))),(2,.ret (PV.tup [PV.own 3 (List.map zA1 []),I er]) ([]))] (ap ((by exact zAs (by simp only [List.length_map,zzLn,zAv]<;>omega)):(0+(List.map I bal).length).ble (List.map I bal).length=true) (ap ((zB6 (zAM (zAE _))):PV.sl (zAr (List.take (List.map I bal).length (List.drop 0 (List.map I bal))))=PV.sl (List.map I bal)) (ap (h48) an))) (zAe 5 (zAc (zAb (zAa (zAe 1 (S_a [(3,.ob),(0,.v (PV.sl (List.map I bal))),(2,.ret (PV.tup [zDh [],I er]) ([]))] (ap ((by exact zAs (by simp only [List.length_map,zzLn,zAv]<;>omega)):(0+(List.map I bal).length).ble (List.map I bal).length=true) (ap ((zB6 (zAM (zAE _))):PV.sl (zAr (List.take (List.map I bal).length (List.drop 0 (List.map I bal))))=PV.sl (List.map I bal)) (ap (h49) an))) (zAe 5 (zAc (zAb (zAb (zAa (zAe 1 (S_a [(6,.ret (I er) ([]))] (ap (h50) an) (zAe 1 (zAc (zAb (zAa (zAe 4 (zEw 75 (er=er) (by omega) (zAe 5 (zEw 80 (er=er) (by omega) (zAe 3 (zT8 83 (er=0) (by omega) (zAe 1 (zAe 2 (zAe 5 (zAc (zBp (zAl (zAb (zAb (zAa (zAe 2 (zAc (zEb (er=0) (by omega) (zAb (zAa (zAe 2 (S_a [(3,.ob),(0,.v (PV.sl (List.map I bal))),(4,.ret (PV.bool (decide (bal=bal))) ([]))] (ap ((by exact zAs (by simp only [List.length_map,zzLn,zAv]<;>omega)):(0+(List.map I bal).length).ble (List.map I bal).length=true) (ap ((zB6 (zAM (zAE _))):PV.sl (zAr (List.take (List.map I bal).length (List.drop 0 (List.map I bal))))=PV.sl (List.map I bal)) (ap (f20 (bal) (bal) (by omega)) an))) (zAe 1 (zDF 97 (bal=bal) (by (simp;done)) (S_a [(4,.ret (PV.bool true) ([]))] (ap (f16) an) (zAe 2 (zAc (zAD (E_a [] an (PV.bool true) ([]) rfl rfl)))))))))))))))))))))))))))))))))))))))))))))))))))))))))))))))))))))))))))))))))))))))))))))))))
   cases vv<;>cases k0
 ·refine zAi Try.f9 ?_
  by_cases hb12:bal.length≤12
  ·have hl24:¬ l.length≤24:=fun h=>h12 ⟨hb12,h⟩
   clear h12
   refine zAb (zAa (zAe 1 (zAc (zAb (zAb (zAa (zAe 1 (S_a [(0,.n (bal.length))] (ap ((by simp):some (List.map I bal).length=some bal.length) an) (zAe 2 (zCo 29 ((↑bal.length:Int)>12) (by omega) (zAe 1 (S_a [(0,.n (l.length))] (ap ((by simp):some (List.map zA1 l).length=some l.length) an) (zAe 2 (zAc (zA6 ((↑l.length:Int)>24) (by omega) (zAb (zAa (S_a [(4,.ret (PV.bool true) ([]))] (ap (f16) an) (zAe 1 (zAc (zAD (E_a [] an (PV.bool true) ([]) rfl rfl))))))))))))))))))))))
  ·clear h12
   refine zAb (zAa (zAe 1 (zAc (zAb (zAb (zAa (zAe 1 (S_a [(0,.n (bal.length))] (ap ((by simp):some (List.map I bal).length=some bal.length) an) (zAe 2 (zDF 29 ((↑bal.length:Int)>12) (by omega) (zAe 4 (zAc (zCb (zAb (zAa (S_a [(4,.ret (PV.bool true) ([]))] (ap (f16) an) (zAe 1 (zAc (zAD (E_a [] an (PV.bool true) ([]) rfl rfl))))))))))))))))))))
end Go.Eng
set_option maxRecDepth 100000
namespace Go.Proofs.Ytpmbobnmpehobaa
open Go.ChangeShapes Go.WideShapes Go.ChangeAt Go.RowKit Go.Eng
theorem feeClears_gives (ss:List (Bool×List Sh)) (wF:zE8 Try.prog Try.f9.params.toList=some ss) (qs:List PV) (hq:zLb ss qs):@zBy (yo1 Try.prog zAw) Try.prog zAw 9 qs [] (.bool true) []:=by
 have he:zE8 Try.prog Try.f9.params.toList=some [(false,[.list false [.num .i64]]),(false,[.list true [.num .i64,.num .i64,.num .i64]])]:=by kernel_rfl
 rw [he] at wF
 cases wF
 obtain ⟨p0,qs0,rfl,h0,hq0⟩:=hq
 obtain ⟨p1,qs1,rfl,h1,ka⟩:=hq0
 simp only [zLb] at ka
 subst ka
 obtain ⟨x0,rfl,l0,b0⟩:=zUa h0
 unfold maxLen at l0
 simp only [IntKind.min,IntKind.max,IntKind.signed,IntKind.bits] at b0
 simp at b0
 obtain ⟨x1,rfl,l1⟩:=zTH h1
 unfold maxLen at l1
 exact f9 x0 x1 (by omega) (by omega)
theorem feeClears_lifted (os:Os) (started:os.Started) (H:Type) (enc:TypeId×Value→H) :
  ReturnsInHanded {} Try.checked os 9 .any (Rows.feeClearsSpec.pre6 enc Try.prog Try.f9 Rows.feeClearsRow.domain false) (Rows.feeClearsSpec.post enc Try.prog Try.f9 false true false false):=by
 refine returnsInHanded_of_change (C:=Try.checked) Try.own started (by kernel_rfl) Try.func9
  (ChangeSpec.witness6 (enc:=enc) (C:=Try.checked) false ⟨#[],#[.slice none 0 0,.slice none 0 0],[]⟩ 8 (by kernel_rfl) (by kernel_rfl) (by kernel_rfl) (by kernel_rfl)) ?_
 intro W base args ds gs before hval0 hW hcnd _
 obtain ⟨p,q,hA0,hV,_,_,_⟩:=id hW
 obtain ⟨rfl,rfl⟩:=trodVars_none hV
 obtain ⟨ss,wF⟩:∃ ss,zE8 Try.prog Try.f9.params.toList=some ss:=Option.isSome_iff_exists.1 (by kernel_rfl)
 have hO:ss.length≤1000:=by
  have h:((zE8 Try.prog Try.f9.params.toList).map fun s=>Nat.ble s.length 1000)=some true:=by kernel_rfl
  rw [wF] at h
  simpa using h
 exact zUh zE5 hnm zLs hin Try.laidOut rfl Try.underlying4 (by kernel_rfl) (by kernel_rfl) (fun ds hd=>by match ds,hd with | [d0,d1],_=>rfl) wF hO (feeClears_gives ss wF) hval0 hW
theorem feeClears_holds:Rows.FeeClearsSaid :=
 OpenClaim.holds_of_wide 9 Try.f9 rfl rfl rfl rfl rfl rfl rfl ⟨rfl,rfl,rfl,rfl,rfl⟩ rfl rfl rfl rfl rfl (by kernel_rfl) Try.func9 (by kernel_rfl)
  (of_decide_eq_true (by kernel_rfl)) (by unfold Func.isWrapper;first | (rw [if_pos (by decide +kernel)];kernel_rfl) | (rw [if_neg (by decide +kernel)];exact ⟨rfl,rfl⟩))
  (fun os started H enc _=>feeClears_lifted os started H enc)
end Go.Proofs.Ytpmbobnmpehobaa
