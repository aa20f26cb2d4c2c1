/- The payments that are told clear balances; they are as many as there are people with a balance less the groups; without one of them the others do not clear (up to 7 balances of numbers; any payment). -/
import Derived.Test.YtpmbobnmpehobaaPe
import Derived.Test.YtpmbobnmpehobaaPd
set_option linter.unusedVariables false
set_option linter.unusedSimpArgs false
set_option linter.unusedSectionVars false
set_option maxRecDepth 10000
set_option maxHeartbeats 4000000
namespace Go.Eng
open Go Go.Proofs
def zUo (a b:Int):Int:=if b<a then b else a
theorem zTh {a b hi:Int} (ha:0≤a∧a≤hi) (hb:0≤b):0≤zUo a b∧zUo a b≤a∧zUo a b≤hi:=by unfold zUo;split<;>omega
def zJD (b:Dk) (f late:List Int) (c:Nat):Int:=zUo (f.getD c 0) (b.fn*late.getD c 0)
def zPH (b:Dk) (f late:List Int) (n:Nat):List Int:=(List.range n).map fun c=>f.getD c 0-zJD b f late c
def zIO (b:Dk) (f late:List Int) (n:Nat):List Int:=(List.range n).map (zJD b f late)
theorem zGX {b:Dk} {f late:List Int} {n:Nat}:zPH b f late (n+1)=zPH b f late n++[f.getD n 0-zJD b f late n]:=by simp [zPH,List.range_succ]
theorem zFU {b:Dk} {f late:List Int} {n:Nat}:zIO b f late (n+1)=zIO b f late n++[zJD b f late n]:=by simp [zIO,List.range_succ]
def zB1 (b:Dk) (l late:List Int):Int:=if zBj b l=0 then if (late.length:Int)=b.cr then if !late.all (fun x=>decide (0≤x)&&decide (x≤60)) then 3 else 0 else 2 else zBj b l
def zAv (b:Dk) (l late:List Int):List Int:=if zB1 b l late=0 then zPH b (zFh (zBp b) l l.length) late b.cr.toNat else []
def zCM (b:Dk) (l late:List Int):Int:=if zB1 b l late=0 then (zIO b (zFh (zBp b) l l.length) late b.cr.toNat).sum else 0
section
variable [Yo]
theorem f26 (b:Dk) (l late:List Int) (hb:zKU b) (hl:l.length<4294967296) (hll:late.length<4294967296):FG 26 [zHE b,zCb l,zCb late] (.tup [.own 1 ((zAv b l late).map I),I (zCM b l late),I (zB1 b l late)]):=by
 by_cases h:zBj b l=0
 ·obtain ⟨h0,h1,h2,h3⟩:=zSV h
  have hg:=zEi h0
  have vK:=hg.cr
  have jx:=hg.fn
  have vI:=hg.len
  have ji:l.length=(zBp b).length:=by rw [zEF];exact h1
  have ha:=zFP (fee:=zBp b) (zAs:=l) l.length
  have hin:=zTj (fee:=zBp b) (zAs:=l) (zG4 hg) (n:=l.length) (by omega)
  have jQ:∀ x∈l,0≤x∧x<4:=fun x hx=>by have:=h2 x hx;omega
  obtain ⟨y0,y1,y2,y3,hy⟩:=zPu ha
  have h90:FG 90 [.ref (zGI b (zBp b)),zCb l] (.agg [I y0,I y1,I y2,I y3]):=by
   have:=f90 b (zBp b) l jQ (zG4 hg) (by omega) ji
   rw [hy] at this;exact this
  rw [hy] at hin
  refine zAi Try.f26 ?_
  refine zAb (zAa (zAe 4 (zAc (zAb (zAa (zAe 2 (S_a [(8,.ret (PV.tup [(zGI b (zBp b)).ref,I 0]) ([]))] (ap (f88_1 (b) (l) (by omega) (by omega)) an) (zAe 5 (zAc (zAb (zAm 0 (zAb (zAa (zAe 3 (zAc (zAY (zAb (zAa (zAe 1 (S_a [(0,.n (late.length))] (ap ((by simp):some (List.map I late).length=some late.length) an) (zAe 4 (zAc (zGd ((↑late.length:Int)=b.cr) (fun k0=>(zAb (zAa (zAe 3 (zAc (zAD (E_a [] an (PV.tup [PV.own 1 [],I 0,I 2]) ([]) ?_ rfl))))))) (fun k0=>(zAb (zAa (zAe 1 (S_a [(7,.ret (PV.bool (late.all fun x=>decide (0≤x)&&decide (x≤60))) ([]))] (ap (f79_4 (late) (by omega)) an) (zAe 2 (zAc (zIx (!late.all fun x=>decide (0≤x)&&decide (x≤60)) (fun k1=>(zAb (zAa (zAe 3 (zAc (zAD (E_a [] an (PV.tup [PV.own 1 [],I 0,I 3]) ([]) ?_ rfl))))))) (fun k1=>(zAn (zAb (zAa (zAe 2 (zAc (zAb (zAb (zAa (zAe 2 (S_a [(7,.ret (PV.agg [I y0,I y1,I y2,I y3]) ([]))] (ap (h90) an) (zAe 1 (zAc (zAm 1 ?_)))))))))))))))))))))))))))))))))))))))))))))
  ·have e:¬ (late.length:Int)=b.cr:=by omega
   have e2:zB1 b l late=2:=by simp only [zB1,h,e,if_true,if_false]
   simp only [zAv,zCM,e2];rfl
  ·have e:(late.length:Int)=b.cr:=by omega
   have e2:zB1 b l late=3:=by simp only [zB1,h,e,k1,if_true]
   simp only [zAv,zCM,e2];rfl
  have e:(late.length:Int)=b.cr:=by omega
  have e2:zB1 b l late=0:=by simp only [zB1,h,e,k1,if_true];rfl
  have hlate:=zMc k1
  have hd:∀ c,0≤late.getD c 0∧late.getD c 0≤60:=by
   intro c
   rcases Nat.lt_or_ge c late.length with h | h
   ·exact zB6 hlate c h
   ·rw [List.getD_eq_getElem?_getD,List.getElem?_eq_none h];simp
  have hm:∀ c,0≤b.fn*late.getD c 0∧b.fn*late.getD c 0≤20*60:=fun c=>⟨Int.mul_nonneg jx.1 (hd c).1,Int.mul_le_mul (by omega) (hd c).2 (hd c).1 (by omega)⟩
  have hyb:∀ c,0≤[y0,y1,y2,y3].getD c 0∧[y0,y1,y2,y3].getD c 0≤1000000:=by
   intro c
   rcases Nat.lt_or_ge c 4 with h | h
   ·exact zB6 hin c h
   ·rw [List.getD_eq_getElem?_getD,List.getElem?_eq_none h];simp
  have gq:∀ c,0≤zJD b [y0,y1,y2,y3] late c∧zJD b [y0,y1,y2,y3] late c≤[y0,y1,y2,y3].getD c 0∧zJD b [y0,y1,y2,y3] late c≤1000000:=fun c=>zTh (hyb c) (hm c).1
  refine zBc (fun (i,o,s)=>i≤4∧o=zPH b [y0,y1,y2,y3] late (min i b.cr.toNat)∧s=zIO b [y0,y1,y2,y3] late (min i b.cr.toNat)) (fun (i,o,s)=>[(11,.own 1 (o.map I)),(12,.own 1 (s.map I)),(39,I (i:Nat))]) (fun (i,_,_)=>4-i) ((0:Nat),([]:List Int),([]:List Int)) ⟨by omega,by simp [zPH],by simp [zIO]⟩ fun (i,o,s) ⟨hi,ho,hs⟩=>?_
  have vi:∀ x∈s,-1000000000000≤x∧x≤1000000000000:=by
   rw [hs];intro x hx
   obtain ⟨c,_,rfl⟩:=List.mem_map.1 hx
   have:=gq c;omega
  have j8:s.length≤4:=by rw [hs];simp [zIO];omega
  have hol:o.length≤4:=by rw [ho];simp [zPH];omega
  obtain rfl | rfl | rfl | rfl | rfl:i=0∨i=1∨i=2∨i=3∨i=4:=by omega
  ·have hk:0≤(if b.fn*late.getD 0 0<y0 then b.fn*late.getD 0 0 else y0)∧(if b.fn*late.getD 0 0<y0 then b.fn*late.getD 0 0 else y0)≤y0∧(if b.fn*late.getD 0 0<y0 then b.fn*late.getD 0 0 else y0)≤1000000:=gq 0
   have hyk:0≤y0∧y0≤1000000:=hyb 0
   have uk:=hm 0
   refine zAb (zAa (zAe 1 (zAc (zAb (zDY (zAn (zAb (zAm 2 (zAb (zAa (zAe 4 (zAc (zAb (zAa (zAe 4 (zAc (zBN ((↑0:Int)<b.cr) (by omega) (zAb (zAa (zAe 5 (S_a [(2,.v (I (late.getD 0 0)))] (ap (zBd (0) (by omega):(List.map I late)[0]? = some (I (late.getD 0 0))) an) (zAe 1 (S_a [(1,.v (I (b.fn*late.getD 0 0)))] (ap ((zAH rfl (by omega)):I (IntKind.i64.wrap (b.fn*late.getD 0 0))=I (b.fn*late.getD 0 0)) an) (zAe 2 (zAc (zAa (zAe 3 (S_a [(1,.v (I (y0-if b.fn*late.getD 0 0<y0 then b.fn*late.getD 0 0 else y0)))] (ap ((zAH rfl (by omega)):I (IntKind.i64.wrap (y0-if b.fn*late.getD 0 0<y0 then b.fn*late.getD 0 0 else y0))=I (y0-if b.fn*late.getD 0 0<y0 then b.fn*late.getD 0 0 else y0)) an) (zAe 1 (S_a [(4,.ob),(0,.ob),(0,.yes),(2,.v (PV.own 1 (List.map I (o++[y0-if b.fn*late.getD 0 0<y0 then b.fn*late.getD 0 0 else y0]))))] (ap ((by exact zAw (by simp only [List.length_map,zzLn,zAC]<;>omega)):(0+(List.map I o).length).ble (List.map I o).length=true) (ap ((by exact zAw (by simp only [List.length_map,zzLn,zAC]<;>omega)):((List.map I o).length + [I (y0-if b.fn*late.getD 0 0<y0 then b.fn*late.getD 0 0 else y0)].length).ble zAC=true) (ap ((by exact zBF (by simp<;>omega)):(0+(List.map I o).length).beq (List.map I o).length=true) (ap ((by simp):PV.own 1 (List.map I o++[I (y0-if b.fn*late.getD 0 0<y0 then b.fn*late.getD 0 0 else y0)])=PV.own 1 (List.map I (o++[y0-if b.fn*late.getD 0 0<y0 then b.fn*late.getD 0 0 else y0]))) an)))) (zAe 3 (S_a [(4,.ob),(0,.ob),(0,.yes),(2,.v (PV.own 1 (List.map I (s++[if b.fn*late.getD 0 0<y0 then b.fn*late.getD 0 0 else y0]))))] (ap ((by exact zAw (by simp only [List.length_map,zzLn,zAC]<;>omega)):(0+(List.map I s).length).ble (List.map I s).length=true) (ap ((by exact zAw (by simp only [List.length_map,zzLn,zAC]<;>omega)):((List.map I s).length + [I (if b.fn*late.getD 0 0<y0 then b.fn*late.getD 0 0 else y0)].length).ble zAC=true) (ap ((by exact zBF (by simp<;>omega)):(0+(List.map I s).length).beq (List.map I s).length=true) (ap ((by simp):PV.own 1 (List.map I s++[I (if b.fn*late.getD 0 0<y0 then b.fn*late.getD 0 0 else y0)])=PV.own 1 (List.map I (s++[if b.fn*late.getD 0 0<y0 then b.fn*late.getD 0 0 else y0]))) an)))) (zAe 2 (zAc (zAa (zAe 2 (zAc ?_)))))))))))))))))))))))))))))))))))))
   ·exact ⟨(1,o++[y0-(if b.fn*late.getD 0 0<y0 then b.fn*late.getD 0 0 else y0)],s++[(if b.fn*late.getD 0 0<y0 then b.fn*late.getD 0 0 else y0)]),⟨by omega,by rw [ho,show min 1 b.cr.toNat=0+1 by omega,show min 0 b.cr.toNat=0 by omega,zGX];rfl,by rw [hs,show min 1 b.cr.toNat=0+1 by omega,show min 0 b.cr.toNat=0 by omega,zFU];rfl⟩,by simp,by kernel_rfl,by kernel_rfl⟩
  ·have hk:0≤(if b.fn*late.getD 1 0<y1 then b.fn*late.getD 1 0 else y1)∧(if b.fn*late.getD 1 0<y1 then b.fn*late.getD 1 0 else y1)≤y1∧(if b.fn*late.getD 1 0<y1 then b.fn*late.getD 1 0 else y1)≤1000000:=gq 1
   have hyk:0≤y1∧y1≤1000000:=hyb 1
   have uk:=hm 1
   refine zAb (zAa (zAe 1 (zAc (zAb (zDY (zAn (zAb (zAm 2 (zAb (zAa (zAe 4 (zAc (zAb (zAa (zAe 4 (zAc (zCC ((↑1:Int)<b.cr) (fun k2=>(zAb (zAa (zAe 5 (S_a [(2,.v (I (late.getD 1 0)))] (ap (zBd (0) (by omega):(List.map I late)[1]? = some (I (late.getD 1 0))) an) (zAe 1 (S_a [(1,.v (I (b.fn*late.getD 1 0)))] (ap ((zAH rfl (by omega)):I (IntKind.i64.wrap (b.fn*late.getD 1 0))=I (b.fn*late.getD 1 0)) an) (zAe 2 (zAc (zAa (zAe 3 (S_a [(1,.v (I (y1-if b.fn*late.getD 1 0<y1 then b.fn*late.getD 1 0 else y1)))] (ap ((zAH rfl (by omega)):I (IntKind.i64.wrap (y1-if b.fn*late.getD 1 0<y1 then b.fn*late.getD 1 0 else y1))=I (y1-if b.fn*late.getD 1 0<y1 then b.fn*late.getD 1 0 else y1)) an) (zAe 1 (S_a [(4,.ob),(0,.ob),(0,.yes),(2,.v (PV.own 1 (List.map I (o++[y1-if b.fn*late.getD 1 0<y1 then b.fn*late.getD 1 0 else y1]))))] (ap ((by exact zAw (by simp only [List.length_map,zzLn,zAC]<;>omega)):(0+(List.map I o).length).ble (List.map I o).length=true) (ap ((by exact zAw (by simp only [List.length_map,zzLn,zAC]<;>omega)):((List.map I o).length + [I (y1-if b.fn*late.getD 1 0<y1 then b.fn*late.getD 1 0 else y1)].length).ble zAC=true) (ap ((by exact zBF (by simp<;>omega)):(0+(List.map I o).length).beq (List.map I o).length=true) (ap ((by simp):PV.own 1 (List.map I o++[I (y1-if b.fn*late.getD 1 0<y1 then b.fn*late.getD 1 0 else y1)])=PV.own 1 (List.map I (o++[y1-if b.fn*late.getD 1 0<y1 then b.fn*late.getD 1 0 else y1]))) an)))) (zAe 3 (S_a [(4,.ob),(0,.ob),(0,.yes),(2,.v (PV.own 1 (List.map I (s++[if b.fn*late.getD 1 0<y1 then b.fn*late.getD 1 0 else y1]))))] (ap ((by exact zAw (by simp only [List.length_map,zzLn,zAC]<;>omega)):(0+(List.map I s).length).ble (List.map I s).length=true) (ap ((by exact zAw (by simp only [List.length_map,zzLn,zAC]<;>omega)):((List.map I s).length + [I (if b.fn*late.getD 1 0<y1 then b.fn*late.getD 1 0 else y1)].length).ble zAC=true) (ap ((by exact zBF (by simp<;>omega)):(0+(List.map I s).length).beq (List.map I s).length=true) (ap ((by simp):PV.own 1 (List.map I s++[I (if b.fn*late.getD 1 0<y1 then b.fn*late.getD 1 0 else y1)])=PV.own 1 (List.map I (s++[if b.fn*late.getD 1 0<y1 then b.fn*late.getD 1 0 else y1]))) an)))) (zAe 2 (zAc (zAa (zAe 2 (zAc ?_))))))))))))))))))))) (fun k2=>(zAn (zAa (zAe 2 (zAc ?_))))))))))))))))))))))
   ·exact ⟨(2,o++[y1-(if b.fn*late.getD 1 0<y1 then b.fn*late.getD 1 0 else y1)],s++[(if b.fn*late.getD 1 0<y1 then b.fn*late.getD 1 0 else y1)]),⟨by omega,by rw [ho,show min 2 b.cr.toNat=1+1 by omega,show min 1 b.cr.toNat=1 by omega,zGX];rfl,by rw [hs,show min 2 b.cr.toNat=1+1 by omega,show min 1 b.cr.toNat=1 by omega,zFU];rfl⟩,by simp,by kernel_rfl,by kernel_rfl⟩
   ·exact ⟨(2,o,s),⟨by omega,by rw [ho,show min 2 b.cr.toNat=min 1 b.cr.toNat by omega],by rw [hs,show min 2 b.cr.toNat=min 1 b.cr.toNat by omega]⟩,by simp,by kernel_rfl,by kernel_rfl⟩
  ·have hk:0≤(if b.fn*late.getD 2 0<y2 then b.fn*late.getD 2 0 else y2)∧(if b.fn*late.getD 2 0<y2 then b.fn*late.getD 2 0 else y2)≤y2∧(if b.fn*late.getD 2 0<y2 then b.fn*late.getD 2 0 else y2)≤1000000:=gq 2
   have hyk:0≤y2∧y2≤1000000:=hyb 2
   have uk:=hm 2
   refine zAb (zAa (zAe 1 (zAc (zAb (zDY (zAn (zAb (zAm 2 (zAb (zAa (zAe 4 (zAc (zAb (zAa (zAe 4 (zAc (zCC ((↑2:Int)<b.cr) (fun k2=>(zAb (zAa (zAe 5 (S_a [(2,.v (I (late.getD 2 0)))] (ap (zBd (0) (by omega):(List.map I late)[2]? = some (I (late.getD 2 0))) an) (zAe 1 (S_a [(1,.v (I (b.fn*late.getD 2 0)))] (ap ((zAH rfl (by omega)):I (IntKind.i64.wrap (b.fn*late.getD 2 0))=I (b.fn*late.getD 2 0)) an) (zAe 2 (zAc (zAa (zAe 3 (S_a [(1,.v (I (y2-if b.fn*late.getD 2 0<y2 then b.fn*late.getD 2 0 else y2)))] (ap ((zAH rfl (by omega)):I (IntKind.i64.wrap (y2-if b.fn*late.getD 2 0<y2 then b.fn*late.getD 2 0 else y2))=I (y2-if b.fn*late.getD 2 0<y2 then b.fn*late.getD 2 0 else y2)) an) (zAe 1 (S_a [(4,.ob),(0,.ob),(0,.yes),(2,.v (PV.own 1 (List.map I (o++[y2-if b.fn*late.getD 2 0<y2 then b.fn*late.getD 2 0 else y2]))))] (ap ((by exact zAw (by simp only [List.length_map,zzLn,zAC]<;>omega)):(0+(List.map I o).length).ble (List.map I o).length=true) (ap ((by exact zAw (by simp only [List.length_map,zzLn,zAC]<;>omega)):((List.map I o).length + [I (y2-if b.fn*late.getD 2 0<y2 then b.fn*late.getD 2 0 else y2)].length).ble zAC=true) (ap ((by exact zBF (by simp<;>omega)):(0+(List.map I o).length).beq (List.map I o).length=true) (ap ((by simp):PV.own 1 (List.map I o++[I (y2-if b.fn*late.getD 2 0<y2 then b.fn*late.getD 2 0 else y2)])=PV.own 1 (List.map I (o++[y2-if b.fn*late.getD 2 0<y2 then b.fn*late.getD 2 0 else y2]))) an)))) (zAe 3 (S_a [(4,.ob),(0,.ob),(0,.yes),(2,.v (PV.own 1 (List.map I (s++[if b.fn*late.getD 2 0<y2 then b.fn*late.getD 2 0 else y2]))))] (ap ((by exact zAw (by simp only [List.length_map,zzLn,zAC]<;>omega)):(0+(List.map I s).length).ble (List.map I s).length=true) (ap ((by exact zAw (by simp only [List.length_map,zzLn,zAC]<;>omega)):((List.map I s).length + [I (if b.fn*late.getD 2 0<y2 then b.fn*late.getD 2 0 else y2)].length).ble zAC=true) (ap ((by exact zBF (by simp<;>omega)):(0+(List.map I s).length).beq (List.map I s).length=true) (ap ((by simp):PV.own 1 (List.map I s++[I (if b.fn*late.getD 2 0<y2 then b.fn*late.getD 2 0 else y2)])=PV.own 1 (List.map I (s++[if b.fn*late.getD 2 0<y2 then b.fn*late.getD 2 0 else y2]))) an)))) (zAe 2 (zAc (zAa (zAe 2 (zAc ?_))))))))))))))))))))) (fun k2=>(zAn (zAa (zAe 2 (zAc ?_))))))))))))))))))))))
   ·exact ⟨(3,o++[y2-(if b.fn*late.getD 2 0<y2 then b.fn*late.getD 2 0 else y2)],s++[(if b.fn*late.getD 2 0<y2 then b.fn*late.getD 2 0 else y2)]),⟨by omega,by rw [ho,show min 3 b.cr.toNat=2+1 by omega,show min 2 b.cr.toNat=2 by omega,zGX];rfl,by rw [hs,show min 3 b.cr.toNat=2+1 by omega,show min 2 b.cr.toNat=2 by omega,zFU];rfl⟩,by simp,by kernel_rfl,by kernel_rfl⟩
   ·exact ⟨(3,o,s),⟨by omega,by rw [ho,show min 3 b.cr.toNat=min 2 b.cr.toNat by omega],by rw [hs,show min 3 b.cr.toNat=min 2 b.cr.toNat by omega]⟩,by simp,by kernel_rfl,by kernel_rfl⟩
  ·have hk:0≤(if b.fn*late.getD 3 0<y3 then b.fn*late.getD 3 0 else y3)∧(if b.fn*late.getD 3 0<y3 then b.fn*late.getD 3 0 else y3)≤y3∧(if b.fn*late.getD 3 0<y3 then b.fn*late.getD 3 0 else y3)≤1000000:=gq 3
   have hyk:0≤y3∧y3≤1000000:=hyb 3
   have uk:=hm 3
   refine zAb (zAa (zAe 1 (zAc (zAb (zDY (zAn (zAb (zAm 2 (zAb (zAa (zAe 4 (zAc (zAb (zAa (zAe 4 (zAc (zCC ((↑3:Int)<b.cr) (fun k2=>(zAb (zAa (zAe 5 (S_a [(2,.v (I (late.getD 3 0)))] (ap (zBd (0) (by omega):(List.map I late)[3]? = some (I (late.getD 3 0))) an) (zAe 1 (S_a [(1,.v (I (b.fn*late.getD 3 0)))] (ap ((zAH rfl (by omega)):I (IntKind.i64.wrap (b.fn*late.getD 3 0))=I (b.fn*late.getD 3 0)) an) (zAe 2 (zAc (zAa (zAe 3 (S_a [(1,.v (I (y3-if b.fn*late.getD 3 0<y3 then b.fn*late.getD 3 0 else y3)))] (ap ((zAH rfl (by omega)):I (IntKind.i64.wrap (y3-if b.fn*late.getD 3 0<y3 then b.fn*late.getD 3 0 else y3))=I (y3-if b.fn*late.getD 3 0<y3 then b.fn*late.getD 3 0 else y3)) an) (zAe 1 (S_a [(4,.ob),(0,.ob),(0,.yes),(2,.v (PV.own 1 (List.map I (o++[y3-if b.fn*late.getD 3 0<y3 then b.fn*late.getD 3 0 else y3]))))] (ap ((by exact zAw (by simp only [List.length_map,zzLn,zAC]<;>omega)):(0+(List.map I o).length).ble (List.map I o).length=true) (ap ((by exact zAw (by simp only [List.length_map,zzLn,zAC]<;>omega)):((List.map I o).length + [I (y3-if b.fn*late.getD 3 0<y3 then b.fn*late.getD 3 0 else y3)].length).ble zAC=true) (ap ((by exact zBF (by simp<;>omega)):(0+(List.map I o).length).beq (List.map I o).length=true) (ap ((by simp):PV.own 1 (List.map I o++[I (y3-if b.fn*late.getD 3 0<y3 then b.fn*late.getD 3 0 else y3)])=PV.own 1 (List.map I (o++[y3-if b.fn*late.getD 3 0<y3 then b.fn*late.getD 3 0 else y3]))) an)))) (zAe 3 (S_a [(4,.ob),(0,.ob),(0,.yes),(2,.v (PV.own 1 (List.map I (s++[if b.fn*late.getD 3 0<y3 then b.fn*late.getD 3 0 else y3]))))] (ap ((by exact zAw (by simp only [List.length_map,zzLn,zAC]<;>omega)):(0+(List.map I s).length).ble (List.map I s).length=true) (ap ((by exact zAw (by simp only [List.length_map,zzLn,zAC]<;>omega)):((List.map I s).length + [I (if b.fn*late.getD 3 0<y3 then b.fn*late.getD 3 0 else y3)].length).ble zAC=true) (ap ((by exact zBF (by simp<;>omega)):(0+(List.map I s).length).beq (List.map I s).length=true) (ap ((by simp):PV.own 1 (List.map I s++[I (if b.fn*late.getD 3 0<y3 then b.fn*late.getD 3 0 else y3)])=PV.own 1 (List.map I (s++[if b.fn*late.getD 3 0<y3 then b.fn*late.getD 3 0 else y3]))) an)))) (zAe 2 (zAc (zAa (zAe 2 (zAc ?_))))))))))))))))))))) (fun k2=>(zAn (zAa (zAe 2 (zAc ?_))))))))))))))))))))))
   ·exact ⟨(4,o++[y3-(if b.fn*late.getD 3 0<y3 then b.fn*late.getD 3 0 else y3)],s++[(if b.fn*late.getD 3 0<y3 then b.fn*late.getD 3 0 else y3)]),⟨by omega,by rw [ho,show min 4 b.cr.toNat=3+1 by omega,show min 3 b.cr.toNat=3 by omega,zGX];rfl,by rw [hs,show min 4 b.cr.toNat=3+1 by omega,show min 3 b.cr.toNat=3 by omega,zFU];rfl⟩,by simp,by kernel_rfl,by kernel_rfl⟩
   ·exact ⟨(4,o,s),⟨by omega,by rw [ho,show min 4 b.cr.toNat=min 3 b.cr.toNat by omega],by rw [hs,show min 4 b.cr.toNat=min 3 b.cr.toNat by omega]⟩,by simp,by kernel_rfl,by kernel_rfl⟩
  ·refine zAb (zAa (zAe 1 (zAc (zAb (zAY (zBA 1 (zAb (zAa (zAe 2 (S_a [(3,.ob),(0,.v (PV.sl (List.map I s))),(2,.ret (I s.sum) ([]))] (ap ((by exact zAw (by simp only [List.length_map,zzLn,zAC]<;>omega)):(0+(List.map I s).length).ble (List.map I s).length=true) (ap ((zDB (zA3 (zAM _))):PV.sl (zAx (List.take (List.map I s).length (List.drop 0 (List.map I s))))=PV.sl (List.map I s)) (ap (f81a (s) (by omega) (by omega)) an))) (S_a [(2,.yes)] (ap ((by exact zBF (by simp<;>omega)):(Nat.beq 0 0&&(List.map I o).length.beq (List.map I o).length)=true) an) (zAe 2 (zAc (zAD (E_a [(1,.yes),(1,.v (PV.own 1 (List.map I o)))] (ap ((by exact zAw (by simp only [List.length_map,zzLn,zAC]<;>omega)):(0+(List.map I o).length).ble (List.map I o).length=true) (ap ((zHo zEC):PV.own 1 (List.take (List.map I o).length (List.drop 0 (List.map I o)))=PV.own 1 (List.map I o)) an)) (PV.tup [PV.own 1 (List.map I o),I s.sum,I 0]) ([]) ?_ rfl)))))))))))))))
   rw [show min 4 b.cr.toNat=b.cr.toNat by omega] at ho hs
   simp only [zAv,zCM,e2,if_true,hy,← ho,← hs]
 ·have e2:zB1 b l late=zBj b l:=by simp only [zB1,h,if_false]
  refine zAi Try.f26 ?_
  refine zAb (zAa (zAe 4 (zAc (zAb (zAa (zAe 2 (S_a [(8,.ret (PV.tup [PV.nilp,I (zBj b l)]) ([]))] (ap (f88_2 (b) (l) (by omega) (by omega) (by omega)) an) (zAe 5 (zAc (zAb (zAm 0 (zAb (zAa (zAe 3 (zAc (zGz (zBj b l=0) (by omega) (zAb (zAa (zAe 4 (zAc (zAD (E_a [] an (PV.tup [PV.own 1 [],I 0,I (zBj b l)]) ([]) ?_ rfl))))))))))))))))))))))
  ·simp only [zAv,zCM,e2,h,if_false];rfl
end
end Go.Eng
set_option maxRecDepth 10000
set_option maxHeartbeats 4000000
namespace Go.Eng
open Go Go.Proofs
theorem zVH {l:List Int} {c:Int} {i:Nat} (h:i<l.length) (hc:l.getD i 0=c):has l c=true:=by
 rw [zAE h] at hc
 exact List.any_eq_true.2 ⟨l[i],List.getElem_mem h,by simp [hc]⟩
def zQK (b:Dk) (l:List Int) (c:Int):Nat→Int
 | 0=>0
 | n+1=>if l.getD n 0=c then zQK b l c n+zE9 b (rnd b n) else zQK b l c n
theorem zMw {b:Dk} {l:List Int} (hl:∀ x∈l,0≤x∧x<4):∀ (n:Nat),n≤l.length→n≤b.rs.length→∀ c:Nat,c<4→(zFh (zBp b) l n).getD c 0=zQK b l c n
 | 0,_,_,c,hc=>by
  match c,hc with
  | 0,_=>rfl
  | 1,_=>rfl
  | 2,_=>rfl
  | 3,_=>rfl
 | n + 1,h1,h2,c,hc=>by
  have ih:=zMw (b:=b) hl n (by omega) (by omega)
  have hx:=zB6 hl n (by omega)
  rw [zFh,zEh,zFP,zQK,zGJ (by omega:n<b.rs.length)]
  by_cases he:l.getD n 0=c
  ·rw [if_pos ⟨by omega,hc⟩,if_pos he,ih _ (by omega)]
   have:((l.getD n 0).toNat:Int)=c:=by omega
   rw [this];rfl
  ·rw [if_neg (by omega),if_neg he,ih c hc]
section
variable [Yo]
end
end Go.Eng
set_option maxRecDepth 10000
set_option maxHeartbeats 4000000
namespace Go.Eng
open Go Go.Proofs
section
variable [Yo]
end
end Go.Eng
set_option maxRecDepth 10000
set_option maxHeartbeats 4000000
namespace Go.Eng
open Go Go.Proofs
theorem zQR {b:Dk} {l:List Int} (h:ShareOk b l):zAV b l=(List.range b.cr.toNat).map fun c:Nat=>zQK b l (c:Int) l.length:=by
 have hg:=zEi h.box
 have hs:zBj b l=0:=by
  have h2:(!l.all (fun x=>decide (0≤x)&&decide (x≤b.cr-1)))=false:=by
   simp only [Bool.not_eq_false',List.all_eq_true]
   intro x hx;have:=h.rng x hx;simp;omega
  simp only [zBj,h.box,h.len,h2,h.may,if_true];rfl
 have vK:=hg.cr
 have hx:∀ x∈l,0≤x∧x<4:=fun x hx=>by have:=h.rng x hx;omega
 have hO:=zFP (fee:=zBp b) (zAs:=l) l.length
 simp only [zAV,hs,if_true]
 apply List.ext_getElem?
 intro i
 rw [List.getElem?_take,List.getElem?_map]
 by_cases hi:i<b.cr.toNat
 ·rw [if_pos hi,List.getElem?_range hi,List.getElem?_eq_getElem (by omega)]
  have:=zMw hx l.length (Nat.le_refl _) (by rw [h.len];exact Nat.le_refl _) i (by omega)
  rw [zAE (by omega)] at this
  simp [this]
 ·rw [if_neg hi,List.getElem?_eq_none (by simpa using hi)];rfl
section
variable [Yo]
end
end Go.Eng
set_option maxRecDepth 10000
set_option maxHeartbeats 4000000
namespace Go.Eng
open Go Go.Proofs
section
variable [Yo]
end
end Go.Eng
set_option maxRecDepth 10000
set_option maxHeartbeats 4000000
namespace Go.Eng
open Go Go.Proofs
section
variable [Yo]
end
end Go.Eng
namespace Go.Eng
open Go Go.Proofs
section
variable [Yo]
theorem f17 (l:List Int) (hl:l.length<1000000):FG 17 [zCb l] (.own 1 (l.map I)):=by
 refine zAi Try.f17 ?_
 refine zAb (zAa (zAe 1 (zAc (zAb (zAa (zAe 1 (S_a [(0,.n (l.length))] (ap ((by simp):some (List.map I l).length=some l.length) an) (S_a [(4,.ob),(0,.ob),(1,.v (PV.own 1 (List.map I (List.replicate l.length 0))))] (ap ((by exact zAu (by omega)):decide (l.length≤l.length)=true) (ap ((by exact zAu (by simp [zAC]<;>omega)):decide (l.length≤zAC)=true) (ap ((by simp):PV.own 1 (List.replicate l.length (I 0))=PV.own 1 (List.map I (List.replicate l.length 0))) an))) (zAe 1 (zAc (zAb (zAa (zAe 2 (zTi (fun q=>q) 3 1 (List.map I (List.replicate l.length 0)) (List.map I l) (List.map I l) (zSy fun _ _=>(by first | exact zSb | exact ⟨rfl,rfl,rfl,rfl,Nat.le_refl _,rfl⟩)) (by simp<;>omega) (zT1 (by simp<;>omega)) zTB.nil (zAc (zAb (zAa (zAe 1 (S_a [(2,.yes)] (ap ((by exact zBF (by simp<;>omega)):(Nat.beq 0 0&&(List.map I l).length.beq (List.map I l).length)=true) an) (zAc (zAD (E_a [(1,.yes),(1,.v (PV.own 1 (List.map I l)))] (ap ((by exact zAw (by simp only [List.length_map,zzLn,zAC]<;>omega)):(0+(List.map I l).length).ble (List.map I l).length=true) (ap ((by simp [zDy]):PV.own 1 (List.take (List.map I l).length (List.drop 0 (List.map I l)))=PV.own 1 (List.map I l)) an)) (PV.own 1 (List.map I l)) ([]) rfl rfl))))))))))))))))))))))
end
section
variable [Yo]
end
section
variable [Yo]
end
end Go.Eng
set_option maxRecDepth 10000
set_option maxHeartbeats 4000000
namespace Go.Eng
open Go Go.Proofs
abbrev zKh (r:Rnd):PV := .agg [I r.w,I r.s,.own 1 (r.may.map I)]
section
variable [Yo]
end
end Go.Eng
namespace Go.Eng
open Go Go.Proofs
abbrev u8 (n:Int):PV := .int .u8 n
abbrev u32 (n:Int):PV := .int .u32 n
abbrev zBY (l:List Int) (a:Nat) (t:Int):PV := .box (.agg [.sl (l.map u8),I a,u32 t])
abbrev zO5:PV := .addr 50000000 [] 0 0 (some 3)
def zDH (l:List Int) (a:Nat):Prop:=a≤l.length∧l.length<9223372036854775808
def zGb (l:List Int) (a:Nat):Nat:=if a=l.length then 0 else a
def zAF (l:List Int) (a:Nat) (t:Int):Int:=if a=l.length then IntKind.u32.wrap (t+1) else t
def zAk (l:List Int) (a:Nat):Nat:=if 0<l.length then zGb l a+1 else zGb l a
theorem zB0 {l:List Int} {a:Nat} (h:zDH l a):zDH l (zAk l a):=by
 obtain ⟨h1,h2⟩:=h
 refine ⟨?_,h2⟩
 unfold zAk zGb
 repeat' split
 all_goals omega
def zOF (n:Int):Int:=IntKind.u32.wrap ↑(BitVec.ofInt IntKind.u32.bits (IntKind.u32.wrap ↑(BitVec.ofInt IntKind.u32.bits n ^^^ BitVec.ofInt IntKind.u32.bits (n.fdiv (2 ^ min (Int.toNat 7) IntKind.u32.bits))).toNat) &&& BitVec.ofInt IntKind.u32.bits 65535).toNat
theorem zN2 (n:Int):0≤zOF n∧zOF n≤65535:=by
 unfold zOF
 generalize BitVec.ofInt IntKind.u32.bits (IntKind.u32.wrap ↑(BitVec.ofInt IntKind.u32.bits n ^^^ BitVec.ofInt IntKind.u32.bits (n.fdiv (2 ^ min (Int.toNat 7) IntKind.u32.bits))).toNat)=x
 have h:(x &&& BitVec.ofInt IntKind.u32.bits 65535).toNat≤65535:=by
  rw [BitVec.toNat_and]
  exact Nat.le_trans Nat.and_le_right (by decide)
 generalize (x &&& BitVec.ofInt IntKind.u32.bits 65535).toNat=m at h
 have:IntKind.u32.wrap (m:Int)=m:=by
  simp only [IntKind.wrap]
  simp [IntKind.signed,IntKind.bits]
  omega
 rw [this];omega
def zHk (l:List Int) (a:Nat) (t:Int):Int:=zOF (if 0<l.length then IntKind.u32.wrap (IntKind.u32.wrap (30011*zAF l a t)+IntKind.u32.wrap (263*IntKind.u32.wrap (l.getD (zGb l a) 0))) else IntKind.u32.wrap (30011*zAF l a t))
theorem zRF (l:List Int) (a:Nat) (t:Int):0≤zHk l a t∧zHk l a t≤65535:=zN2 _
def zAt (l:List Int) (a:Nat) (t:Int) (n:Int):Int:=(zHk l a t).tmod (max 1 (n+1))
theorem zBC (l:List Int) (a:Nat) (t:Int) (n:Int):0≤zAt l a t n∧zAt l a t n≤max 0 n:=by
 have h1:=zRF l a t
 have h2:0<max 1 (n+1):=by omega
 have h3:=Int.tmod_nonneg (max 1 (n+1)) h1.1
 have h4:=Int.tmod_lt_of_pos (zHk l a t) h2
 unfold zAt
 omega
section
variable [Yo]
theorem f22 (l:List Int):FG 22 [.sl (l.map u8)] (zBY l 0 0):=by
 refine zAi Try.f22 ?_
 refine zAb (zAa (zAe 1 (zAc (zAb (zAa (zAe 4 (zAc (zAD (E_a [] an ((PV.agg [PV.sl (List.map u8 l),I 0,PV.int IntKind.u32 0]).box) ([]) rfl rfl)))))))))
theorem f86 (l:List Int) (a:Nat) (t:Int) (h:zDH l a):zA2 Try.prog zAq 86 [zO5] [zBY l a t] (I (zHk l a t)) [zBY l (zAk l a) (zAF l a t)]:=by
 refine zAi Try.f86 ?_
 have h1:=h.1
 have h2:=h.2
 have hb:∀ n,-9223372036854775808≤zOF n∧zOF n<9223372036854775808:=fun n=>by have:=zN2 n;omega
 refine zAb (zAa (zAe 1 (zAc (zAb (zAb (zAa (zAe 8 (S_a [(0,.n (l.length))] (ap ((by simp):some (List.map u8 l).length=some l.length) an) (zAe 1 (zAc (zCC ((↑a:Int)=(↑l.length:Int)) (fun k0=>(zAa (zAe 6 (zAe 1 (zAe 6 (zAc (zAb (zAa (zAe 3 (zAe 1 (zAe 1 (zAe 1 (zAc (zAb (zAb (zAa (zAe 4 (S_a [(0,.n (l.length))] (ap ((by simp):some (List.map u8 l).length=some l.length) an) (zAe 1 (zAc (zCC ((↑l.length:Int)>0) (fun k1=>(zAb (zAa (zAe 9 (S_a [(2,.v (PV.int IntKind.u8 (l.getD 0 0)))] (ap (zBd (0) (by omega):(List.map u8 l)[0]? = some (PV.int IntKind.u8 (l.getD 0 0))) an) (zAe 1 (zAe 1 (zAe 1 (zAe 1 (zAe 1 (zAc (zAa (zAe 8 (zAc (zAb (zAa (zAe 2 (zAe 1 (zAe 1 (zAe 1 (S_a [(0,.v (I (IntKind.u32.wrap (↑(BitVec.ofInt IntKind.u32.bits (IntKind.u32.wrap (↑(BitVec.ofInt IntKind.u32.bits (IntKind.u32.wrap (IntKind.u32.wrap (30011*IntKind.u32.wrap (t+1))+IntKind.u32.wrap (263*IntKind.u32.wrap (l.getD 0 0)))) ^^^ BitVec.ofInt IntKind.u32.bits ((IntKind.u32.wrap (IntKind.u32.wrap (30011*IntKind.u32.wrap (t+1))+IntKind.u32.wrap (263*IntKind.u32.wrap (l.getD 0 0)))).fdiv (2 ^ min (Int.toNat 7) IntKind.u32.bits))).toNat:Int)) &&& BitVec.ofInt IntKind.u32.bits 65535).toNat:Int))))] (ap ((zAH rfl ?_):I (IntKind.i64.wrap (IntKind.u32.wrap (↑(BitVec.ofInt IntKind.u32.bits (IntKind.u32.wrap (↑(BitVec.ofInt IntKind.u32.bits (IntKind.u32.wrap (IntKind.u32.wrap (30011*IntKind.u32.wrap (t+1))+IntKind.u32.wrap (263*IntKind.u32.wrap (l.getD 0 0)))) ^^^ BitVec.ofInt IntKind.u32.bits ((IntKind.u32.wrap (IntKind.u32.wrap (30011*IntKind.u32.wrap (t+1))+IntKind.u32.wrap (263*IntKind.u32.wrap (l.getD 0 0)))).fdiv (2 ^ min (Int.toNat 7) IntKind.u32.bits))).toNat:Int)) &&& BitVec.ofInt IntKind.u32.bits 65535).toNat:Int)))=I (IntKind.u32.wrap (↑(BitVec.ofInt IntKind.u32.bits (IntKind.u32.wrap (↑(BitVec.ofInt IntKind.u32.bits (IntKind.u32.wrap (IntKind.u32.wrap (30011*IntKind.u32.wrap (t+1))+IntKind.u32.wrap (263*IntKind.u32.wrap (l.getD 0 0)))) ^^^ BitVec.ofInt IntKind.u32.bits ((IntKind.u32.wrap (IntKind.u32.wrap (30011*IntKind.u32.wrap (t+1))+IntKind.u32.wrap (263*IntKind.u32.wrap (l.getD 0 0)))).fdiv (2 ^ min (Int.toNat 7) IntKind.u32.bits))).toNat:Int)) &&& BitVec.ofInt IntKind.u32.bits 65535).toNat:Int))) an) (zAe 1 (zAc (zAD (E_a [] an (I (IntKind.u32.wrap (↑(BitVec.ofInt IntKind.u32.bits (IntKind.u32.wrap (↑(BitVec.ofInt IntKind.u32.bits (IntKind.u32.wrap (IntKind.u32.wrap (30011*IntKind.u32.wrap (t+1))+IntKind.u32.wrap (263*IntKind.u32.wrap (l.getD 0 0)))) ^^^ BitVec.ofInt IntKind.u32.bits ((IntKind.u32.wrap (IntKind.u32.wrap (30011*IntKind.u32.wrap (t+1))+IntKind.u32.wrap (263*IntKind.u32.wrap (l.getD 0 0)))).fdiv (2 ^ min (Int.toNat 7) IntKind.u32.bits))).toNat:Int)) &&& BitVec.ofInt IntKind.u32.bits 65535).toNat:Int))) ([(PV.agg [PV.sl (List.map u8 l),I (IntKind.i64.wrap (0+1)),PV.int IntKind.u32 (IntKind.u32.wrap (t+1))]).box]) ?_ ?_))))))))))))))))))))))))) (fun k1=>(zAn (zAb (zAa (zAe 2 (zAe 1 (zAe 1 (zAe 1 (S_a [(0,.v (I (IntKind.u32.wrap (↑(BitVec.ofInt IntKind.u32.bits (IntKind.u32.wrap (↑(BitVec.ofInt IntKind.u32.bits (IntKind.u32.wrap (30011*IntKind.u32.wrap (t+1))) ^^^ BitVec.ofInt IntKind.u32.bits ((IntKind.u32.wrap (30011*IntKind.u32.wrap (t+1))).fdiv (2 ^ min (Int.toNat 7) IntKind.u32.bits))).toNat:Int)) &&& BitVec.ofInt IntKind.u32.bits 65535).toNat:Int))))] (ap ((zAH rfl ?_):I (IntKind.i64.wrap (IntKind.u32.wrap (↑(BitVec.ofInt IntKind.u32.bits (IntKind.u32.wrap (↑(BitVec.ofInt IntKind.u32.bits (IntKind.u32.wrap (30011*IntKind.u32.wrap (t+1))) ^^^ BitVec.ofInt IntKind.u32.bits ((IntKind.u32.wrap (30011*IntKind.u32.wrap (t+1))).fdiv (2 ^ min (Int.toNat 7) IntKind.u32.bits))).toNat:Int)) &&& BitVec.ofInt IntKind.u32.bits 65535).toNat:Int)))=I (IntKind.u32.wrap (↑(BitVec.ofInt IntKind.u32.bits (IntKind.u32.wrap (↑(BitVec.ofInt IntKind.u32.bits (IntKind.u32.wrap (30011*IntKind.u32.wrap (t+1))) ^^^ BitVec.ofInt IntKind.u32.bits ((IntKind.u32.wrap (30011*IntKind.u32.wrap (t+1))).fdiv (2 ^ min (Int.toNat 7) IntKind.u32.bits))).toNat:Int)) &&& BitVec.ofInt IntKind.u32.bits 65535).toNat:Int))) an) (zAe 1 (zAc (zAD (E_a [] an (I (IntKind.u32.wrap (↑(BitVec.ofInt IntKind.u32.bits (IntKind.u32.wrap (↑(BitVec.ofInt IntKind.u32.bits (IntKind.u32.wrap (30011*IntKind.u32.wrap (t+1))) ^^^ BitVec.ofInt IntKind.u32.bits ((IntKind.u32.wrap (30011*IntKind.u32.wrap (t+1))).fdiv (2 ^ min (Int.toNat 7) IntKind.u32.bits))).toNat:Int)) &&& BitVec.ofInt IntKind.u32.bits 65535).toNat:Int))) ([(PV.agg [PV.sl (List.map u8 l),I 0,PV.int IntKind.u32 (IntKind.u32.wrap (t+1))]).box]) ?_ ?_)))))))))))))))))))))))))))))))))) (fun k0=>(zAn (zAb (zAa (zAe 4 (zAe 1 (zAe 1 (zAc (zAb (zAb (zAa (zAe 4 (S_a [(0,.n (l.length))] (ap ((by simp):some (List.map u8 l).length=some l.length) an) (zAe 1 (zAc (zBN ((↑l.length:Int)>0) (by omega) (zAb (zAa (zAe 9 (S_a [(2,.v (PV.int IntKind.u8 (l.getD a 0)))] (ap (zBd (0) (by omega):(List.map u8 l)[a]? = some (PV.int IntKind.u8 (l.getD a 0))) an) (zAe 1 (zAe 1 (zAe 1 (zAe 1 (zAe 1 (zAc (zAa (zAe 4 (S_a [(1,.v (I (↑(a+1):Int)))] (ap ((zAH (by omega) (by omega)):I (IntKind.i64.wrap ((↑a:Int)+1))=I (↑(a+1):Int)) an) (zAe 3 (zAc (zAb (zAa (zAe 2 (zAe 1 (zAe 1 (zAe 1 (S_a [(0,.v (I (IntKind.u32.wrap (↑(BitVec.ofInt IntKind.u32.bits (IntKind.u32.wrap (↑(BitVec.ofInt IntKind.u32.bits (IntKind.u32.wrap (IntKind.u32.wrap (30011*t)+IntKind.u32.wrap (263*IntKind.u32.wrap (l.getD a 0)))) ^^^ BitVec.ofInt IntKind.u32.bits ((IntKind.u32.wrap (IntKind.u32.wrap (30011*t)+IntKind.u32.wrap (263*IntKind.u32.wrap (l.getD a 0)))).fdiv (2 ^ min (Int.toNat 7) IntKind.u32.bits))).toNat:Int)) &&& BitVec.ofInt IntKind.u32.bits 65535).toNat:Int))))] (ap ((zAH rfl ?_):I (IntKind.i64.wrap (IntKind.u32.wrap (↑(BitVec.ofInt IntKind.u32.bits (IntKind.u32.wrap (↑(BitVec.ofInt IntKind.u32.bits (IntKind.u32.wrap (IntKind.u32.wrap (30011*t)+IntKind.u32.wrap (263*IntKind.u32.wrap (l.getD a 0)))) ^^^ BitVec.ofInt IntKind.u32.bits ((IntKind.u32.wrap (IntKind.u32.wrap (30011*t)+IntKind.u32.wrap (263*IntKind.u32.wrap (l.getD a 0)))).fdiv (2 ^ min (Int.toNat 7) IntKind.u32.bits))).toNat:Int)) &&& BitVec.ofInt IntKind.u32.bits 65535).toNat:Int)))=I (IntKind.u32.wrap (↑(BitVec.ofInt IntKind.u32.bits (IntKind.u32.wrap (↑(BitVec.ofInt IntKind.u32.bits (IntKind.u32.wrap (IntKind.u32.wrap (30011*t)+IntKind.u32.wrap (263*IntKind.u32.wrap (l.getD a 0)))) ^^^ BitVec.ofInt IntKind.u32.bits ((IntKind.u32.wrap (IntKind.u32.wrap (30011*t)+IntKind.u32.wrap (263*IntKind.u32.wrap (l.getD a 0)))).fdiv (2 ^ min (Int.toNat 7) IntKind.u32.bits))).toNat:Int)) &&& BitVec.ofInt IntKind.u32.bits 65535).toNat:Int))) an) (zAe 1 (zAc (zAD (E_a [] an (I (IntKind.u32.wrap (↑(BitVec.ofInt IntKind.u32.bits (IntKind.u32.wrap (↑(BitVec.ofInt IntKind.u32.bits (IntKind.u32.wrap (IntKind.u32.wrap (30011*t)+IntKind.u32.wrap (263*IntKind.u32.wrap (l.getD a 0)))) ^^^ BitVec.ofInt IntKind.u32.bits ((IntKind.u32.wrap (IntKind.u32.wrap (30011*t)+IntKind.u32.wrap (263*IntKind.u32.wrap (l.getD a 0)))).fdiv (2 ^ min (Int.toNat 7) IntKind.u32.bits))).toNat:Int)) &&& BitVec.ofInt IntKind.u32.bits 65535).toNat:Int))) ([(PV.agg [PV.sl (List.map u8 l),I (↑(a+1):Int),PV.int IntKind.u32 t]).box]) ?_ ?_)))))))))))))))))))))))))))))))))))))))))))))))))))))
 ·exact hb _
 ·have e1:a=l.length:=by omega
  have e2:0<l.length:=by omega
  simp only [zHk,zGb,zAF,e1,e2,if_true];rfl
 ·have e1:a=l.length:=by omega
  have e2:0<l.length:=by omega
  simp only [zAk,zGb,zAF,e1,e2,if_true];rfl
 ·exact hb _
 ·have e1:a=l.length:=by omega
  have e2:¬ 0<l.length:=by omega
  simp only [zHk,zGb,zAF,e1,e2,if_true,if_false];rfl
 ·have e1:a=l.length:=by omega
  have e2:¬ 0<l.length:=by omega
  simp only [zAk,zGb,zAF,e1,e2,if_true,if_false];rfl
 ·exact hb _
 ·have e1:¬ a=l.length:=by omega
  have e2:0<l.length:=by omega
  simp only [zHk,zGb,zAF,e1,e2,if_true,if_false];rfl
 ·have e1:¬ a=l.length:=by omega
  have e2:0<l.length:=by omega
  simp only [zAk,zGb,zAF,e1,e2,if_true,if_false]
theorem f24 (l:List Int) (a:Nat) (t:Int) (n:Int) (h:zDH l a) (hn : -9000000000000000000≤n∧n≤9000000000000000000):zA2 Try.prog zAq 24 [zO5,I n] [zBY l a t] (I (zAt l a t n)) [zBY l (zAk l a) (zAF l a t)]:=by
 refine zAi Try.f24 ?_
 have e:(if n+1>1 then n+1 else 1)=max 1 (n+1):=by split<;>omega
 refine zAb (zAa (zAe 1 (zAc (zAb (zAa (zAe 1 (S_a [(4,.ret (I (zHk l a t)) ([zBY l (zAk l a) (zAF l a t)]))] (ap (f86 (l) (a) (t) (by omega)) an) (zAe 1 (S_a [(1,.v (I (n+1)))] (ap ((zAH rfl (by omega)):I (IntKind.i64.wrap (n+1))=I (n+1)) an) (zAe 1 (S_a [(0,.v (I ((zHk l a t).tmod (if n+1>1 then n+1 else 1))))] (ap (zQz (by omega) rfl:zPf Try.prog BinOp.rem 3 (I (zHk l a t)) (I (if n+1>1 then n+1 else 1))=some (I ((zHk l a t).tmod (if n+1>1 then n+1 else 1)))) an) (zAe 1 (zAc (zAD (E_a [] an (I ((zHk l a t).tmod (if n+1>1 then n+1 else 1))) ([(PV.agg [PV.sl (List.map u8 l),I (↑(zAk l a):Int),PV.int IntKind.u32 (zAF l a t)]).box]) ?_ rfl)))))))))))))))
 rw [e];rfl
theorem f27 (l:List Int) (a:Nat) (t:Int) (lo hi:Int) (h:zDH l a) (hl:0≤lo∧lo≤1000000) (hn:0≤hi∧hi≤1000000):zA2 Try.prog zAq 27 [zO5,I lo,I hi] [zBY l a t] (I (lo+zAt l a t (hi-lo))) [zBY l (zAk l a) (zAF l a t)]:=by
 refine zAi Try.f27 ?_
 have:=zBC l a t (hi-lo)
 refine zAb (zAa (zAe 1 (zAc (zAb (zAa (zAe 4 (S_a [(1,.v (I (hi-lo)))] (ap ((zAH rfl (by omega)):I (IntKind.i64.wrap (hi-lo))=I (hi-lo)) an) (S_a [(6,.ret (I (zAt l a t (hi-lo))) ([zBY l (zAk l a) (zAF l a t)]))] (ap (f24 (l) (a) (t) (hi-lo) (by omega) (by omega)) an) (S_a [(1,.v (I (lo+zAt l a t (hi-lo))))] (ap ((zAH rfl (by omega)):I (IntKind.i64.wrap (lo+zAt l a t (hi-lo)))=I (lo+zAt l a t (hi-lo))) an) (zAe 1 (zAc (zAD (E_a [] an (I (lo+zAt l a t (hi-lo))) ([(PV.agg [PV.sl (List.map u8 l),I (↑(zAk l a):Int),PV.int IntKind.u32 (zAF l a t)]).box]) rfl rfl)))))))))))))
theorem f28 (l:List Int) (a:Nat) (t:Int) (n:Int) (h:zDH l a) (hn:0≤n∧n≤1000000):zA2 Try.prog zAq 28 [zO5,I n] [zBY l a t] (.bool (decide (zAt l a t (n-1)=0))) [zBY l (zAk l a) (zAF l a t)]:=by
 refine zAi Try.f28 ?_
 refine zAb (zAa (zAe 1 (zAc (zAb (zAa (zAe 2 (S_a [(1,.v (I (n-1)))] (ap ((zAH rfl (by omega)):I (IntKind.i64.wrap (n-1))=I (n-1)) an) (S_a [(6,.ret (I (zAt l a t (n-1))) ([zBY l (zAk l a) (zAF l a t)]))] (ap (f24 (l) (a) (t) (n-1) (by omega) (by omega)) an) (zAe 2 (zAc (zAD (E_a [] an (PV.bool (zAt l a t (n-1)==0)) ([(PV.agg [PV.sl (List.map u8 l),I (↑(zAk l a):Int),PV.int IntKind.u32 (zAF l a t)]).box]) rfl rfl))))))))))))
end
end Go.Eng
set_option maxRecDepth 10000
set_option maxHeartbeats 4000000
namespace Go.Eng
open Go Go.Proofs
theorem zRh {b:Dk} (h:Good b):zBs b=0:=by
 have h1:(!(decide (1≤b.cr)&&decide (b.cr≤4)))=false:=by have:=h.cr;simp;omega
 have h2:¬ (b.rs.length:Int)>7:=by have:=h.len;omega
 have h3:(!(decide (0≤b.wd)&&decide (b.wd≤20)))=false:=by have:=h.wd;simp;omega
 have h4:(!(decide (0≤b.st)&&decide (b.st≤20)))=false:=by have:=h.st;simp;omega
 have h5:(!(decide (0≤b.fn)&&decide (b.fn≤20)))=false:=by have:=h.fn;simp;omega
 have h6:(!b.rs.all zCr)=false:=by
  simp only [Bool.not_eq_false',List.all_eq_true]
  intro r hr
  have:=h.num r hr
  simp [zCr];omega
 have h7:∀ rs:List Rnd,(∀ r∈rs,r∈b.rs)→zDb b.cr rs=0:=by
  intro rs
  induction rs with
  | nil=>intro _;rfl
  | cons r rs ih =>
   intro hm
   have h8:=h.may r (hm r (by simp))
   have h9:(!r.may.all (fun x=>decide (0≤x)&&decide (x≤b.cr-1)))=false:=by
    simp only [Bool.not_eq_false',List.all_eq_true]
    intro x hx;have:=h8.2.1 x hx;simp;omega
   have e:zDh b.cr r=0:=by simp only [zDh,h8.1,h9,h8.2.2,if_false];rfl
   simp only [zDb,e,if_true]
   exact ih fun q hq=>hm q (by simp [hq])
 simp only [zBs,h1,h2,h3,h4,h5,h6,if_false]
 exact h7 _ fun _ h=>h
theorem zR2 {l:List Int} {x:Int} (h:zMC l=true) (hx:∀ y∈l,y<x):zMC (l++[x])=true:=by
 refine zSW fun j hj=>?_
 simp only [List.length_append,List.length_singleton] at hj
 rcases Nat.lt_or_ge (j+1) l.length with h1 | h1
 ·have:=zN5 h h1
  simpa [List.getD_eq_getElem?_getD,List.getElem?_append_left h1,List.getElem?_append_left (show j<l.length by omega)] using this
 ·have e:l.length=j+1:=by omega
  have h2:l.getD j 0<x:=hx _ (by rw [zAE (by omega)];exact List.getElem_mem _)
  have e2:(l++[x]).getD (j+1) 0=x:=by rw [← e];simp
  have e3:(l++[x]).getD j 0=l.getD j 0:=by simp [List.getD_eq_getElem?_getD,List.getElem?_append_left (show j<l.length by omega)]
  rw [e2,e3];exact h2
theorem zKr {l:List Int} {n:Int} (h:zMC l=true) (hx:∀ x∈l,0≤x∧x≤n-1) (hn:1≤n∧n≤4):l.length≤4:=by
 have:∀ j,j<l.length→(j:Int)≤l.getD j 0:=by
  intro j
  induction j with
  | zero=>intro hj;exact (zB6 hx 0 hj).1
  | succ j ih =>
   intro hj
   have h1:=ih (by omega)
   have h2:=zN5 h hj
   omega
 rcases Nat.lt_or_ge 4 l.length with h4 | h4
 ·have h1:=this 4 h4
  have h2:=zB6 hx 4 h4
  omega
 ·exact h4
abbrev zVR (b:Dk):PV := .agg [I b.cr,I b.wd,I b.st,I b.fn,.own 3 (b.rs.map zKh)]
structure RndOk (cr:Int) (r:Rnd):Prop where
 w:1≤r.w∧r.w≤9
 s:1≤r.s∧r.s≤5
 n:r.may.length≠0
 may:∀ x∈r.may,0≤x∧x≤cr-1
 inc:zMC r.may=true
section
variable [Yo]
theorem f21_ex (l:List Int) (a:Nat) (t n:Int) (h:zDH l a) (hn:0≤n∧n≤7):∃ v h',zA2 Try.prog zAq 21 [zO5,I n] [zBY l a t] v h'∧∃ b a' t',v=zVR b∧h'=[zBY l a' t']∧Good b∧(b.rs.length:Int)≤n∧zDH l a':=by
 refine zLV Try.f21 _ ?_
 have g1:=zB0 h
 have g2:=zB0 g1
 have g3:=zB0 g2
 have g4:=zB0 g3
 have g5:=zB0 g4
 have s1:=zBC l a t (4-1)
 have s2:=zBC l (zAk l a) (zAF l a t) 4
 have s3:=zBC l (zAk l (zAk l a)) (zAF l (zAk l a) (zAF l a t)) 6
 have s4:=zBC l (zAk l (zAk l (zAk l a))) (zAF l (zAk l (zAk l a)) (zAF l (zAk l a) (zAF l a t))) 3
 have s5:=zBC l (zAk l (zAk l (zAk l (zAk l a)))) (zAF l (zAk l (zAk l (zAk l a))) (zAF l (zAk l (zAk l a)) (zAF l (zAk l a) (zAF l a t)))) n
 refine zAb (zAa (zAe 1 (zAc (zAb (zAa (zAe 1 (S_a [(8,.ret (I (1+zAt l a t (4-1))) ([zBY l (zAk l a) (zAF l a t)]))] (ap (f27 (l) (a) (t) (1) (4) (by omega) (by omega) (by omega)) an) (zAe 1 (S_a [(6,.ret (I (zAt l (zAk l a) (zAF l a t) 4)) ([zBY l (zAk l (zAk l a)) (zAF l (zAk l a) (zAF l a t))]))] (ap (f24 (l) (zAk l a) (zAF l a t) (4) (by omega) (by omega)) an) (zAe 1 (S_a [(6,.ret (I (zAt l (zAk l (zAk l a)) (zAF l (zAk l a) (zAF l a t)) 6)) ([zBY l (zAk l (zAk l (zAk l a))) (zAF l (zAk l (zAk l a)) (zAF l (zAk l a) (zAF l a t)))]))] (ap (f24 (l) (zAk l (zAk l a)) (zAF l (zAk l a) (zAF l a t)) (6) (by omega) (by omega)) an) (zAe 1 (S_a [(6,.ret (I (zAt l (zAk l (zAk l (zAk l a))) (zAF l (zAk l (zAk l a)) (zAF l (zAk l a) (zAF l a t))) 3)) ([zBY l (zAk l (zAk l (zAk l (zAk l a)))) (zAF l (zAk l (zAk l (zAk l a))) (zAF l (zAk l (zAk l a)) (zAF l (zAk l a) (zAF l a t))))]))] (ap (f24 (l) (zAk l (zAk l (zAk l a))) (zAF l (zAk l (zAk l a)) (zAF l (zAk l a) (zAF l a t))) (3) (by omega) (by omega)) an) (zAe 3 (zAc (zAb (zAb (zAa (zAe 2 (S_a [(6,.ret (I (zAt l (zAk l (zAk l (zAk l (zAk l a)))) (zAF l (zAk l (zAk l (zAk l a))) (zAF l (zAk l (zAk l a)) (zAF l (zAk l a) (zAF l a t)))) n)) ([zBY l (zAk l (zAk l (zAk l (zAk l (zAk l a))))) (zAF l (zAk l (zAk l (zAk l (zAk l a)))) (zAF l (zAk l (zAk l (zAk l a))) (zAF l (zAk l (zAk l a)) (zAF l (zAk l a) (zAF l a t)))))]))] (ap (f24 (l) (zAk l (zAk l (zAk l (zAk l a)))) (zAF l (zAk l (zAk l (zAk l a))) (zAF l (zAk l (zAk l a)) (zAF l (zAk l a) (zAF l a t)))) (n) (by omega) (by omega)) an) (zAe 1 (zAc (zAm 0 ?_)))))))))))))))))))))))
 generalize zAF l (zAk l (zAk l (zAk l (zAk l a)))) (zAF l (zAk l (zAk l (zAk l a))) (zAF l (zAk l (zAk l a)) (zAF l (zAk l a) (zAF l a t))))=T at *
 generalize zAt l (zAk l (zAk l (zAk l (zAk l a)))) (zAF l (zAk l (zAk l (zAk l a))) (zAF l (zAk l (zAk l a)) (zAF l (zAk l a) (zAF l a t)))) n=m at *
 generalize zAt l (zAk l (zAk l (zAk l a))) (zAF l (zAk l (zAk l a)) (zAF l (zAk l a) (zAF l a t))) 3=fn at *
 generalize zAt l (zAk l (zAk l a)) (zAF l (zAk l a) (zAF l a t)) 6=st at *
 generalize zAt l (zAk l a) (zAF l a t) 4=wd at *
 generalize vK:1+zAt l a t (4-1)=cr at *
 generalize zAk l (zAk l (zAk l (zAk l (zAk l a))))=A at *
 refine zBc (fun (i,q,a,t)=>(i:Int)≤m∧q.length=i∧(∀ r∈q,RndOk cr r)∧zDH l a) (fun (i,q,a,t)=>[(5,.box (.agg [I cr,I wd,I st,I fn,.own 3 (q.map zKh)])),(21,I (i:Nat)),(50000000,zBY l a t)]) (fun (i,_,_,_)=>m.toNat-i) ((0:Nat),([]:List Rnd),A,T) ⟨by omega,rfl,by simp,g5⟩ fun (i,q,a,t) ⟨hi,hq,hr,ha⟩=>?_
 have g1:=zB0 ha
 have g2:=zB0 g1
 have g3:=zB0 g2
 have u1:=zBC l a t (9-1)
 have u2:=zBC l (zAk l a) (zAF l a t) (5-1)
 have u3:=zBC l (zAk l (zAk l a)) (zAF l (zAk l a) (zAF l a t)) (cr-1)
 refine zAb (zAa (zAe 1 (zAc (zAb (zCC ((↑i:Int)<m) (fun k0=>(zAn (zAb (zAm 1 (zAb (zAa (zAe 1 (S_a [(8,.ret (I (1+zAt l a t (9-1))) ([zBY l (zAk l a) (zAF l a t)]))] (ap (f27 (l) (a) (t) (1) (9) (by omega) (by omega) (by omega)) an) (zAe 1 (S_a [(8,.ret (I (1+zAt l (zAk l a) (zAF l a t) (5-1))) ([zBY l (zAk l (zAk l a)) (zAF l (zAk l a) (zAF l a t))]))] (ap (f27 (l) (zAk l a) (zAF l a t) (1) (5) (by omega) (by omega) (by omega)) an) (zAe 3 (zAc (zAb (zAa (zAe 3 (S_a [(1,.v (I (cr-1)))] (ap ((zAH rfl (by omega)):I (IntKind.i64.wrap (cr-1))=I (cr-1)) an) (S_a [(6,.ret (I (zAt l (zAk l (zAk l a)) (zAF l (zAk l a) (zAF l a t)) (cr-1))) ([zBY l (zAk l (zAk l (zAk l a))) (zAF l (zAk l (zAk l a)) (zAF l (zAk l a) (zAF l a t)))]))] (ap (f24 (l) (zAk l (zAk l a)) (zAF l (zAk l a) (zAF l a t)) (cr-1) (by omega) (by omega)) an) (zAe 1 (zAc (zAb (zAb (zAa (zAe 3 (zAc (zAm 2 ?_))))))))))))))))))))))))) (fun k0=>(zBA 0 (zAb (zAa (zAe 1 (S_a [(4,.yes)] (ap ((by exact zBF (by simp<;>omega)):(Nat.beq 0 0&&(List.map zKh q).length.beq (List.map zKh q).length)=true) an) (zAc (zAD (E_q [(7,.yes),(1,.v (PV.own 3 (List.map zKh q)))] (ap ((by exact zAw (by simp only [List.length_map,zzLn,zAC]<;>omega)):(0+(List.map zKh q).length).ble (List.map zKh q).length=true) (ap ((zHo zEC):PV.own 3 (List.take (List.map zKh q).length (List.drop 0 (List.map zKh q)))=PV.own 3 (List.map zKh q)) an)) (PV.agg [I cr,I wd,I st,I fn,PV.own 3 (List.map zKh q)]) ([(PV.agg [PV.sl (List.map u8 l),I (↑a:Int),PV.int IntKind.u32 t]).box]) ?_))))))))))))))
 ·generalize zAF l (zAk l (zAk l a)) (zAF l (zAk l a) (zAF l a t))=T2 at *
  generalize zAt l (zAk l (zAk l a)) (zAF l (zAk l a) (zAF l a t)) (cr-1)=su at *
  generalize vH:1+zAt l (zAk l a) (zAF l a t) (5-1)=w2 at *
  generalize hw1:1+zAt l a t (9-1)=w1 at *
  generalize zAk l (zAk l (zAk l a))=A2 at *
  have hcr1:1≤cr∧cr≤4:=by omega
  refine zBc (fun (c,p,a,t)=>(c:Int)≤cr∧(∀ x∈p,0≤x∧x<c)∧zMC p=true∧(su<c→p.length≠0)∧p.length≤c∧zDH l a) (fun (c,p,a,t)=>[(6,.box (.agg [I w1,I w2,.own 1 (p.map I)])),(35,I (c:Nat)),(50000000,zBY l a t)]) (fun (c,_,_,_)=>cr.toNat-c) ((0:Nat),([]:List Int),A2,T2) ⟨by omega,by simp,rfl,by omega,Nat.le_refl _,g3⟩ fun (c,p,a,t) ⟨hc,ko,uo,hp3,hp4,ha⟩=>?_
  have g1:=zB0 ha
  have g2:=zB0 g1
  have gA:∀ x∈p++[(c:Int)],0≤x∧x<(c+1:Nat):=fun x hx=>by
   rcases List.mem_append.1 hx with hx | hx
   ·have:=ko x hx;omega
   ·rw [List.mem_singleton] at hx;omega
  have hai:zMC (p++[(c:Int)])=true:=zR2 uo fun y hy=>(ko y hy).2
  have kq:(p++[(c:Int)]).length=p.length+1:=by simp
  refine zAb (zAa (zAe 1 (zAc (zAb (zCC ((↑c:Int)<cr) (fun k1=>(zAn (zAb (zAm 3 (zAb (zAa (zAe 2 (zAc (zAb (zAa (zAe 4 (zKF 41 ((↑c:Int)=su) (fun k2=>(zAe 4 (zAc (zDY (zAa (zAe 1 (S_a [(1,.v (PV.bor 6 [(0,2)] 1 0 p.length))] (ap ((by simp):PV.bor 6 [(0,2)] 1 0 (List.map I p).length=PV.bor 6 [(0,2)] 1 0 p.length) an) (zAe 2 (S_a [(4,.ob),(0,.ob),(0,.yes),(2,.v (PV.own 1 (List.map I (p++[(↑c:Int)]))))] (ap ((by exact zAw (by simp only [List.length_map,zzLn,zAC]<;>omega)):(0+p.length).ble (List.map I p).length=true) (ap ((by exact zAw (by simp only [List.length_map,zzLn,zAC]<;>omega)):((List.map I p).length + [I (↑c:Int)].length).ble zAC=true) (ap ((by exact zBF (by simp<;>omega)):(0+p.length).beq (List.map I p).length=true) (ap ((by simp):PV.own 1 (List.map I p++[I (↑c:Int)])=PV.own 1 (List.map I (p++[(↑c:Int)]))) an)))) (zAe 2 (zAc (zAa (S_a [(1,.v (I (↑(c+1):Int)))] (ap ((zAH (by omega) (by omega)):I (IntKind.i64.wrap ((↑c:Int)+1))=I (↑(c+1):Int)) an) (zAe 1 (zAc ?_))))))))))))))) (fun k2=>(zAe 1 (S_a [(6,.ret (PV.bool (decide (zAt l a t (3-1)=0))) ([zBY l (zAk l a) (zAF l a t)]))] (ap (f28 (l) (a) (t) (3) (by omega) (by omega)) an) (zAe 2 (zAc (zGd (zAt l a t (3-1)=0) (fun k3=>(zAa (zAe 1 (S_a [(1,.v (PV.bor 6 [(0,2)] 1 0 p.length))] (ap ((by simp):PV.bor 6 [(0,2)] 1 0 (List.map I p).length=PV.bor 6 [(0,2)] 1 0 p.length) an) (zAe 2 (S_a [(4,.ob),(0,.ob),(0,.yes),(2,.v (PV.own 1 (List.map I (p++[(↑c:Int)]))))] (ap ((by exact zAw (by simp only [List.length_map,zzLn,zAC]<;>omega)):(0+p.length).ble (List.map I p).length=true) (ap ((by exact zAw (by simp only [List.length_map,zzLn,zAC]<;>omega)):((List.map I p).length + [I (↑c:Int)].length).ble zAC=true) (ap ((by exact zBF (by simp<;>omega)):(0+p.length).beq (List.map I p).length=true) (ap ((by simp):PV.own 1 (List.map I p++[I (↑c:Int)])=PV.own 1 (List.map I (p++[(↑c:Int)]))) an)))) (zAe 2 (zAc (zAa (S_a [(1,.v (I (↑(c+1):Int)))] (ap ((zAH (by omega) (by omega)):I (IntKind.i64.wrap ((↑c:Int)+1))=I (↑(c+1):Int)) an) (zAe 1 (zAc ?_)))))))))))) (fun k3=>(zAn (zAa (S_a [(1,.v (I (↑(c+1):Int)))] (ap ((zAH (by omega) (by omega)):I (IntKind.i64.wrap ((↑c:Int)+1))=I (↑(c+1):Int)) an) (zAe 1 (zAc ?_)))))))))))))))))))))))) (fun k1=>(zBA 2 (zAa (zAe 1 (S_a [(1,.v (PV.bor 5 [(0,4)] 3 0 q.length))] (ap ((by simp):PV.bor 5 [(0,4)] 3 0 (List.map zKh q).length=PV.bor 5 [(0,4)] 3 0 q.length) an) (zAe 1 (S_a [(2,.yes)] (ap ((by exact zBF (by simp<;>omega)):(Nat.beq 0 0&&(List.map I p).length.beq (List.map I p).length)=true) an) (S_a [(4,.ob),(0,.ob),(0,.yes),(2,.v (PV.own 3 (List.map zKh (q++[{w:=w1,s:=w2,may:=p}]))))] (ap ((by exact zAw (by simp only [List.length_map,zzLn,zAC]<;>omega)):(0+q.length).ble (List.map zKh q).length=true) (ap ((by exact zAw (by simp only [List.length_map,zzLn,zAC]<;>omega)):((List.map zKh q).length + [PV.agg [I w1,I w2,PV.own 1 (List.map I p)]].length).ble zAC=true) (ap ((by exact zBF (by simp<;>omega)):(0+q.length).beq (List.map zKh q).length=true) (ap ((by simp):PV.own 3 (List.map zKh q++[PV.agg [I w1,I w2,PV.own 1 (List.map I p)]])=PV.own 3 (List.map zKh (q++[{w:=w1,s:=w2,may:=p}]))) an)))) (zAe 2 (zAc (zAa (S_a [(1,.v (I (↑(i+1):Int)))] (ap ((zAH (by omega) (by omega)):I (IntKind.i64.wrap ((↑i:Int)+1))=I (↑(i+1):Int)) an) (zAe 1 (zAc ?_)))))))))))))))))))
  ·exact ⟨(c+1,p++[(c:Int)],a,t),⟨by omega,gA,hai,by omega,by omega,ha⟩,by simp only;omega,by kernel_rfl,by kernel_rfl⟩
  ·exact ⟨(c+1,p++[(c:Int)],zAk l a,zAF l a t),⟨by omega,gA,hai,by omega,by omega,g1⟩,by simp only;omega,by kernel_rfl,by kernel_rfl⟩
  ·exact ⟨(c+1,p,zAk l a,zAF l a t),⟨by omega,fun x hx=>by have:=ko x hx;omega,uo,fun h=>hp3 (by omega),by omega,g1⟩,by simp only;omega,by kernel_rfl,by kernel_rfl⟩
  ·refine ⟨(i+1,q++[⟨w1,w2,p⟩],a,t),⟨by omega,by simp [hq],fun r yq=>?_,ha⟩,by simp only;omega,by kernel_rfl,by kernel_rfl⟩
   rcases List.mem_append.1 yq with yq | yq
   ·exact hr r yq
   ·rw [List.mem_singleton] at yq;subst yq
    exact ⟨by simp only;omega,by simp only;omega,hp3 (by omega),fun x hx=>by have:=ko x hx;omega,uo⟩
 ·refine ⟨⟨cr,wd,st,fn,q⟩,a,t,rfl,rfl,⟨by simp only;omega,by simp only;omega,by simp only;omega,by simp only;omega,by simp only;omega,fun r h=>⟨(hr r h).w,(hr r h).s⟩,fun r h=>⟨(hr r h).n,(hr r h).may,(hr r h).inc⟩⟩,by simp only;omega,ha⟩
theorem f57 (b:Dk) (r:Nat) (hr:r<b.rs.length) (hg:Good b):FG 57 [zHE b,I r] (I (zE9 b (rnd b r))):=by
 refine zAi Try.f57 ?_
 have h1:=hg.wd
 have h2:=hg.st
 have h3:=zKE hg hr
 have h4:0≤(b.rs.getD r default).w*b.wd∧(b.rs.getD r default).w*b.wd≤9*20:=⟨Int.mul_nonneg (by omega) (by omega),Int.mul_le_mul (by omega) (by omega) (by omega) (by omega)⟩
 have h5:0≤(b.rs.getD r default).s*(b.st+(b.rs.getD r default).w*b.wd)∧(b.rs.getD r default).s*(b.st+(b.rs.getD r default).w*b.wd)≤1000:=zIc hg h3
 refine zAb (zAa (zAe 2 (zAc (zAb (zAa (zAe 3 (S_a [(2,.v (PV.agg [I (b.rs.getD r default).w,I (b.rs.getD r default).s,PV.sl (List.map I (b.rs.getD r default).may)]))] (ap (zBd (default) (by omega):(List.map zDF b.rs)[r]? = some (PV.agg [I (b.rs.getD r default).w,I (b.rs.getD r default).s,PV.sl (List.map I (b.rs.getD r default).may)])) an) (zAe 3 (zAc (zAb (zAa (zAe 8 (S_a [(1,.v (I ((b.rs.getD r default).w*b.wd)))] (ap ((zAH rfl (by omega)):I (IntKind.i64.wrap ((b.rs.getD r default).w*b.wd))=I ((b.rs.getD r default).w*b.wd)) an) (S_a [(1,.v (I (b.st+(b.rs.getD r default).w*b.wd)))] (ap ((zAH rfl (by omega)):I (IntKind.i64.wrap (b.st+(b.rs.getD r default).w*b.wd))=I (b.st+(b.rs.getD r default).w*b.wd)) an) (S_a [(1,.v (I ((b.rs.getD r default).s*(b.st+(b.rs.getD r default).w*b.wd))))] (ap ((zAH rfl (by omega)):I (IntKind.i64.wrap ((b.rs.getD r default).s*(b.st+(b.rs.getD r default).w*b.wd)))=I ((b.rs.getD r default).s*(b.st+(b.rs.getD r default).w*b.wd))) an) (zAe 1 (zAc (zAD (E_a [] an (I ((b.rs.getD r default).s*(b.st+(b.rs.getD r default).w*b.wd))) ([]) rfl rfl)))))))))))))))))))
theorem f23_ex (l:List Int) (a:Nat) (t:Int) (b:Dk) (h:zDH l a) (hg:Good b):∃ v h',zA2 Try.prog zAq 23 [zO5,zHE b] [zBY l a t] v h'∧∃ s a' t',v = .own 1 (s.map I)∧h'=[zBY l a' t']∧ShareOk b s∧zDH l a':=by
 refine zLV Try.f23 _ ?_
 have hO:=hg.len
 have vK:=hg.cr
 refine zAb (zAa (zAe 2 (zAc (zAb (zAa (zAe 1 (zAc (zAb (zAb (zAa (zAe 2 (S_a [(0,.n (b.rs.length))] (ap ((by simp):some (List.map zDF b.rs).length=some b.rs.length) an) (zAe 1 (zAc (zAm 0 ?_)))))))))))))))
 refine zBc (fun (i,s,a,t)=>i≤b.rs.length∧zDH l a∧s.length=i∧(∀ r,r<i→has (rnd b r).may (s.getD r 0)=true∧0≤s.getD r 0∧s.getD r 0≤b.cr-1)) (fun (i,s,a,t)=>[(5,.own 1 (s.map I)),(11,I (i:Nat)),(50000000,zBY l a t)]) (fun (i,_,_,_)=>b.rs.length-i) ((0:Nat),([]:List Int),a,t) ⟨Nat.zero_le _,h,rfl,fun r hr=>absurd hr (Nat.not_lt_zero _)⟩ fun (i,s,a,t) ⟨hi,ha,hs,hm⟩=>?_
 have hma:i<b.rs.length→(b.rs.getD i default).may.length≠0∧(b.rs.getD i default).may.length≤4:=fun h=>⟨(zF1 hg h).1,zKr (zF1 hg h).2.2 (zF1 hg h).2.1 vK⟩
 have yR:=zBC l a t ((((b.rs.getD i default).may.length-1:Nat):Int))
 have g1:=zB0 ha
 refine zAb (zAa (zAe 1 (zAc (zAb (zCC ((↑i:Int)<(↑b.rs.length:Int)) (fun k0=>(zAn (zAb (zAm 1 (zAb (zAa (S_a [(2,.v (PV.agg [I (b.rs.getD i default).w,I (b.rs.getD i default).s,PV.sl (List.map I (b.rs.getD i default).may)]))] (ap (zBd (default) (by omega):(List.map zDF b.rs)[i]? = some (PV.agg [I (b.rs.getD i default).w,I (b.rs.getD i default).s,PV.sl (List.map I (b.rs.getD i default).may)])) an) (zAe 3 (zAc (zAa (zAe 6 (S_a [(0,.n ((b.rs.getD i default).may.length))] (ap ((by simp):some (List.map I (b.rs.getD i default).may).length=some (b.rs.getD i default).may.length) an) (S_a [(1,.v (I (↑((b.rs.getD i default).may.length-1):Int)))] (ap ((zAH (by omega) (by omega)):I (IntKind.i64.wrap ((↑(b.rs.getD i default).may.length:Int)-1))=I (↑((b.rs.getD i default).may.length-1):Int)) an) (S_a [(6,.ret (I (zAt l a t (↑((b.rs.getD i default).may.length-1):Int))) ([zBY l (zAk l a) (zAF l a t)]))] (ap (f24 (l) (a) (t) ((↑((b.rs.getD i default).may.length-1):Int)) (by omega) (by omega)) an) (S_a [(0,.ob),(1,.v (I ((b.rs.getD i default).may.getD (zAt l a t (↑((b.rs.getD i default).may.length-1):Int)).toNat 0)))] (ap ((by exact zAu (by omega)):decide (0≤zAt l a t (↑((b.rs.getD i default).may.length-1):Int))=true) (ap (zBd (0) (by omega):(List.map I (b.rs.getD i default).may)[(zAt l a t (↑((b.rs.getD i default).may.length-1):Int)).toNat]? = some (I ((b.rs.getD i default).may.getD (zAt l a t (↑((b.rs.getD i default).may.length-1):Int)).toNat 0))) an)) (zAe 2 (S_a [(4,.ob),(0,.ob),(0,.yes),(2,.v (PV.own 1 (List.map I (s++[(b.rs.getD i default).may.getD (zAt l a t (↑((b.rs.getD i default).may.length-1):Int)).toNat 0]))))] (ap ((by exact zAw (by simp only [List.length_map,zzLn,zAC]<;>omega)):(0+(List.map I s).length).ble (List.map I s).length=true) (ap ((by exact zAw (by simp only [List.length_map,zzLn,zAC]<;>omega)):((List.map I s).length + [I ((b.rs.getD i default).may.getD (zAt l a t (↑((b.rs.getD i default).may.length-1):Int)).toNat 0)].length).ble zAC=true) (ap ((by exact zBF (by simp<;>omega)):(0+(List.map I s).length).beq (List.map I s).length=true) (ap ((by simp):PV.own 1 (List.map I s++[I ((b.rs.getD i default).may.getD (zAt l a t (↑((b.rs.getD i default).may.length-1):Int)).toNat 0)])=PV.own 1 (List.map I (s++[(b.rs.getD i default).may.getD (zAt l a t (↑((b.rs.getD i default).may.length-1):Int)).toNat 0]))) an)))) (zAe 1 (zAc (zAa (S_a [(1,.v (I (↑(i+1):Int)))] (ap ((zAH (by omega) (by omega)):I (IntKind.i64.wrap ((↑i:Int)+1))=I (↑(i+1):Int)) an) (zAe 1 (zAc ?_))))))))))))))))))))))) (fun k0=>(zBA 0 (zAb (zAa (zAe 1 (S_a [(2,.yes)] (ap ((by exact zBF (by simp<;>omega)):(Nat.beq 0 0&&(List.map I s).length.beq (List.map I s).length)=true) an) (zAc (zAD (E_q [(1,.yes),(1,.v (PV.own 1 (List.map I s)))] (ap ((by exact zAw (by simp only [List.length_map,zzLn,zAC]<;>omega)):(0+(List.map I s).length).ble (List.map I s).length=true) (ap ((zHo zEC):PV.own 1 (List.take (List.map I s).length (List.drop 0 (List.map I s)))=PV.own 1 (List.map I s)) an)) (PV.own 1 (List.map I s)) ([(PV.agg [PV.sl (List.map u8 l),I (↑a:Int),PV.int IntKind.u32 t]).box]) ?_))))))))))))))
 ·refine ⟨(i+1,s++[(b.rs.getD i default).may.getD (zAt l a t (((b.rs.getD i default).may.length-1:Nat):Int)).toNat 0],zAk l a,zAF l a t),⟨by omega,g1,by simp [hs],fun r hr=>?_⟩,by simp only;omega,by kernel_rfl,by kernel_rfl⟩
  rcases Nat.lt_succ_iff_lt_or_eq.1 hr with hr | rfl
  ·have:(s++[(b.rs.getD i default).may.getD (zAt l a t (((b.rs.getD i default).may.length-1:Nat):Int)).toNat 0]).getD r 0=s.getD r 0:=by
    simp [List.getD_eq_getElem?_getD,List.getElem?_append_left (show r<s.length by omega)]
   rw [this];exact hm r hr
  ·have yK:(zAt l a t (((b.rs.getD r default).may.length-1:Nat):Int)).toNat<(b.rs.getD r default).may.length:=by omega
   have:(s++[(b.rs.getD r default).may.getD (zAt l a t (((b.rs.getD r default).may.length-1:Nat):Int)).toNat 0]).getD r 0=(b.rs.getD r default).may.getD (zAt l a t (((b.rs.getD r default).may.length-1:Nat):Int)).toNat 0:=by
    simp [List.getD_eq_getElem?_getD,← hs]
   rw [this]
   exact ⟨zVH yK rfl,zB6 (zF1 hg (by omega)).2.1 _ yK⟩
 ·have jP:i=b.rs.length:=by omega
  refine ⟨s,a,t,rfl,rfl,⟨zRh hg,by omega,fun x hx=>?_,zNK fun r hr=>(hm r (by omega)).1⟩,ha⟩
  obtain ⟨j,hj,rfl⟩:=List.getElem_of_mem hx
  have:=(hm j (by omega)).2
  rwa [zAE hj] at this
omit [Yo] in
theorem zP9 {l:List Int} {i n:Nat} {v:Int}:(l.take n).set i v=(l.set i v).take n:=by rw [List.take_set]
omit [Yo] in
theorem zMe {l:List Int} {i n:Nat} (h:i<n):(l.take n).getD i 0=l.getD i 0:=by
 simp only [List.getD_eq_getElem?_getD,List.getElem?_take,h,if_true]
theorem f25_1 (b:Dk) (s:List Int) (h:ShareOk b s):FG 25 [zHE b,zCb s] (.own 1 ((zAV b s).map I)):=by
 have hg:=zEi h.box
 have vK:=hg.cr
 have hO:=hg.len
 have j8:=h.len
 have hs:zBj b s=0:=by
  have h2:(!s.all (fun x=>decide (0≤x)&&decide (x≤b.cr-1)))=false:=by
   simp only [Bool.not_eq_false',List.all_eq_true]
   intro x hx;have:=h.rng x hx;simp;omega
  simp only [zBj,h.box,h.len,h2,h.may,if_true];rfl
 have hf:zAV b s=(zFh (zBp b) s s.length).take b.cr.toNat:=by simp only [zAV,hs,if_true]
 rw [hf]
 have h0:List.replicate b.cr.toNat 0=(zFh (zBp b) s 0).take b.cr.toNat:=by
  obtain hc | hc | hc | hc:b.cr=1∨b.cr=2∨b.cr=3∨b.cr=4:=by omega
  all_goals rw [hc];rfl
 refine zAi Try.f25 ?_
 refine zAb (zAa (zAe 2 (zAc (zAb (zAa (zAe 2 (S_a [(0,.ob),(1,.ob),(1,.ob),(0,.ob),(1,.v (PV.own 1 (List.map I (List.replicate b.cr.toNat 0))))] (ap ((by exact zAu (by omega)):decide (0≤b.cr)=true) (ap ((by exact zAu (by omega)):decide (0≤b.cr)=true) (ap ((by exact zAu (by omega)):decide (b.cr.toNat≤b.cr.toNat)=true) (ap ((by exact zAu (by simp [zAC]<;>omega)):decide (b.cr.toNat≤zAC)=true) (ap ((by simp):PV.own 1 (List.replicate b.cr.toNat (I 0))=PV.own 1 (List.map I (List.replicate b.cr.toNat 0))) an))))) (zAe 1 (zAc (zAb (zAb (zAa (zAe 1 (S_a [(0,.n (s.length))] (ap ((by simp):some (List.map I s).length=some s.length) an) (zAe 1 (zAc (zAm 0 ?_)))))))))))))))))
 refine zBc (fun (i,o)=>i≤s.length∧o=(zFh (zBp b) s i).take b.cr.toNat) (fun (i,o)=>[(5,.own 1 (o.map I)),(13,I (i:Nat))]) (fun (i,_)=>s.length-i) ((0:Nat),List.replicate b.cr.toNat 0) ⟨Nat.zero_le _,h0⟩ fun (i,o) ⟨hi,ho⟩=>?_
 have hol:o.length=b.cr.toNat:=by rw [ho,List.length_take,zFP];omega
 have hx:i<s.length→0≤s.getD i 0∧s.getD i 0≤b.cr-1:=fun hi=>zB6 h.rng i hi
 have hmy:i<s.length→has (rnd b i).may (s.getD i 0)=true:=fun hi=>zJ6 h.may hi
 have uO:=zHC (zAs:=s) (zG4 hg) i (s.getD i 0).toNat
 have hod:i<s.length→o.getD (s.getD i 0).toNat 0=(zFh (zBp b) s i).getD (s.getD i 0).toNat 0:=fun hi=>by rw [ho,zMe (by have:=hx hi;omega)]
 have uV:i<b.rs.length→0≤zE9 b (rnd b i)∧zE9 b (rnd b i)≤1000:=fun h=>zIc hg (zKE hg h)
 have hml:i<b.rs.length→(b.rs.getD i default).may.length≤4:=fun h=>zKr (zF1 hg h).2.2 (zF1 hg h).2.1 vK
 refine zAb (zAa (zAe 1 (zAc (zAb (zCC ((↑i:Int)<(↑s.length:Int)) (fun k0=>(zAn (zAb (zAm 1 (zAb (zAa (zAe 1 (S_a [(2,.v (I (s.getD i 0)))] (ap (zBd (0) (by omega):(List.map I s)[i]? = some (I (s.getD i 0))) an) (zAe 3 (zAc (zAb (zAb (zAa (zAe 3 (S_a [(0,.n (b.rs.length))] (ap ((by simp):some (List.map zDF b.rs).length=some b.rs.length) an) (zAe 2 (zEa 23 ((↑i:Int)≥(↑b.rs.length:Int)) (by omega) (zAe 3 (S_a [(2,.v (PV.agg [I (b.rs.getD i default).w,I (b.rs.getD i default).s,PV.sl (List.map I (b.rs.getD i default).may)]))] (ap (zBd (default) (by omega):(List.map zDF b.rs)[i]? = some (PV.agg [I (b.rs.getD i default).w,I (b.rs.getD i default).s,PV.sl (List.map I (b.rs.getD i default).may)])) an) (zAe 3 (S_a [(8,.ret (PV.bool (has (b.rs.getD i default).may (s.getD i 0))) ([]))] (ap (f87 ((b.rs.getD i default).may) (s.getD i 0) (by omega)) an) (zAe 2 (zAc (zIx (!has (b.rs.getD i default).may (s.getD i 0)) (fun k1=>(zAb (zAa (zAe 1 (zAc (zAD (E_a [] an (PV.nils 1) ([]) ?_ rfl))))))) (fun k1=>(zAn (zAa (zAe 2 (S_a [(0,.ob),(1,.ob),(1,.n ((s.getD i 0).toNat))] (ap ((by exact zAu (by omega)):decide (0≤s.getD i 0)=true) (ap ((by exact zAu (by simp only [List.length_map,zzLn]<;>omega)):decide ((s.getD i 0).toNat<(List.map I o).length)=true) (ap ((by simp):some (0+(s.getD i 0).toNat)=some (s.getD i 0).toNat) an))) (S_a [(0,.cs false ([I (o.getD (s.getD i 0).toNat 0)]))] (ap (zBx (q:=PV.own 1 (List.map I o)) (xs:=List.map I o) (x:=I (o.getD (s.getD i 0).toNat 0)) rfl (zBd (0) (by omega)):zAj 5 (PV.own 1 (List.map I o)) [] (s.getD i 0).toNat 0 1=some (false,[I (o.getD (s.getD i 0).toNat 0)])) an) (zAe 2 (S_a [(8,.ret (I (zE9 b (rnd b i))) ([]))] (ap (f57 (b) (i) (by first | omega | (simp<;>omega)) (by omega)) an) (S_a [(1,.v (I (o.getD (s.getD i 0).toNat 0+zE9 b (rnd b i))))] (ap ((zAH rfl (by omega)):I (IntKind.i64.wrap (o.getD (s.getD i 0).toNat 0+zE9 b (rnd b i)))=I (o.getD (s.getD i 0).toNat 0+zE9 b (rnd b i))) an) (S_a [(0,.ob),(1,.ob),(1,.n ((s.getD i 0).toNat))] (ap ((by exact zAu (by omega)):decide (0≤s.getD i 0)=true) (ap ((by exact zAu (by simp only [List.length_map,zzLn]<;>omega)):decide ((s.getD i 0).toNat<(List.map I o).length)=true) (ap ((by simp):some (0+(s.getD i 0).toNat)=some (s.getD i 0).toNat) an))) (S_a [(8,.root (PV.own 1 (List.map I (o.set (s.getD i 0).toNat (o.getD (s.getD i 0).toNat 0+zE9 b (rnd b i))))) true)] (ap (zMg (zBd (0) (by omega)) zDM:zA5 (PV.own 1 (List.map I o)) [] (s.getD i 0).toNat 0 (I (o.getD (s.getD i 0).toNat 0+zE9 b (rnd b i))).cells=some (PV.own 1 (List.map I (o.set (s.getD i 0).toNat (o.getD (s.getD i 0).toNat 0+zE9 b (rnd b i)))))∧zAp (PV.own 1 (List.map I o)) (PV.own 1 (List.map I (o.set (s.getD i 0).toNat (o.getD (s.getD i 0).toNat 0+zE9 b (rnd b i))))) []=true) an) (zAc (zAa (S_a [(1,.v (I (↑(i+1):Int)))] (ap ((zAH (by omega) (by omega)):I (IntKind.i64.wrap ((↑i:Int)+1))=I (↑(i+1):Int)) an) (zAe 1 (zAc ?_)))))))))))))))))))))))))))))))))))))))) (fun k0=>(zBA 0 (zAb (zAb (zAa (zAe 1 (S_a [(0,.n (s.length))] (ap ((by simp):some (List.map I s).length=some s.length) an) (zAe 2 (S_a [(0,.n (b.rs.length))] (ap ((by simp):some (List.map zDF b.rs).length=some b.rs.length) an) (zAe 1 (zAc (zHm ((↑s.length:Int)=(↑b.rs.length:Int)) (by omega) (zAn (zAb (zAa (zAe 1 (S_a [(2,.yes)] (ap ((by exact zBF (by simp<;>omega)):(Nat.beq 0 0&&(List.map I o).length.beq (List.map I o).length)=true) an) (zAc (zAD (E_a [(1,.yes),(1,.v (PV.own 1 (List.map I o)))] (ap ((by exact zAw (by simp only [List.length_map,zzLn,zAC]<;>omega)):(0+(List.map I o).length).ble (List.map I o).length=true) (ap ((zHo zEC):PV.own 1 (List.take (List.map I o).length (List.drop 0 (List.map I o)))=PV.own 1 (List.map I o)) an)) (PV.own 1 (List.map I o)) ([]) ?_ rfl)))))))))))))))))))))))))
 ·have:=hmy (by omega)
  unfold rnd at this
  rw [this] at k1;cases k1
 ·refine ⟨(i+1,o.set (s.getD i 0).toNat (o.getD (s.getD i 0).toNat 0+zE9 b (rnd b i))),⟨by omega,?_⟩,by simp only;omega,by kernel_rfl,by kernel_rfl⟩
  rw [hod (by omega),ho,zP9,zFh,zGJ (by omega)];rfl
 ·rw [ho,show i=s.length by omega]
end
end Go.Eng
set_option maxRecDepth 10000
set_option maxHeartbeats 4000000
namespace Go.Eng
open Go Go.Proofs
section
variable [Yo]
end
end Go.Eng
set_option maxRecDepth 10000
set_option maxHeartbeats 4000000
namespace Go.Eng
open Go Go.Proofs
section
variable [Yo]
end
end Go.Eng
set_option maxRecDepth 10000
namespace Go.Eng
open Go Go.Proofs
abbrev zJq:Dk:=⟨2,1,2,2,[⟨4,2,[0,1]⟩,⟨3,1,[0,1]⟩,⟨8,1,[0,1]⟩,⟨1,1,[1]⟩]⟩
abbrev zPA:List Int:=[12,5,10,3]
section
variable [Yo]
theorem f88x:zA2 Try.prog zAq 88 [zHE zJq,zCb [0,0,0,1]] [] (.tup [.ref (zGI zJq zPA),I 0]) []:=zA2.closed 400
theorem f93x:zA2 Try.prog zAq 93 [.ref (zGI zJq zPA),.bor 50000000 [(0,0)] 1 0 4] [.box (.own 1 [I 0,I 0,I 0,I 1])] (.func 130 [] (.ref (.bor 50000000 [(0,0)] 1 0 4)::(zG5 zJq zPA [27,3,0,0] []).tail)) [.box (.own 1 [I 0,I 0,I 0,I 1])]:=zA2.closed 400
theorem f93y:zA2 Try.prog zAq 93 [.ref (zGI zJq zPA),.bor 50000000 [(0,0)] 1 0 4] [.box (.own 1 [I 1,I 0,I 0,I 1])] (.func 130 [] (.ref (.bor 50000000 [(0,0)] 1 0 4)::(zG5 zJq zPA [15,15,0,0] []).tail)) [.box (.own 1 [I 1,I 0,I 0,I 1])]:=zA2.closed 400
theorem f36w (hx:zHa 130 [] (zG5 zJq zPA [27,3,0,0] [0,0,0,1]) [[mvV (0,1)],[mvV (1,1)],[mvV (2,1)]]) (hy:zHa 130 [] (zG5 zJq zPA [15,15,0,0] [1,0,0,1]) []):zA2 Try.prog zAq 36 [zHE zJq,zCb [0,0,0,1]] [] (.tup [.own 1 [I 1,I 0,I 0,I 1],I 1,I 0]) []:=by
 refine zAi Try.f36 ?_
 refine zAb (zAa (zAe 4 (zAc (zAb (zAa (zAe 2 (S_a [(8,.ret (PV.tup [(zGI zJq zPA).ref,I 0]) ([]))] (ap (f88x) an) (zAe 5 (zAc (zAb (zAb (zAa (zAe 2 (zAc (zAY (zAn (zAb (zAa (zAe 1 (zAe 1 (zAe 3 (zAc (zAb (zAa (zAe 1 (zAe 1 ?_))))))))))))))))))))))))))
 refine zAe 1 (zAc ?_)
 refine zAb (zAa (zAe 1 (zAc (zAm 0 ?_))))
 refine zBc (fun (n,sh)=>n=0∧sh=[0,0,0,1]∨n=1∧sh=[1,0,0,1]) (fun (n,sh)=>[(9,.box (.own 1 (sh.map I))),(10,I (n:Nat))]) (fun (n,_)=>2-n) ((0:Nat),([0,0,0,1]:List Int)) (.inl ⟨rfl,rfl⟩) fun (n,sh) h=>?_
 rcases h with ⟨rfl,rfl⟩ | ⟨rfl,rfl⟩
 ·refine zAb (zAm 1 (zQ9 (zAb (zAa (zAe 2 (zAc (zAb (zQc (zAb (zAb (zAa (zAe 1 (zAe 1 (S_a [(5,.ret (PV.func 130 [] ((PV.bor 50000000 [(0,0)] 1 0 4).ref::(zG5 zJq zPA [27,3,0,0] []).tail)) ([(PV.own 1 [I 0,I 0,I 0,I 1]).box]))] (ap (f93x) an) (zAc (zAm 2 ?_))))))))))))))))
  refine zMd (t:=32) (R:=[9]) hx ?_
  simp only [Rg]
  refine zRI ?_
  refine zAa (zAe 2 (zAc ?_))
  refine ⟨rfl,by kernel_rfl,?_⟩
  refine zAm 3 (zAb (zAa (zAe 1 (zAe 4 (zAe 1 (zAe 2 (zAc (zBA 2 ?_))))))))
  refine ⟨by kernel_rfl,?_⟩
  refine zAb (zAa (zAe 2 (zAc (zAY (zAn (zAa (zAe 3 (zAc ?_))))))))
  exact ⟨(1,[1,0,0,1]),.inr ⟨rfl,rfl⟩,by decide,by kernel_rfl,by kernel_rfl⟩
 ·refine zAb (zAm 1 (zQ9 (zAb (zAa (zAe 2 (zAc (zAb (zQc (zAb (zAb (zAa (zAe 1 (zAe 1 (S_a [(5,.ret (PV.func 130 [] ((PV.bor 50000000 [(0,0)] 1 0 4).ref::(zG5 zJq zPA [15,15,0,0] []).tail)) ([(PV.own 1 [I 1,I 0,I 0,I 1]).box]))] (ap (f93y) an) (zAc (zAm 2 ?_))))))))))))))))
  refine zMd (t:=32) (R:=[9]) hy ?_
  simp only [Rg]
  refine zAb (zAa (zAe 2 (zAc (zDY (zAb (zAa (zAe 1 (zAe 4 (zAc (zAD (E_a [] an (PV.tup [PV.own 1 [I 1,I 0,I 0,I 1],I (↑1:Int),I 0]) ([]) rfl rfl)))))))))))
end
noncomputable instance feeYo:Yo:=yo1 Try.prog zAq
theorem zPE {f zAs:List Int} (hf:f.length=4) (hs:zAs.length=4) (h1:zAs.all (fun x=>decide (0≤x∧x<4))=true) (h2:f.all (fun x=>decide (-1000000≤x∧x≤1000000))=true):MvOk zJq zPA f zAs:=by
 refine ⟨⟨by decide,by decide⟩,by decide,hf,rfl,hs,fun x hx=>by simpa using List.all_eq_true.1 h1 x hx,fun i=>?_,fun i=>?_⟩
 ·rcases Nat.lt_or_ge i f.length with h | h
  ·rw [zAE h];simpa using List.all_eq_true.1 h2 _ (List.getElem_mem h)
  ·rw [List.getD_eq_getElem?_getD,List.getElem?_eq_none h];simp
 ·rcases Nat.lt_or_ge i 4 with h | h
  ·match i,h with
   | 0,_=>decide
   | 1,_=>decide
   | 2,_=>decide
   | 3,_=>decide
  ·rw [List.getD_eq_getElem?_getD,List.getElem?_eq_none h];simp
theorem f130a {b:Dk} {fee f zAs:List Int} (h:MvOk b fee f zAs):zHa 130 [] (zG5 b fee f zAs) (zKo b fee f zAs zAs.length):=by
 refine ⟨?_,fun j h1 h2=>?_⟩
 ·have:=f130h h (-1) (.inl rfl)
  rwa [if_pos rfl] at this
 ·have:=f130h h (j:Int) (.inr ⟨by omega,by simpa using h2⟩)
  rw [if_neg (by omega)] at this
  exact this
theorem f36x:zA2 Try.prog zAq 36 [zHE zJq,zCb [0,0,0,1]] [] (.tup [.own 1 [I 1,I 0,I 0,I 1],I 1,I 0]) []:=by
 refine f36w ?_ ?_
 ·exact f130a (zPE rfl rfl (by decide) (by decide))
 ·exact f130a (zPE rfl rfl (by decide) (by decide))
end Go.Eng
namespace Go.Eng
open Go Go.Proofs
def zVv:List Int:=[5,-2,-3,4,-4]
abbrev ad (j:Nat):PV := .addr (50000000+j) [] 0 0 none
abbrev zVX:PV := .box (.func 135 [] [ad 0,ad 1,ad 2,ad 3])
abbrev zVB (l:List Int):PV := .own 1 (l.map I)
abbrev zUl (l:List (List Int)):PV := .own 1 (l.map zVB)
abbrev zT3 (i:Nat) (now out out':List (List Int)):Entry:=⟨135,[I (i:Nat),ad 0,ad 1,ad 2,ad 3],[.box (zCb zVv),zVX,.box (zUl now),.box (zUl out)],.tup [],[.box (zCb zVv),zVX,.box (zUl now),.box (zUl out')]⟩
abbrev zUq (i:Nat) (now out out':List (List Int)):Prop:=∀ [Yo],zVt Try.prog zAq [zT3 i now out out']
theorem zT4:zUq 3 [[0,1,2]] [] [[0,1,2],[3,4]]:=⟨zA2.closed 400,trivial⟩
theorem zSG:zUq 3 [[0,1],[2]] [[0,1,2],[3,4]] [[0,1,2],[3,4]]:=⟨zA2.closed 400,trivial⟩
theorem zSi:zUq 3 [[0,2],[1]] [[0,1,2],[3,4]] [[0,1,2],[3,4]]:=⟨zA2.closed 400,trivial⟩
theorem zRz:zUq 3 [[0],[1,2]] [[0,1,2],[3,4]] [[0,1,2],[3,4]]:=⟨zA2.closed 400,trivial⟩
theorem zQv:zUq 3 [[0],[1],[2]] [[0,1,2],[3,4]] [[0,1,2],[3,4]]:=⟨zA2.closed 400,trivial⟩
theorem g0_:zUq 0 [] [] [[0,1,2],[3,4]]:=⟨zA2.table ([zT3 3 [[0,1,2]] [] [[0,1,2],[3,4]],zT3 3 [[0,1],[2]] [[0,1,2],[3,4]] [[0,1,2],[3,4]],zT3 3 [[0,2],[1]] [[0,1,2],[3,4]] [[0,1,2],[3,4]],zT3 3 [[0],[1,2]] [[0,1,2],[3,4]] [[0,1,2],[3,4]],zT3 3 [[0],[1],[2]] [[0,1,2],[3,4]] [[0,1,2],[3,4]]]) ⟨zT4.1,zSG.1,zSi.1,zRz.1,zQv.1,trivial⟩ 400,trivial⟩
theorem f49x [Yo]:zA2 Try.prog zAq 49 [zCb zVv] [] (.tup [zUl [[0,1,2],[3,4]],I 0]) []:=zA2.table [zT3 0 [] [] [[0,1,2],[3,4]]] ⟨g0_.1,trivial⟩ 400
end Go.Eng
set_option maxRecDepth 10000
namespace Go.Eng
open Go Go.Proofs
section
variable [Yo]
theorem f26x:zA2 Try.prog zAq 26 [zHE zJq,zCb [1,0,0,1],zCb [4,10]] [] (.tup [.own 1 [I 7,I 0],I 23,I 0]) []:=zA2.closed 400
theorem f41x:zA2 Try.prog zAq 41 [zHE zJq] [] (.tup [.own 1 [I 1,I 0,I 0,I 1],I 15,I 0]) []:=zA2.closed 400
theorem f34x:zA2 Try.prog zAq 34 [zHE zJq,zCb [0,0,1,1]] [] (.tup [.own 2 [.agg [I 0,I 2]],I 0]) []:=zA2.closed 400
theorem f69x:zA2 Try.prog zAq 69 [zHE zJq,zCb [3,0]] [] (.tup [I 8,I 0]) []:=zA2.closed 400
theorem f18x:zA2 Try.prog zAq 18 [I 10,zCb [5,3,1]] [] (.tup [.own 1 [I 6,I 3,I 1],I 0]) []:=zA2.closed 400
end
abbrev zU2:List Entry:=[
 ⟨36,[zHE zJq,zCb [0,0,0,1]],[],.tup [.own 1 [I 1,I 0,I 0,I 1],I 1,I 0],[]⟩,
 ⟨41,[zHE zJq],[],.tup [.own 1 [I 1,I 0,I 0,I 1],I 15,I 0],[]⟩,
 ⟨34,[zHE zJq,zCb [0,0,1,1]],[],.tup [.own 2 [.agg [I 0,I 2]],I 0],[]⟩,
 ⟨26,[zHE zJq,zCb [1,0,0,1],zCb [4,10]],[],.tup [.own 1 [I 7,I 0],I 23,I 0],[]⟩,
 ⟨69,[zHE zJq,zCb [3,0]],[],.tup [I 8,I 0],[]⟩,
 ⟨18,[I 10,zCb [5,3,1]],[],.tup [.own 1 [I 6,I 3,I 1],I 0],[]⟩,
 ⟨49,[zCb zVv],[],.tup [zUl [[0,1,2],[3,4]],I 0],[]⟩]
theorem f16:zA2 Try.prog zAq 16 [] [] (.bool true) []:=zA2.table zU2 ⟨f36x,f41x,f34x,f26x,f69x,f18x,f49x,trivial⟩ 400
end Go.Eng
set_option maxRecDepth 10000
set_option maxHeartbeats 4000000
namespace Go.Eng
open Go Go.Proofs
end Go.Eng
set_option maxRecDepth 10000
set_option maxHeartbeats 4000000
namespace Go.Eng
open Go Go.Proofs
abbrev zAg (l:List Int):PV := .own 1 (l.map I)
section
variable [Yo]
end
end Go.Eng
namespace Go.Eng
end Go.Eng
set_option maxRecDepth 10000
set_option maxHeartbeats 4000000
namespace Go.Eng
open Go Go.Proofs
theorem zLy {b:Dk} {s:List Int} (h:ShareOk b s):zBj b s=0:=by
 have h2:(!s.all (fun x=>decide (0≤x)&&decide (x≤b.cr-1)))=false:=by
  simp only [Bool.not_eq_false',List.all_eq_true]
  intro x hx;have:=h.rng x hx;simp;omega
 simp only [zBj,h.box,h.len,h2,h.may,if_true];rfl
section
variable [Yo]
end
end Go.Eng
namespace Go.Eng
open Go
end Go.Eng
set_option maxRecDepth 10000
set_option maxHeartbeats 4000000
namespace Go.Eng
open Go Go.Proofs
section
variable [Yo]
end
end Go.Eng
set_option maxRecDepth 10000
set_option maxHeartbeats 4000000
namespace Go.Eng
open Go Go.Proofs
structure FinedOk (b:Dk) (s late:List Int) (n:Nat) (got less:List Int):Prop where
 err:zB1 b s late=0
 ge:zAv b s late=got
 le:zCM b s late=less.sum
 gl:got.length=n
 ll:less.length=n
 at_:∀ c,c<n→0≤(zAV b s).getD c 0∧(zAV b s).getD c 0≤1000000∧0≤less.getD c 0∧less.getD c 0=min ((zAV b s).getD c 0) (b.fn*late.getD c 0)∧got.getD c 0=(zAV b s).getD c 0-less.getD c 0
theorem zSB {b:Dk} {s:List Int} (hs:ShareOk b s):(zAV b s).length=b.cr.toNat:=by
 have:=(zEi hs.box).cr
 rw [zQR hs];simp
theorem zUH {b:Dk} {s late:List Int} (hs:ShareOk b s) (hl:(late.length:Int)=b.cr) (hr:∀ x∈late,0≤x∧x≤60):∃ got less,FinedOk b s late b.cr.toNat got less:=by
 have hg:=zEi hs.box
 have vK:=hg.cr
 have jx:=hg.fn
 have j8:=hs.len
 have vI:=hg.len
 have yq:(!late.all (fun x=>decide (0≤x)&&decide (x≤60)))=false:=by
  simp only [Bool.not_eq_false',List.all_eq_true]
  intro x hx;have:=hr x hx;simp;omega
 have e:zB1 b s late=0:=by simp only [zB1,zLy hs,hl,yq,if_true];rfl
 have hf:zAV b s=(zFh (zBp b) s s.length).take b.cr.toNat:=by simp only [zAV,zLy hs,if_true]
 refine ⟨zPH b (zFh (zBp b) s s.length) late b.cr.toNat,zIO b (zFh (zBp b) s s.length) late b.cr.toNat,e,by simp only [zAv,e,if_true],by simp only [zCM,e,if_true],by simp [zPH],by simp [zIO],fun c hc=>?_⟩
 have h1:(zAV b s).getD c 0=(zFh (zBp b) s s.length).getD c 0:=by rw [hf,zMe hc]
 have uO:=zHC (zAs:=s) (zG4 hg) s.length c
 have h2:(zIO b (zFh (zBp b) s s.length) late b.cr.toNat).getD c 0=zJD b (zFh (zBp b) s s.length) late c:=by simp [zIO,List.getD_eq_getElem?_getD,hc]
 have h3:(zPH b (zFh (zBp b) s s.length) late b.cr.toNat).getD c 0=(zFh (zBp b) s s.length).getD c 0-zJD b (zFh (zBp b) s s.length) late c:=by simp [zPH,List.getD_eq_getElem?_getD,hc]
 have h4:=zB6 hr c (by omega)
 have h5:=Int.mul_nonneg jx.1 h4.1
 rw [h1,h2,h3]
 unfold zJD zUo
 refine ⟨uO.1,by omega,?_,?_,rfl⟩
 ·split<;>omega
 ·split<;>omega
theorem zRr {l:List Int} {i:Nat} (h:i<l.length):(l.drop i).sum=l.getD i 0+(l.drop (i+1)).sum:=by
 rw [List.drop_eq_getElem_cons h,zAE h,List.sum_cons]
theorem zNk {l:List Int} {B:Int} (h:∀ c,c<l.length→0≤l.getD c 0∧l.getD c 0≤B) (hB:0≤B) (i:Nat):0≤(l.drop i).sum∧(l.drop i).sum≤B*l.length:=by
 have h1:∀ x∈l.drop i,0≤x∧x≤B:=fun x hx=>by
  obtain ⟨j,hj,rfl⟩:=List.getElem_of_mem (List.mem_of_mem_drop hx)
  have:=h j hj;rwa [zAE hj] at this
 have h2:=zS4 (B:=B) (l:=l.drop i) fun x hx=>by have:=h1 x hx;omega
 have h3:=zVd fun x hx=>(h1 x hx).1
 have h4:B*((l.drop i).length:Int)≤B*l.length:=Int.mul_le_mul_of_nonneg_left (by simp) hB
 omega
theorem f4 (nums tries mins:List Int) (which:Int) (h1:nums.length<9223372036854775808) (h2:tries.length<9223372036854775808) (h3:mins.length<9223372036854775808) (hw:0≤which∧which≤255):FG 4 [.sl (nums.map u8),.sl (tries.map u8),.sl (mins.map u8),.int .u8 which] (.bool true):=by
 obtain ⟨v,h',hm,b,a1,t1,rfl,rfl,hg,vI,ha1⟩:=f21_ex nums 0 0 7 ⟨Nat.zero_le _,h1⟩ (by omega)
 obtain ⟨v,h',ja,s,a2,t2,rfl,rfl,hs,j5⟩:=f23_ex tries 0 0 b ⟨Nat.zero_le _,h2⟩ hg
 have h25:=f25_1 b s hs
 have vK:=hg.cr
 have jx:=hg.fn
 have ji:=zSB hs
 have j8:=hs.len
 have kN:zKU b:=⟨by omega,fun r hr=>by have:=hg.may r hr;have:=zKr this.2.2 this.2.1 vK;omega⟩
 refine zAi Try.f4 ?_
 refine zAb (zAa (zAe 1 (zAc (zAb (zAa (zAe 1 (S_a [(6,.ret (zBY nums 0 0) ([]))] (ap (f22 (nums)) an) (S_a [(6,.ret (zVR b) ([zBY nums a1 t1]))] (ap (hm) an) (zAe 1 (S_a [(3,.v (PV.agg [I b.cr,I b.wd,I b.st,I b.fn,PV.sl (List.map (fun x=>PV.agg [I x.w,I x.s,PV.sl (List.map I x.may)]) b.rs)]))] (ap ((by simp only [show zAx (List.map zKh b.rs)=List.map (fun x=>PV.agg [I x.w,I x.s,PV.sl (List.map I x.may)]) b.rs from (by first | exact zBo _ | exact zAM _ | exact zA3 (zAM _) | exact zFK (by simp [zDy]) (zBo _))]):PV.agg [I b.cr,I b.wd,I b.st,I b.fn,PV.sl (zAx (List.map zKh b.rs))]=PV.agg [I b.cr,I b.wd,I b.st,I b.fn,PV.sl (List.map (fun x=>PV.agg [I x.w,I x.s,PV.sl (List.map I x.may)]) b.rs)]) an) (zAc (zAb (zAa (zAe 1 (S_a [(6,.ret (zBY tries 0 0) ([]))] (ap (f22 (tries)) an) (zAe 1 (S_a [(6,.ret (PV.own 1 (List.map I s)) ([zBY tries a2 t2]))] (ap (ja) an) (zAe 1 (zAc (zAb (zAa (zAe 1 (S_a [(6,.ret (zBY mins 0 0) ([]))] (ap (f22 (mins)) an) (zAe 1 (zAc (zAb (zAa (zAe 1 (zAc (zAb (zAb (zAa (zAe 3 (zAc (zAm 0 ?_)))))))))))))))))))))))))))))))))))
 refine zBc (fun (c,la,a,t)=>(c:Int)≤b.cr∧la.length=c∧(∀ x∈la,0≤x∧x≤20)∧zDH mins a) (fun (c,la,a,t)=>[(11,zBY mins a t),(12,.own 1 (la.map I)),(35,I (c:Nat))]) (fun (c,_,_,_)=>b.cr.toNat-c) ((0:Nat),([]:List Int),(0:Nat),(0:Int)) ⟨by omega,rfl,by simp,Nat.zero_le _,h3⟩ fun (c,la,a,t) ⟨hc,gj,wL,ha⟩=>?_
 by_cases ui:(c:Int)=b.cr
 ·obtain ⟨got,less,hF⟩:=zUH hs (by omega) (fun x hx=>by have:=wL x hx;omega:∀ x∈la,0≤x∧x≤60)
  have e1:=hF.err
  obtain rfl:=hF.ge
  have e3:=hF.le
  have e4:=hF.gl
  have e5:=hF.ll
  have jL:=Int.tmod_nonneg b.cr hw.1
  have ky:=Int.tmod_lt_of_pos which (show 0<b.cr by omega)
  have uh:(which.tmod b.cr).toNat<la.length:=by omega
  have hk3:=zB6 wL (which.tmod b.cr).toNat uh
  obtain ⟨got2,less2,gJ⟩:=zUH (late:=la.set (which.tmod b.cr).toNat (la.getD (which.tmod b.cr).toNat 0+1)) hs (by simp;omega) (fun x hx=>by
   rcases List.mem_or_eq_of_mem_set hx with hx | rfl
   ·have:=wL x hx;omega
   ·omega)
  have d1:=gJ.err
  obtain rfl:=gJ.ge
  have d4:=gJ.gl
  have d5:=gJ.ll
  have d6k:=gJ.at_ (which.tmod b.cr).toNat (by omega)
  rw [zEh,if_pos ⟨rfl,uh⟩,Int.mul_add,Int.mul_one] at d6k
  have e6k:=hF.at_ (which.tmod b.cr).toNat (by omega)
  have yH:(zAv b s (la.set (which.tmod b.cr).toNat (la.getD (which.tmod b.cr).toNat 0+1))).getD (which.tmod b.cr).toNat 0≤(zAv b s la).getD (which.tmod b.cr).toNat 0:=by omega
  clear d6k e6k h1 h2 h3 ha1 j5
  have hsm':=kN
  refine zAb (zAa (zAe 1 (zAc (zAb (zB3 ((↑c:Int)<b.cr) (by omega) (zBA 0 (zAb (zAa (zAe 2 (S_a [(5,.ob),(0,.v (PV.sl (List.map I s))),(2,.ret (PV.own 1 (List.map I (zAV b s))) ([])),(1,.yes)] (ap ((by exact zAw (by simp only [List.length_map,zzLn,zAC]<;>omega)):(0+(List.map I s).length).ble (List.map I s).length=true) (ap ((zDB (zA3 (zAM _))):PV.sl (zAx (List.take (List.map I s).length (List.drop 0 (List.map I s))))=PV.sl (List.map I s)) (ap (h25) (ap ((by exact zCo _):(PV.own 1 (List.map I (zAV b s))).free=true) an)))) (zAe 1 (zAc (zAb (zAa (zAe 3 (S_a [(5,.ob),(0,.v (PV.sl (List.map I s))),(1,.ob),(0,.v (PV.sl (List.map I la))),(2,.ret (PV.tup [PV.own 1 (List.map I (zAv b s la)),I (zCM b s la),I (zB1 b s la)]) ([])),(1,.yes)] (ap ((by exact zAw (by simp only [List.length_map,zzLn,zAC]<;>omega)):(0+(List.map I s).length).ble (List.map I s).length=true) (ap ((zDB (zA3 (zAM _))):PV.sl (zAx (List.take (List.map I s).length (List.drop 0 (List.map I s))))=PV.sl (List.map I s)) (ap ((by exact zAw (by simp only [List.length_map,zzLn,zAC]<;>omega)):(0+(List.map I la).length).ble (List.map I la).length=true) (ap ((zDB (zA3 (zAM _))):PV.sl (zAx (List.take (List.map I la).length (List.drop 0 (List.map I la))))=PV.sl (List.map I la)) (ap (f26 (b) (s) (la) (by omega) (by omega) (by omega)) (ap ((by exact zQs (zCo _) rfl):(PV.tup [PV.own 1 (List.map I (zAv b s la)),I (zCM b s la),I (zB1 b s la)]).free=true) an)))))) (zAe 7 (zAc (zAb (zAb (zAa (zAe 3 (zHl 59 (zB1 b s la=0) (by omega) (zAe 1 (S_a [(0,.n ((zAv b s la).length))] (ap ((by simp):some (List.map I (zAv b s la)).length=some (zAv b s la).length) an) (zAe 5 (zHl 66 ((↑(zAv b s la).length:Int)=b.cr) (by omega) (zAe 1 (S_a [(0,.n ((zAV b s).length))] (ap ((by simp):some (List.map I (zAV b s)).length=some (zAV b s).length) an) (zAe 4 (zAc (zHm ((↑(zAV b s).length:Int)=b.cr) (by omega) (zAn (zAb (zAa (zAe 2 (zAc (zAb (zAb (zAa (zAe 1 (S_a [(0,.n ((zAv b s la).length))] (ap ((by simp):some (List.map I (zAv b s la)).length=some (zAv b s la).length) an) (zAe 1 (zAc (zAm 2 ?_)))))))))))))))))))))))))))))))))))))))))))))
  refine zBc (fun (i,sm)=>i≤(zAv b s la).length∧sm=(less.drop i).sum) (fun (i,sm)=>[(17,I sm),(76,I (i:Nat))]) (fun (i,_)=>(zAv b s la).length-i) ((0:Nat),zCM b s la) ⟨Nat.zero_le _,by rw [e3];simp⟩ fun (i,sm) ⟨hi,hsu⟩=>?_
  by_cases jP:i<(zAv b s la).length
  ·have e6i:(0≤(zAV b s).getD i 0∧(zAV b s).getD i 0≤1000000)∧(zAv b s la).getD i 0=(zAV b s).getD i 0-less.getD i 0∧0≤less.getD i 0∧less.getD i 0≤(zAV b s).getD i 0∧less.getD i 0≤b.fn*la.getD i 0∧(less.getD i 0=(zAV b s).getD i 0∨less.getD i 0=b.fn*la.getD i 0):=by have:=hF.at_ i (by omega);omega
   have hz:la.getD i 0=0→b.fn*la.getD i 0=0:=fun h=>by rw [h];simp
   have gK:0≤la.getD i 0∧la.getD i 0≤20:=zB6 wL i (by omega)
   have hmb:0≤b.fn*la.getD i 0∧b.fn*la.getD i 0≤20*20:=⟨Int.mul_nonneg jx.1 gK.1,Int.mul_le_mul (by omega) gK.2 gK.1 (by omega)⟩
   have vi:=zNk (l:=less) (B:=1000000) (fun c hc=>by have:=hF.at_ c (by omega);omega) (by omega) i
   have wX:(less.drop i).sum=less.getD i 0+(less.drop (i+1)).sum:=zRr (by omega)
   rw [← hsu] at vi wX
   have hsm2:sm+((zAv b s la).getD i 0-(zAV b s).getD i 0)=(less.drop (i+1)).sum:=by omega
   have hlal:la.length=b.cr.toNat:=by omega
   clear hF gJ d1 d4 d5 jL ky uh hk3 yH kN ui e1 wL
   refine zAb (zAa (zAe 1 (zAc (zAb (zBN ((↑i:Int)<(↑(zAv b s la).length:Int)) (by omega) (zAn (zAb (zAm 3 (zAb (zAa (zAe 1 (S_a [(2,.ob),(1,.n (i))] (ap ((by exact zAu (by simp only [List.length_map,zzLn]<;>omega)):decide (i<(List.map I (zAv b s la)).length)=true) (ap ((by simp):some (0+i)=some i) an)) (S_a [(0,.cs false ([I ((zAv b s la).getD i 0)]))] (ap (zBx (q:=PV.own 1 (List.map I (zAv b s la))) (xs:=List.map I (zAv b s la)) (x:=I ((zAv b s la).getD i 0)) rfl (zBd (0) (by omega)):zAj 14 (PV.own 1 (List.map I (zAv b s la))) [] i 0 1=some (false,[I ((zAv b s la).getD i 0)])) an) (zAe 2 (zAc (zAb (zAa (zAe 4 (S_a [(2,.ob),(1,.n (i))] (ap ((by exact zAu (by simp only [List.length_map,zzLn]<;>omega)):decide (i<(List.map I (zAV b s)).length)=true) (ap ((by simp):some (0+i)=some i) an)) (S_a [(0,.cs false ([I ((zAV b s).getD i 0)]))] (ap (zBx (q:=PV.own 1 (List.map I (zAV b s))) (xs:=List.map I (zAV b s)) (x:=I ((zAV b s).getD i 0)) rfl (zBd (0) (by omega)):zAj 13 (PV.own 1 (List.map I (zAV b s))) [] i 0 1=some (false,[I ((zAV b s).getD i 0)])) an) (S_a [(1,.v (I ((zAv b s la).getD i 0-(zAV b s).getD i 0)))] (ap ((zAH rfl (by omega)):I (IntKind.i64.wrap ((zAv b s la).getD i 0-(zAV b s).getD i 0))=I ((zAv b s la).getD i 0-(zAV b s).getD i 0)) an) (S_a [(1,.v (I (sm+((zAv b s la).getD i 0-(zAV b s).getD i 0))))] (ap ((zAH rfl (by omega)):I (IntKind.i64.wrap (sm+((zAv b s la).getD i 0-(zAV b s).getD i 0)))=I (sm+((zAv b s la).getD i 0-(zAV b s).getD i 0))) an) (zAe 1 (zAc (zAb (zAa (zAe 3 (zEa 91 ((zAv b s la).getD i 0<0) (by omega) (zAe 3 (S_a [(2,.ob),(1,.n (i))] (ap ((by exact zAu (by simp only [List.length_map,zzLn]<;>omega)):decide (i<(List.map I (zAV b s)).length)=true) (ap ((by simp):some (0+i)=some i) an)) (S_a [(0,.cs false ([I ((zAV b s).getD i 0)]))] (ap (zBx (q:=PV.own 1 (List.map I (zAV b s))) (xs:=List.map I (zAV b s)) (x:=I ((zAV b s).getD i 0)) rfl (zBd (0) (by omega)):zAj 13 (PV.own 1 (List.map I (zAV b s))) [] i 0 1=some (false,[I ((zAV b s).getD i 0)])) an) (zAe 3 (zEa 99 ((zAv b s la).getD i 0>(zAV b s).getD i 0) (by omega) (zAe 2 (S_a [(2,.ob),(1,.n (i))] (ap ((by exact zAu (by simp only [List.length_map,zzLn]<;>omega)):decide (i<(List.map I la).length)=true) (ap ((by simp):some (0+i)=some i) an)) (S_a [(0,.cs false ([I (la.getD i 0)]))] (ap (zBx (q:=PV.own 1 (List.map I la)) (xs:=List.map I la) (x:=I (la.getD i 0)) rfl (zBd (0) (by omega)):zAj 12 (PV.own 1 (List.map I la)) [] i 0 1=some (false,[I (la.getD i 0)])) an) (zAe 2 (zKF 105 (la.getD i 0=0) (fun k0=>(zAe 3 (S_a [(2,.ob),(1,.n (i))] (ap ((by exact zAu (by simp only [List.length_map,zzLn]<;>omega)):decide (i<(List.map I (zAV b s)).length)=true) (ap ((by simp):some (0+i)=some i) an)) (S_a [(0,.cs false ([I ((zAV b s).getD i 0)]))] (ap (zBx (q:=PV.own 1 (List.map I (zAV b s))) (xs:=List.map I (zAV b s)) (x:=I ((zAV b s).getD i 0)) rfl (zBd (0) (by omega)):zAj 13 (PV.own 1 (List.map I (zAV b s))) [] i 0 1=some (false,[I ((zAV b s).getD i 0)])) an) (zAe 4 (zHl 114 ((zAv b s la).getD i 0=(zAV b s).getD i 0) (by omega) (zAe 3 (zKF 117 ((zAv b s la).getD i 0>0) (fun k1=>(zAe 2 (S_a [(2,.ob),(1,.n (i))] (ap ((by exact zAu (by simp only [List.length_map,zzLn]<;>omega)):decide (i<(List.map I (zAV b s)).length)=true) (ap ((by simp):some (0+i)=some i) an)) (S_a [(0,.cs false ([I ((zAV b s).getD i 0)]))] (ap (zBx (q:=PV.own 1 (List.map I (zAV b s))) (xs:=List.map I (zAV b s)) (x:=I ((zAV b s).getD i 0)) rfl (zBd (0) (by omega)):zAj 13 (PV.own 1 (List.map I (zAV b s))) [] i 0 1=some (false,[I ((zAV b s).getD i 0)])) an) (zAe 1 (S_a [(1,.v (I ((zAV b s).getD i 0-(zAv b s la).getD i 0)))] (ap ((zAH rfl (by omega)):I (IntKind.i64.wrap ((zAV b s).getD i 0-(zAv b s la).getD i 0))=I ((zAV b s).getD i 0-(zAv b s la).getD i 0)) an) (zAe 4 (S_a [(2,.ob),(1,.n (i))] (ap ((by exact zAu (by simp only [List.length_map,zzLn]<;>omega)):decide (i<(List.map I la).length)=true) (ap ((by simp):some (0+i)=some i) an)) (S_a [(0,.cs false ([I (la.getD i 0)]))] (ap (zBx (q:=PV.own 1 (List.map I la)) (xs:=List.map I la) (x:=I (la.getD i 0)) rfl (zBd (0) (by omega)):zAj 12 (PV.own 1 (List.map I la)) [] i 0 1=some (false,[I (la.getD i 0)])) an) (S_a [(1,.v (I (b.fn*la.getD i 0)))] (ap ((zAH rfl (by omega)):I (IntKind.i64.wrap (b.fn*la.getD i 0))=I (b.fn*la.getD i 0)) an) (zAe 4 (zHl 134 ((zAV b s).getD i 0-(zAv b s la).getD i 0=b.fn*la.getD i 0) (by omega) (zAe 3 (zEa 137 ((zAv b s la).getD i 0=0) (by omega) (zAe 14 (zAc (zAY (zAn (zAa (S_a [(1,.v (I (↑(i+1):Int)))] (ap ((zAH (by omega) (by omega)):I (IntKind.i64.wrap ((↑i:Int)+1))=I (↑(i+1):Int)) an) (zAe 1 (zAc ?_)))))))))))))))))))))) (fun k1=>(zAe 20 (zIt 137 ((zAv b s la).getD i 0=0) (by omega) (zAe 2 (S_a [(2,.ob),(1,.n (i))] (ap ((by exact zAu (by simp only [List.length_map,zzLn]<;>omega)):decide (i<(List.map I (zAV b s)).length)=true) (ap ((by simp):some (0+i)=some i) an)) (S_a [(0,.cs false ([I ((zAV b s).getD i 0)]))] (ap (zBx (q:=PV.own 1 (List.map I (zAV b s))) (xs:=List.map I (zAV b s)) (x:=I ((zAV b s).getD i 0)) rfl (zBd (0) (by omega)):zAj 13 (PV.own 1 (List.map I (zAV b s))) [] i 0 1=some (false,[I ((zAV b s).getD i 0)])) an) (zAe 4 (S_a [(2,.ob),(1,.n (i))] (ap ((by exact zAu (by simp only [List.length_map,zzLn]<;>omega)):decide (i<(List.map I la).length)=true) (ap ((by simp):some (0+i)=some i) an)) (S_a [(0,.cs false ([I (la.getD i 0)]))] (ap (zBx (q:=PV.own 1 (List.map I la)) (xs:=List.map I la) (x:=I (la.getD i 0)) rfl (zBd (0) (by omega)):zAj 12 (PV.own 1 (List.map I la)) [] i 0 1=some (false,[I (la.getD i 0)])) an) (S_a [(1,.v (I (b.fn*la.getD i 0)))] (ap ((zAH rfl (by omega)):I (IntKind.i64.wrap (b.fn*la.getD i 0))=I (b.fn*la.getD i 0)) an) (zAe 3 (zAc (zB3 ((zAV b s).getD i 0>b.fn*la.getD i 0) (by omega) (zAn (zAa (S_a [(1,.v (I (↑(i+1):Int)))] (ap ((zAH (by omega) (by omega)):I (IntKind.i64.wrap ((↑i:Int)+1))=I (↑(i+1):Int)) an) (zAe 1 (zAc ?_)))))))))))))))))))))))))) (fun k0=>(zAe 12 (zKF 117 ((zAv b s la).getD i 0>0) (fun k2=>(zAe 2 (S_a [(2,.ob),(1,.n (i))] (ap ((by exact zAu (by simp only [List.length_map,zzLn]<;>omega)):decide (i<(List.map I (zAV b s)).length)=true) (ap ((by simp):some (0+i)=some i) an)) (S_a [(0,.cs false ([I ((zAV b s).getD i 0)]))] (ap (zBx (q:=PV.own 1 (List.map I (zAV b s))) (xs:=List.map I (zAV b s)) (x:=I ((zAV b s).getD i 0)) rfl (zBd (0) (by omega)):zAj 13 (PV.own 1 (List.map I (zAV b s))) [] i 0 1=some (false,[I ((zAV b s).getD i 0)])) an) (zAe 1 (S_a [(1,.v (I ((zAV b s).getD i 0-(zAv b s la).getD i 0)))] (ap ((zAH rfl (by omega)):I (IntKind.i64.wrap ((zAV b s).getD i 0-(zAv b s la).getD i 0))=I ((zAV b s).getD i 0-(zAv b s la).getD i 0)) an) (zAe 4 (S_a [(2,.ob),(1,.n (i))] (ap ((by exact zAu (by simp only [List.length_map,zzLn]<;>omega)):decide (i<(List.map I la).length)=true) (ap ((by simp):some (0+i)=some i) an)) (S_a [(0,.cs false ([I (la.getD i 0)]))] (ap (zBx (q:=PV.own 1 (List.map I la)) (xs:=List.map I la) (x:=I (la.getD i 0)) rfl (zBd (0) (by omega)):zAj 12 (PV.own 1 (List.map I la)) [] i 0 1=some (false,[I (la.getD i 0)])) an) (S_a [(1,.v (I (b.fn*la.getD i 0)))] (ap ((zAH rfl (by omega)):I (IntKind.i64.wrap (b.fn*la.getD i 0))=I (b.fn*la.getD i 0)) an) (zAe 4 (zHl 134 ((zAV b s).getD i 0-(zAv b s la).getD i 0=b.fn*la.getD i 0) (by omega) (zAe 3 (zEa 137 ((zAv b s la).getD i 0=0) (by omega) (zAe 14 (zAc (zAY (zAn (zAa (S_a [(1,.v (I (↑(i+1):Int)))] (ap ((zAH (by omega) (by omega)):I (IntKind.i64.wrap ((↑i:Int)+1))=I (↑(i+1):Int)) an) (zAe 1 (zAc ?_)))))))))))))))))))))) (fun k2=>(zAe 20 (zIt 137 ((zAv b s la).getD i 0=0) (by omega) (zAe 2 (S_a [(2,.ob),(1,.n (i))] (ap ((by exact zAu (by simp only [List.length_map,zzLn]<;>omega)):decide (i<(List.map I (zAV b s)).length)=true) (ap ((by simp):some (0+i)=some i) an)) (S_a [(0,.cs false ([I ((zAV b s).getD i 0)]))] (ap (zBx (q:=PV.own 1 (List.map I (zAV b s))) (xs:=List.map I (zAV b s)) (x:=I ((zAV b s).getD i 0)) rfl (zBd (0) (by omega)):zAj 13 (PV.own 1 (List.map I (zAV b s))) [] i 0 1=some (false,[I ((zAV b s).getD i 0)])) an) (zAe 4 (S_a [(2,.ob),(1,.n (i))] (ap ((by exact zAu (by simp only [List.length_map,zzLn]<;>omega)):decide (i<(List.map I la).length)=true) (ap ((by simp):some (0+i)=some i) an)) (S_a [(0,.cs false ([I (la.getD i 0)]))] (ap (zBx (q:=PV.own 1 (List.map I la)) (xs:=List.map I la) (x:=I (la.getD i 0)) rfl (zBd (0) (by omega)):zAj 12 (PV.own 1 (List.map I la)) [] i 0 1=some (false,[I (la.getD i 0)])) an) (S_a [(1,.v (I (b.fn*la.getD i 0)))] (ap ((zAH rfl (by omega)):I (IntKind.i64.wrap (b.fn*la.getD i 0))=I (b.fn*la.getD i 0)) an) (zAe 3 (zAc (zB3 ((zAV b s).getD i 0>b.fn*la.getD i 0) (by omega) (zAn (zAa (S_a [(1,.v (I (↑(i+1):Int)))] (ap ((zAH (by omega) (by omega)):I (IntKind.i64.wrap ((↑i:Int)+1))=I (↑(i+1):Int)) an) (zAe 1 (zAc ?_)))))))))))))))))))))))))))))))))))))))))))))))))))))))))))
   all_goals exact ⟨(i+1,sm+((zAv b s la).getD i 0-(zAV b s).getD i 0)),⟨by omega,hsm2⟩,by simp only;omega,by kernel_rfl,by kernel_rfl⟩
  ·have vV:=zCo (g:=I) (zAv b s (la.set (which.tmod b.cr).toNat (la.getD (which.tmod b.cr).toNat 0+1)))
   have yC:sm=0:=by rw [hsu,List.drop_eq_nil_of_le (by omega)];rfl
   clear hF gJ
   refine zAb (zAa (zAe 1 (zAc (zAb (zB3 ((↑i:Int)<(↑(zAv b s la).length:Int)) (by omega) (zBA 2 (zAb (zAa (zAe 1 (S_a [(3,.ob),(0,.v (PV.sl (List.map I la))),(2,.ret (PV.own 1 (List.map I la)) ([])),(1,.yes)] (ap ((by exact zAw (by simp only [List.length_map,zzLn,zAC]<;>omega)):(0+(List.map I la).length).ble (List.map I la).length=true) (ap ((zDB (zA3 (zAM _))):PV.sl (zAx (List.take (List.map I la).length (List.drop 0 (List.map I la))))=PV.sl (List.map I la)) (ap (f17 (la) (by omega)) (ap ((by exact zCo _):(PV.own 1 (List.map I la)).free=true) an)))) (zAe 1 (zAc (zAb (zAa (zAe 1 (S_a [(0,.v (I which))] (ap ((zAH rfl (by omega)):I (IntKind.i64.wrap which)=I which) an) (zAe 2 (S_a [(0,.v (I (which.tmod b.cr)))] (ap (zQz (by omega) rfl:zPf Try.prog BinOp.rem 3 (I which) (I b.cr)=some (I (which.tmod b.cr))) an) (zAe 1 (zAc (zAb (zAa (zAe 2 (S_a [(0,.ob),(1,.ob),(1,.n ((which.tmod b.cr).toNat))] (ap ((by exact zAu (by omega)):decide (0≤which.tmod b.cr)=true) (ap ((by exact zAu (by simp only [List.length_map,zzLn]<;>omega)):decide ((which.tmod b.cr).toNat<(List.map I la).length)=true) (ap ((by simp):some (0+(which.tmod b.cr).toNat)=some (which.tmod b.cr).toNat) an))) (S_a [(0,.cs false ([I (la.getD (which.tmod b.cr).toNat 0)]))] (ap (zBx (q:=PV.own 1 (List.map I la)) (xs:=List.map I la) (x:=I (la.getD (which.tmod b.cr).toNat 0)) rfl (zBd (0) (by omega)):zAj 20 (PV.own 1 (List.map I la)) [] (which.tmod b.cr).toNat 0 1=some (false,[I (la.getD (which.tmod b.cr).toNat 0)])) an) (S_a [(1,.v (I (la.getD (which.tmod b.cr).toNat 0+1)))] (ap ((zAH rfl (by omega)):I (IntKind.i64.wrap (la.getD (which.tmod b.cr).toNat 0+1))=I (la.getD (which.tmod b.cr).toNat 0+1)) an) (S_a [(0,.ob),(1,.ob),(1,.n ((which.tmod b.cr).toNat))] (ap ((by exact zAu (by omega)):decide (0≤which.tmod b.cr)=true) (ap ((by exact zAu (by simp only [List.length_map,zzLn]<;>omega)):decide ((which.tmod b.cr).toNat<(List.map I la).length)=true) (ap ((by simp):some (0+(which.tmod b.cr).toNat)=some (which.tmod b.cr).toNat) an))) (S_a [(8,.root (PV.own 1 (List.map I (la.set (which.tmod b.cr).toNat (la.getD (which.tmod b.cr).toNat 0+1)))) true)] (ap (zMg (zBd (0) (by omega)) zDM:zA5 (PV.own 1 (List.map I la)) [] (which.tmod b.cr).toNat 0 (I (la.getD (which.tmod b.cr).toNat 0+1)).cells=some (PV.own 1 (List.map I (la.set (which.tmod b.cr).toNat (la.getD (which.tmod b.cr).toNat 0+1))))∧zAp (PV.own 1 (List.map I la)) (PV.own 1 (List.map I (la.set (which.tmod b.cr).toNat (la.getD (which.tmod b.cr).toNat 0+1)))) []=true) an) (zAc (zAb (zAa (zAe 3 (S_a [(5,.ob),(0,.v (PV.sl (List.map I s))),(1,.ob),(0,.v (PV.sl (List.map I (la.set (which.tmod b.cr).toNat (la.getD (which.tmod b.cr).toNat 0+1))))),(2,.ret (PV.tup [PV.own 1 (List.map I (zAv b s (la.set (which.tmod b.cr).toNat (la.getD (which.tmod b.cr).toNat 0+1)))),I (zCM b s (la.set (which.tmod b.cr).toNat (la.getD (which.tmod b.cr).toNat 0+1))),I (zB1 b s (la.set (which.tmod b.cr).toNat (la.getD (which.tmod b.cr).toNat 0+1)))]) ([])),(1,.yes)] (ap ((by exact zAw (by simp only [List.length_map,zzLn,zAC]<;>omega)):(0+(List.map I s).length).ble (List.map I s).length=true) (ap ((zDB (zA3 (zAM _))):PV.sl (zAx (List.take (List.map I s).length (List.drop 0 (List.map I s))))=PV.sl (List.map I s)) (ap ((by exact zAw (by simp only [List.length_map,zzLn,zAC]<;>omega)):(0+(List.map I (la.set (which.tmod b.cr).toNat (la.getD (which.tmod b.cr).toNat 0+1))).length).ble (List.map I (la.set (which.tmod b.cr).toNat (la.getD (which.tmod b.cr).toNat 0+1))).length=true) (ap ((zDB (zA3 (zAM _))):PV.sl (zAx (List.take (List.map I (la.set (which.tmod b.cr).toNat (la.getD (which.tmod b.cr).toNat 0+1))).length (List.drop 0 (List.map I (la.set (which.tmod b.cr).toNat (la.getD (which.tmod b.cr).toNat 0+1))))))=PV.sl (List.map I (la.set (which.tmod b.cr).toNat (la.getD (which.tmod b.cr).toNat 0+1)))) (ap (f26 (b) (s) (la.set (which.tmod b.cr).toNat (la.getD (which.tmod b.cr).toNat 0+1)) (by omega) (by omega) (by first | omega | (simp<;>omega))) (ap ((by exact zQs (zCo _) rfl):(PV.tup [PV.own 1 (List.map I (zAv b s (la.set (which.tmod b.cr).toNat (la.getD (which.tmod b.cr).toNat 0+1)))),I (zCM b s (la.set (which.tmod b.cr).toNat (la.getD (which.tmod b.cr).toNat 0+1))),I (zB1 b s (la.set (which.tmod b.cr).toNat (la.getD (which.tmod b.cr).toNat 0+1)))]).free=true) an)))))) (zAe 7 (zAc (zAb (zAa (zAe 3 (zIt 176 (zB1 b s (la.set (which.tmod b.cr).toNat (la.getD (which.tmod b.cr).toNat 0+1))=0) (by omega) (zAe 1 (S_a [(0,.n ((zAv b s (la.set (which.tmod b.cr).toNat (la.getD (which.tmod b.cr).toNat 0+1))).length))] (ap ((by simp):some (List.map I (zAv b s (la.set (which.tmod b.cr).toNat (la.getD (which.tmod b.cr).toNat 0+1)))).length=some (zAv b s (la.set (which.tmod b.cr).toNat (la.getD (which.tmod b.cr).toNat 0+1))).length) an) (zAe 5 (zIt 183 ((↑(zAv b s (la.set (which.tmod b.cr).toNat (la.getD (which.tmod b.cr).toNat 0+1))).length:Int)=b.cr) (by omega) (zAe 2 (S_a [(0,.ob),(1,.ob),(1,.n ((which.tmod b.cr).toNat))] (ap ((by exact zAu (by omega)):decide (0≤which.tmod b.cr)=true) (ap ((by exact zAu (by simp only [List.length_map,zzLn]<;>omega)):decide ((which.tmod b.cr).toNat<(List.map I (zAv b s (la.set (which.tmod b.cr).toNat (la.getD (which.tmod b.cr).toNat 0+1)))).length)=true) (ap ((by simp):some (0+(which.tmod b.cr).toNat)=some (which.tmod b.cr).toNat) an))) (S_a [(0,.cs false ([I ((zAv b s (la.set (which.tmod b.cr).toNat (la.getD (which.tmod b.cr).toNat 0+1))).getD (which.tmod b.cr).toNat 0)]))] (ap (zBx (q:=PV.own 1 (List.map I (zAv b s (la.set (which.tmod b.cr).toNat (la.getD (which.tmod b.cr).toNat 0+1))))) (xs:=List.map I (zAv b s (la.set (which.tmod b.cr).toNat (la.getD (which.tmod b.cr).toNat 0+1)))) (x:=I ((zAv b s (la.set (which.tmod b.cr).toNat (la.getD (which.tmod b.cr).toNat 0+1))).getD (which.tmod b.cr).toNat 0)) rfl (zBd (0) (by omega)):zAj 22 (PV.own 1 (List.map I (zAv b s (la.set (which.tmod b.cr).toNat (la.getD (which.tmod b.cr).toNat 0+1))))) [] (which.tmod b.cr).toNat 0 1=some (false,[I ((zAv b s (la.set (which.tmod b.cr).toNat (la.getD (which.tmod b.cr).toNat 0+1))).getD (which.tmod b.cr).toNat 0)])) an) (zAe 2 (S_a [(0,.ob),(1,.ob),(1,.n ((which.tmod b.cr).toNat))] (ap ((by exact zAu (by omega)):decide (0≤which.tmod b.cr)=true) (ap ((by exact zAu (by simp only [List.length_map,zzLn]<;>omega)):decide ((which.tmod b.cr).toNat<(List.map I (zAv b s la)).length)=true) (ap ((by simp):some (0+(which.tmod b.cr).toNat)=some (which.tmod b.cr).toNat) an))) (S_a [(0,.cs false ([I ((zAv b s la).getD (which.tmod b.cr).toNat 0)]))] (ap (zBx (q:=PV.own 1 (List.map I (zAv b s la))) (xs:=List.map I (zAv b s la)) (x:=I ((zAv b s la).getD (which.tmod b.cr).toNat 0)) rfl (zBd (0) (by omega)):zAj 14 (PV.own 1 (List.map I (zAv b s la))) [] (which.tmod b.cr).toNat 0 1=some (false,[I ((zAv b s la).getD (which.tmod b.cr).toNat 0)])) an) (zAe 3 (zIt 194 ((zAv b s (la.set (which.tmod b.cr).toNat (la.getD (which.tmod b.cr).toNat 0+1))).getD (which.tmod b.cr).toNat 0≤(zAv b s la).getD (which.tmod b.cr).toNat 0) (by omega) (zAe 4 (zIt 198 (sm=0) (by omega) (S_a [(4,.ret (PV.bool true) ([]))] (ap (f16) an) (zAe 2 (zAc (zAD (E_a [] an (PV.bool true) ([]) rfl rfl))))))))))))))))))))))))))))))))))))))))))))))))))))))))))
 ·have g1:=zB0 ha
  have g2:=zB0 g1
  have u1:=zBC mins a t 20
  have u2:=zBC mins (zAk mins a) (zAF mins a t) 1
  have u3:=Int.mul_nonneg u1.1 u2.1
  clear h1 h2 h3 hw ha1 j5 vI
  have u4:zAt mins a t 20*zAt mins (zAk mins a) (zAF mins a t) 1≤20*1:=Int.mul_le_mul (by omega) (by omega) (by omega) (by omega)
  refine zAb (zAa (zAe 1 (zAc (zAb (zBN ((↑c:Int)<b.cr) (by omega) (zAn (zAb (zAm 1 (zAa (zAe 2 (S_a [(6,.ret (I (zAt mins a t 20)) ([zBY mins (zAk mins a) (zAF mins a t)]))] (ap (f24 (mins) (a) (t) (20) (by omega) (by omega)) an) (zAe 1 (S_a [(6,.ret (I (zAt mins (zAk mins a) (zAF mins a t) 1)) ([zBY mins (zAk mins (zAk mins a)) (zAF mins (zAk mins a) (zAF mins a t))]))] (ap (f24 (mins) (zAk mins a) (zAF mins a t) (1) (by omega) (by omega)) an) (S_a [(1,.v (I (zAt mins a t 20*zAt mins (zAk mins a) (zAF mins a t) 1)))] (ap ((zAH rfl (by omega)):I (IntKind.i64.wrap (zAt mins a t 20*zAt mins (zAk mins a) (zAF mins a t) 1))=I (zAt mins a t 20*zAt mins (zAk mins a) (zAF mins a t) 1)) an) (zAe 1 (S_a [(4,.ob),(0,.ob),(0,.yes),(2,.v (PV.own 1 (List.map I (la++[zAt mins a t 20*zAt mins (zAk mins a) (zAF mins a t) 1]))))] (ap ((by exact zAw (by simp only [List.length_map,zzLn,zAC]<;>omega)):(0+(List.map I la).length).ble (List.map I la).length=true) (ap ((by exact zAw (by simp only [List.length_map,zzLn,zAC]<;>omega)):((List.map I la).length + [I (zAt mins a t 20*zAt mins (zAk mins a) (zAF mins a t) 1)].length).ble zAC=true) (ap ((by exact zBF (by simp<;>omega)):(0+(List.map I la).length).beq (List.map I la).length=true) (ap ((by simp):PV.own 1 (List.map I la++[I (zAt mins a t 20*zAt mins (zAk mins a) (zAF mins a t) 1)])=PV.own 1 (List.map I (la++[zAt mins a t 20*zAt mins (zAk mins a) (zAF mins a t) 1]))) an)))) (zAe 1 (zAc (zAa (S_a [(1,.v (I (↑(c+1):Int)))] (ap ((zAH (by omega) (by omega)):I (IntKind.i64.wrap ((↑c:Int)+1))=I (↑(c+1):Int)) an) (zAe 1 (zAc ?_))))))))))))))))))))))
  exact ⟨(c+1,la++[zAt mins a t 20*zAt mins (zAk mins a) (zAF mins a t) 1],zAk mins (zAk mins a),zAF mins (zAk mins a) (zAF mins a t)),⟨by omega,by simp [gj],fun x hx=>by
   rcases List.mem_append.1 hx with hx | hx
   ·exact wL x hx
   ·rw [List.mem_singleton] at hx;subst hx;omega,g2⟩,by simp only;omega,by kernel_rfl,by kernel_rfl⟩
end Go.Eng
set_option maxRecDepth 10000
set_option maxHeartbeats 4000000
namespace Go.Eng
open Go Go.Proofs
section
variable [Yo]
end
end Go.Eng
