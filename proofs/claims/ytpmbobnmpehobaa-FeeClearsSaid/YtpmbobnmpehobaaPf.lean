/- Payments that are returned clear balances, and are as few as can be; groups that are returned are such, and as many as can be; whether payments clear is as specified; so are the errors; arguments are not modified (at most 12 balances, and 24 payments). -/
import Derived.Test.YtpmbobnmpehobaaPe
import Derived.Test.YtpmbobnmpehobaaPd
set_option linter.unusedVariables false
set_option linter.unusedSimpArgs false
set_option linter.unusedSectionVars false
set_option maxRecDepth 10000
set_option maxHeartbeats 4000000
namespace Go.Eng
open Go Go.Proofs
def zUE (a b:Int):Int:=if b<a then b else a
theorem zT7 {a b hi:Int} (ha:0≤a∧a≤hi) (hb:0≤b):0≤zUE a b∧zUE a b≤a∧zUE a b≤hi:=by unfold zUE;split<;>omega
def zJF (b:Dk) (f late:List Int) (c:Nat):Int:=zUE (f.getD c 0) (b.fn*late.getD c 0)
def zQs (b:Dk) (f late:List Int) (n:Nat):List Int:=(List.range n).map fun c=>f.getD c 0-zJF b f late c
def zIz (b:Dk) (f late:List Int) (n:Nat):List Int:=(List.range n).map (zJF b f late)
theorem zG3 {b:Dk} {f late:List Int} {n:Nat}:zQs b f late (n+1)=zQs b f late n++[f.getD n 0-zJF b f late n]:=by simp [zQs,List.range_succ]
theorem zF4 {b:Dk} {f late:List Int} {n:Nat}:zIz b f late (n+1)=zIz b f late n++[zJF b f late n]:=by simp [zIz,List.range_succ]
def zB3 (b:Dk) (l late:List Int):Int:=if zBk b l=0 then if (late.length:Int)=b.cr then if !late.all (fun x=>decide (0≤x)&&decide (x≤60)) then 3 else 0 else 2 else zBk b l
def zAx (b:Dk) (l late:List Int):List Int:=if zB3 b l late=0 then zQs b (zFG (zBu b) l l.length) late b.cr.toNat else []
def zCN (b:Dk) (l late:List Int):Int:=if zB3 b l late=0 then (zIz b (zFG (zBu b) l l.length) late b.cr.toNat).sum else 0
section
variable [Yo]
theorem f26 (b:Dk) (l late:List Int) (hb:zK2 b) (hl:l.length<4294967296) (hll:late.length<4294967296):FG 26 [zHZ b,zB2 l,zB2 late] (.tup [.own 1 ((zAx b l late).map I),I (zCN b l late),I (zB3 b l late)]):=by
 by_cases h:zBk b l=0
 ·obtain ⟨h0,h1,h2,h3⟩:=zTl h
  have hg:=zEe h0
  have vM:=hg.cr
  have kB:=hg.fn
  have kW:=hg.len
  have jn:l.length=(zBu b).length:=by rw [zEG];exact h1
  have ha:=zFY (fee:=zBu b) (zAu:=l) l.length
  have hin:=zTK (fee:=zBu b) (zAu:=l) (zGX hg) (n:=l.length) (by omega)
  have jP:∀ x∈l,0≤x∧x<4:=fun x hx=>by have:=h2 x hx;omega
  obtain ⟨y0,y1,y2,y3,hy⟩:=zP1 ha
  have h90:FG 90 [.ref (zG2 b (zBu b)),zB2 l] (.agg [I y0,I y1,I y2,I y3]):=by
   have:=f90 b (zBu b) l jP (zGX hg) (by omega) jn
   rw [hy] at this;exact this
  rw [hy] at hin
  refine zAi Try.f26 ?_
  refine zAb (zAa (zAe 4 (zAc (zAb (zAa (zAe 2 (S_a [(8,.ret (PV.tup [(zG2 b (zBu b)).ref,I 0]) ([]))] (ap (f88_1 (b) (l) (by omega) (by omega)) an) (zAe 5 (zAc (zAb (zAj 0 (zAb (zAa (zAe 3 (zAc (zBp (zAb (zAa (zAe 1 (S_a [(0,.n (late.length))] (ap ((by simp):some (List.map I late).length=some late.length) an) (zAe 4 (zAc (zFd ((↑late.length:Int)=b.cr) (fun k0=>(zAb (zAa (zAe 3 (zAc (zAD (E_a [] an (PV.tup [PV.own 1 [],I 0,I 2]) ([]) ?_ rfl))))))) (fun k0=>(zAb (zAa (zAe 1 (S_a [(7,.ret (PV.bool (late.all fun x=>decide (0≤x)&&decide (x≤60))) ([]))] (ap (f79_4 (late) (by omega)) an) (zAe 2 (zAc (zHP (!late.all fun x=>decide (0≤x)&&decide (x≤60)) (fun k1=>(zAb (zAa (zAe 3 (zAc (zAD (E_a [] an (PV.tup [PV.own 1 [],I 0,I 3]) ([]) ?_ rfl))))))) (fun k1=>(zAl (zAb (zAa (zAe 2 (zAc (zAb (zAb (zAa (zAe 2 (S_a [(7,.ret (PV.agg [I y0,I y1,I y2,I y3]) ([]))] (ap (h90) an) (zAe 1 (zAc (zAj 1 ?_)))))))))))))))))))))))))))))))))))))))))))))
  ·have e:¬ (late.length:Int)=b.cr:=by omega
   have e2:zB3 b l late=2:=by simp only [zB3,h,e,if_true,if_false]
   simp only [zAx,zCN,e2];rfl
  ·have e:(late.length:Int)=b.cr:=by omega
   have e2:zB3 b l late=3:=by simp only [zB3,h,e,k1,if_true]
   simp only [zAx,zCN,e2];rfl
  have e:(late.length:Int)=b.cr:=by omega
  have e2:zB3 b l late=0:=by simp only [zB3,h,e,k1,if_true];rfl
  have hlate:=zLR k1
  have hd:∀ c,0≤late.getD c 0∧late.getD c 0≤60:=by
   intro c
   rcases Nat.lt_or_ge c late.length with h | h
   ·exact zBI hlate c h
   ·rw [List.getD_eq_getElem?_getD,List.getElem?_eq_none h];simp
  have hm:∀ c,0≤b.fn*late.getD c 0∧b.fn*late.getD c 0≤20*60:=fun c=>⟨Int.mul_nonneg kB.1 (hd c).1,Int.mul_le_mul (by omega) (hd c).2 (hd c).1 (by omega)⟩
  have hyb:∀ c,0≤[y0,y1,y2,y3].getD c 0∧[y0,y1,y2,y3].getD c 0≤1000000:=by
   intro c
   rcases Nat.lt_or_ge c 4 with h | h
   ·exact zBI hin c h
   ·rw [List.getD_eq_getElem?_getD,List.getElem?_eq_none h];simp
  have gm:∀ c,0≤zJF b [y0,y1,y2,y3] late c∧zJF b [y0,y1,y2,y3] late c≤[y0,y1,y2,y3].getD c 0∧zJF b [y0,y1,y2,y3] late c≤1000000:=fun c=>zT7 (hyb c) (hm c).1
  refine zAX (fun (i,o,s)=>i≤4∧o=zQs b [y0,y1,y2,y3] late (min i b.cr.toNat)∧s=zIz b [y0,y1,y2,y3] late (min i b.cr.toNat)) (fun (i,o,s)=>[(11,.own 1 (o.map I)),(12,.own 1 (s.map I)),(39,I (i:Nat))]) (fun (i,_,_)=>4-i) ((0:Nat),([]:List Int),([]:List Int)) ⟨by omega,by simp [zQs],by simp [zIz]⟩ fun (i,o,s) ⟨hi,ho,hs⟩=>?_
  have uC:∀ x∈s,-1000000000000≤x∧x≤1000000000000:=by
   rw [hs];intro x hx
   obtain ⟨c,_,rfl⟩:=List.mem_map.1 hx
   have:=gm c;omega
  have j0:s.length≤4:=by rw [hs];simp [zIz];omega
  have hol:o.length≤4:=by rw [ho];simp [zQs];omega
  obtain rfl | rfl | rfl | rfl | rfl:i=0∨i=1∨i=2∨i=3∨i=4:=by omega
  ·have hk:0≤(if b.fn*late.getD 0 0<y0 then b.fn*late.getD 0 0 else y0)∧(if b.fn*late.getD 0 0<y0 then b.fn*late.getD 0 0 else y0)≤y0∧(if b.fn*late.getD 0 0<y0 then b.fn*late.getD 0 0 else y0)≤1000000:=gm 0
   have hyk:0≤y0∧y0≤1000000:=hyb 0
   have uk:=hm 0
   refine zAb (zAa (zAe 1 (zAc (zAb (zCb (zAl (zAb (zAj 2 (zAb (zAa (zAe 4 (zAc (zAb (zAa (zAe 4 (zAc (zA6 ((↑0:Int)<b.cr) (by omega) (zAb (zAa (zAe 5 (S_a [(2,.v (I (late.getD 0 0)))] (ap (zAR (0) (by omega):(List.map I late)[0]? = some (I (late.getD 0 0))) an) (zAe 1 (S_a [(1,.v (I (b.fn*late.getD 0 0)))] (ap ((zAy rfl (by omega)):I (IntKind.i64.wrap (b.fn*late.getD 0 0))=I (b.fn*late.getD 0 0)) an) (zAe 2 (zAc (zAa (zAe 3 (S_a [(1,.v (I (y0-if b.fn*late.getD 0 0<y0 then b.fn*late.getD 0 0 else y0)))] (ap ((zAy rfl (by omega)):I (IntKind.i64.wrap (y0-if b.fn*late.getD 0 0<y0 then b.fn*late.getD 0 0 else y0))=I (y0-if b.fn*late.getD 0 0<y0 then b.fn*late.getD 0 0 else y0)) an) (zAe 1 (S_a [(4,.ob),(0,.ob),(0,.yes),(2,.v (PV.own 1 (List.map I (o++[y0-if b.fn*late.getD 0 0<y0 then b.fn*late.getD 0 0 else y0]))))] (ap ((by exact zAs (by simp only [List.length_map,zzLn,zAv]<;>omega)):(0+(List.map I o).length).ble (List.map I o).length=true) (ap ((by exact zAs (by simp only [List.length_map,zzLn,zAv]<;>omega)):((List.map I o).length + [I (y0-if b.fn*late.getD 0 0<y0 then b.fn*late.getD 0 0 else y0)].length).ble zAv=true) (ap ((by exact zBH (by simp<;>omega)):(0+(List.map I o).length).beq (List.map I o).length=true) (ap ((by simp):PV.own 1 (List.map I o++[I (y0-if b.fn*late.getD 0 0<y0 then b.fn*late.getD 0 0 else y0)])=PV.own 1 (List.map I (o++[y0-if b.fn*late.getD 0 0<y0 then b.fn*late.getD 0 0 else y0]))) an)))) (zAe 3 (S_a [(4,.ob),(0,.ob),(0,.yes),(2,.v (PV.own 1 (List.map I (s++[if b.fn*late.getD 0 0<y0 then b.fn*late.getD 0 0 else y0]))))] (ap ((by exact zAs (by simp only [List.length_map,zzLn,zAv]<;>omega)):(0+(List.map I s).length).ble (List.map I s).length=true) (ap ((by exact zAs (by simp only [List.length_map,zzLn,zAv]<;>omega)):((List.map I s).length + [I (if b.fn*late.getD 0 0<y0 then b.fn*late.getD 0 0 else y0)].length).ble zAv=true) (ap ((by exact zBH (by simp<;>omega)):(0+(List.map I s).length).beq (List.map I s).length=true) (ap ((by simp):PV.own 1 (List.map I s++[I (if b.fn*late.getD 0 0<y0 then b.fn*late.getD 0 0 else y0)])=PV.own 1 (List.map I (s++[if b.fn*late.getD 0 0<y0 then b.fn*late.getD 0 0 else y0]))) an)))) (zAe 2 (zAc (zAa (zAe 2 (zAc ?_)))))))))))))))))))))))))))))))))))))
   ·exact ⟨(1,o++[y0-(if b.fn*late.getD 0 0<y0 then b.fn*late.getD 0 0 else y0)],s++[(if b.fn*late.getD 0 0<y0 then b.fn*late.getD 0 0 else y0)]),⟨by omega,by rw [ho,show min 1 b.cr.toNat=0+1 by omega,show min 0 b.cr.toNat=0 by omega,zG3];rfl,by rw [hs,show min 1 b.cr.toNat=0+1 by omega,show min 0 b.cr.toNat=0 by omega,zF4];rfl⟩,by simp,by kernel_rfl,by kernel_rfl⟩
  ·have hk:0≤(if b.fn*late.getD 1 0<y1 then b.fn*late.getD 1 0 else y1)∧(if b.fn*late.getD 1 0<y1 then b.fn*late.getD 1 0 else y1)≤y1∧(if b.fn*late.getD 1 0<y1 then b.fn*late.getD 1 0 else y1)≤1000000:=gm 1
   have hyk:0≤y1∧y1≤1000000:=hyb 1
   have uk:=hm 1
   refine zAb (zAa (zAe 1 (zAc (zAb (zCb (zAl (zAb (zAj 2 (zAb (zAa (zAe 4 (zAc (zAb (zAa (zAe 4 (zAc (zCM ((↑1:Int)<b.cr) (fun k2=>(zAb (zAa (zAe 5 (S_a [(2,.v (I (late.getD 1 0)))] (ap (zAR (0) (by omega):(List.map I late)[1]? = some (I (late.getD 1 0))) an) (zAe 1 (S_a [(1,.v (I (b.fn*late.getD 1 0)))] (ap ((zAy rfl (by omega)):I (IntKind.i64.wrap (b.fn*late.getD 1 0))=I (b.fn*late.getD 1 0)) an) (zAe 2 (zAc (zAa (zAe 3 (S_a [(1,.v (I (y1-if b.fn*late.getD 1 0<y1 then b.fn*late.getD 1 0 else y1)))] (ap ((zAy rfl (by omega)):I (IntKind.i64.wrap (y1-if b.fn*late.getD 1 0<y1 then b.fn*late.getD 1 0 else y1))=I (y1-if b.fn*late.getD 1 0<y1 then b.fn*late.getD 1 0 else y1)) an) (zAe 1 (S_a [(4,.ob),(0,.ob),(0,.yes),(2,.v (PV.own 1 (List.map I (o++[y1-if b.fn*late.getD 1 0<y1 then b.fn*late.getD 1 0 else y1]))))] (ap ((by exact zAs (by simp only [List.length_map,zzLn,zAv]<;>omega)):(0+(List.map I o).length).ble (List.map I o).length=true) (ap ((by exact zAs (by simp only [List.length_map,zzLn,zAv]<;>omega)):((List.map I o).length + [I (y1-if b.fn*late.getD 1 0<y1 then b.fn*late.getD 1 0 else y1)].length).ble zAv=true) (ap ((by exact zBH (by simp<;>omega)):(0+(List.map I o).length).beq (List.map I o).length=true) (ap ((by simp):PV.own 1 (List.map I o++[I (y1-if b.fn*late.getD 1 0<y1 then b.fn*late.getD 1 0 else y1)])=PV.own 1 (List.map I (o++[y1-if b.fn*late.getD 1 0<y1 then b.fn*late.getD 1 0 else y1]))) an)))) (zAe 3 (S_a [(4,.ob),(0,.ob),(0,.yes),(2,.v (PV.own 1 (List.map I (s++[if b.fn*late.getD 1 0<y1 then b.fn*late.getD 1 0 else y1]))))] (ap ((by exact zAs (by simp only [List.length_map,zzLn,zAv]<;>omega)):(0+(List.map I s).length).ble (List.map I s).length=true) (ap ((by exact zAs (by simp only [List.length_map,zzLn,zAv]<;>omega)):((List.map I s).length + [I (if b.fn*late.getD 1 0<y1 then b.fn*late.getD 1 0 else y1)].length).ble zAv=true) (ap ((by exact zBH (by simp<;>omega)):(0+(List.map I s).length).beq (List.map I s).length=true) (ap ((by simp):PV.own 1 (List.map I s++[I (if b.fn*late.getD 1 0<y1 then b.fn*late.getD 1 0 else y1)])=PV.own 1 (List.map I (s++[if b.fn*late.getD 1 0<y1 then b.fn*late.getD 1 0 else y1]))) an)))) (zAe 2 (zAc (zAa (zAe 2 (zAc ?_))))))))))))))))))))) (fun k2=>(zAl (zAa (zAe 2 (zAc ?_))))))))))))))))))))))
   ·exact ⟨(2,o++[y1-(if b.fn*late.getD 1 0<y1 then b.fn*late.getD 1 0 else y1)],s++[(if b.fn*late.getD 1 0<y1 then b.fn*late.getD 1 0 else y1)]),⟨by omega,by rw [ho,show min 2 b.cr.toNat=1+1 by omega,show min 1 b.cr.toNat=1 by omega,zG3];rfl,by rw [hs,show min 2 b.cr.toNat=1+1 by omega,show min 1 b.cr.toNat=1 by omega,zF4];rfl⟩,by simp,by kernel_rfl,by kernel_rfl⟩
   ·exact ⟨(2,o,s),⟨by omega,by rw [ho,show min 2 b.cr.toNat=min 1 b.cr.toNat by omega],by rw [hs,show min 2 b.cr.toNat=min 1 b.cr.toNat by omega]⟩,by simp,by kernel_rfl,by kernel_rfl⟩
  ·have hk:0≤(if b.fn*late.getD 2 0<y2 then b.fn*late.getD 2 0 else y2)∧(if b.fn*late.getD 2 0<y2 then b.fn*late.getD 2 0 else y2)≤y2∧(if b.fn*late.getD 2 0<y2 then b.fn*late.getD 2 0 else y2)≤1000000:=gm 2
   have hyk:0≤y2∧y2≤1000000:=hyb 2
   have uk:=hm 2
   refine zAb (zAa (zAe 1 (zAc (zAb (zCb (zAl (zAb (zAj 2 (zAb (zAa (zAe 4 (zAc (zAb (zAa (zAe 4 (zAc (zCM ((↑2:Int)<b.cr) (fun k2=>(zAb (zAa (zAe 5 (S_a [(2,.v (I (late.getD 2 0)))] (ap (zAR (0) (by omega):(List.map I late)[2]? = some (I (late.getD 2 0))) an) (zAe 1 (S_a [(1,.v (I (b.fn*late.getD 2 0)))] (ap ((zAy rfl (by omega)):I (IntKind.i64.wrap (b.fn*late.getD 2 0))=I (b.fn*late.getD 2 0)) an) (zAe 2 (zAc (zAa (zAe 3 (S_a [(1,.v (I (y2-if b.fn*late.getD 2 0<y2 then b.fn*late.getD 2 0 else y2)))] (ap ((zAy rfl (by omega)):I (IntKind.i64.wrap (y2-if b.fn*late.getD 2 0<y2 then b.fn*late.getD 2 0 else y2))=I (y2-if b.fn*late.getD 2 0<y2 then b.fn*late.getD 2 0 else y2)) an) (zAe 1 (S_a [(4,.ob),(0,.ob),(0,.yes),(2,.v (PV.own 1 (List.map I (o++[y2-if b.fn*late.getD 2 0<y2 then b.fn*late.getD 2 0 else y2]))))] (ap ((by exact zAs (by simp only [List.length_map,zzLn,zAv]<;>omega)):(0+(List.map I o).length).ble (List.map I o).length=true) (ap ((by exact zAs (by simp only [List.length_map,zzLn,zAv]<;>omega)):((List.map I o).length + [I (y2-if b.fn*late.getD 2 0<y2 then b.fn*late.getD 2 0 else y2)].length).ble zAv=true) (ap ((by exact zBH (by simp<;>omega)):(0+(List.map I o).length).beq (List.map I o).length=true) (ap ((by simp):PV.own 1 (List.map I o++[I (y2-if b.fn*late.getD 2 0<y2 then b.fn*late.getD 2 0 else y2)])=PV.own 1 (List.map I (o++[y2-if b.fn*late.getD 2 0<y2 then b.fn*late.getD 2 0 else y2]))) an)))) (zAe 3 (S_a [(4,.ob),(0,.ob),(0,.yes),(2,.v (PV.own 1 (List.map I (s++[if b.fn*late.getD 2 0<y2 then b.fn*late.getD 2 0 else y2]))))] (ap ((by exact zAs (by simp only [List.length_map,zzLn,zAv]<;>omega)):(0+(List.map I s).length).ble (List.map I s).length=true) (ap ((by exact zAs (by simp only [List.length_map,zzLn,zAv]<;>omega)):((List.map I s).length + [I (if b.fn*late.getD 2 0<y2 then b.fn*late.getD 2 0 else y2)].length).ble zAv=true) (ap ((by exact zBH (by simp<;>omega)):(0+(List.map I s).length).beq (List.map I s).length=true) (ap ((by simp):PV.own 1 (List.map I s++[I (if b.fn*late.getD 2 0<y2 then b.fn*late.getD 2 0 else y2)])=PV.own 1 (List.map I (s++[if b.fn*late.getD 2 0<y2 then b.fn*late.getD 2 0 else y2]))) an)))) (zAe 2 (zAc (zAa (zAe 2 (zAc ?_))))))))))))))))))))) (fun k2=>(zAl (zAa (zAe 2 (zAc ?_))))))))))))))))))))))
   ·exact ⟨(3,o++[y2-(if b.fn*late.getD 2 0<y2 then b.fn*late.getD 2 0 else y2)],s++[(if b.fn*late.getD 2 0<y2 then b.fn*late.getD 2 0 else y2)]),⟨by omega,by rw [ho,show min 3 b.cr.toNat=2+1 by omega,show min 2 b.cr.toNat=2 by omega,zG3];rfl,by rw [hs,show min 3 b.cr.toNat=2+1 by omega,show min 2 b.cr.toNat=2 by omega,zF4];rfl⟩,by simp,by kernel_rfl,by kernel_rfl⟩
   ·exact ⟨(3,o,s),⟨by omega,by rw [ho,show min 3 b.cr.toNat=min 2 b.cr.toNat by omega],by rw [hs,show min 3 b.cr.toNat=min 2 b.cr.toNat by omega]⟩,by simp,by kernel_rfl,by kernel_rfl⟩
  ·have hk:0≤(if b.fn*late.getD 3 0<y3 then b.fn*late.getD 3 0 else y3)∧(if b.fn*late.getD 3 0<y3 then b.fn*late.getD 3 0 else y3)≤y3∧(if b.fn*late.getD 3 0<y3 then b.fn*late.getD 3 0 else y3)≤1000000:=gm 3
   have hyk:0≤y3∧y3≤1000000:=hyb 3
   have uk:=hm 3
   refine zAb (zAa (zAe 1 (zAc (zAb (zCb (zAl (zAb (zAj 2 (zAb (zAa (zAe 4 (zAc (zAb (zAa (zAe 4 (zAc (zCM ((↑3:Int)<b.cr) (fun k2=>(zAb (zAa (zAe 5 (S_a [(2,.v (I (late.getD 3 0)))] (ap (zAR (0) (by omega):(List.map I late)[3]? = some (I (late.getD 3 0))) an) (zAe 1 (S_a [(1,.v (I (b.fn*late.getD 3 0)))] (ap ((zAy rfl (by omega)):I (IntKind.i64.wrap (b.fn*late.getD 3 0))=I (b.fn*late.getD 3 0)) an) (zAe 2 (zAc (zAa (zAe 3 (S_a [(1,.v (I (y3-if b.fn*late.getD 3 0<y3 then b.fn*late.getD 3 0 else y3)))] (ap ((zAy rfl (by omega)):I (IntKind.i64.wrap (y3-if b.fn*late.getD 3 0<y3 then b.fn*late.getD 3 0 else y3))=I (y3-if b.fn*late.getD 3 0<y3 then b.fn*late.getD 3 0 else y3)) an) (zAe 1 (S_a [(4,.ob),(0,.ob),(0,.yes),(2,.v (PV.own 1 (List.map I (o++[y3-if b.fn*late.getD 3 0<y3 then b.fn*late.getD 3 0 else y3]))))] (ap ((by exact zAs (by simp only [List.length_map,zzLn,zAv]<;>omega)):(0+(List.map I o).length).ble (List.map I o).length=true) (ap ((by exact zAs (by simp only [List.length_map,zzLn,zAv]<;>omega)):((List.map I o).length + [I (y3-if b.fn*late.getD 3 0<y3 then b.fn*late.getD 3 0 else y3)].length).ble zAv=true) (ap ((by exact zBH (by simp<;>omega)):(0+(List.map I o).length).beq (List.map I o).length=true) (ap ((by simp):PV.own 1 (List.map I o++[I (y3-if b.fn*late.getD 3 0<y3 then b.fn*late.getD 3 0 else y3)])=PV.own 1 (List.map I (o++[y3-if b.fn*late.getD 3 0<y3 then b.fn*late.getD 3 0 else y3]))) an)))) (zAe 3 (S_a [(4,.ob),(0,.ob),(0,.yes),(2,.v (PV.own 1 (List.map I (s++[if b.fn*late.getD 3 0<y3 then b.fn*late.getD 3 0 else y3]))))] (ap ((by exact zAs (by simp only [List.length_map,zzLn,zAv]<;>omega)):(0+(List.map I s).length).ble (List.map I s).length=true) (ap ((by exact zAs (by simp only [List.length_map,zzLn,zAv]<;>omega)):((List.map I s).length + [I (if b.fn*late.getD 3 0<y3 then b.fn*late.getD 3 0 else y3)].length).ble zAv=true) (ap ((by exact zBH (by simp<;>omega)):(0+(List.map I s).length).beq (List.map I s).length=true) (ap ((by simp):PV.own 1 (List.map I s++[I (if b.fn*late.getD 3 0<y3 then b.fn*late.getD 3 0 else y3)])=PV.own 1 (List.map I (s++[if b.fn*late.getD 3 0<y3 then b.fn*late.getD 3 0 else y3]))) an)))) (zAe 2 (zAc (zAa (zAe 2 (zAc ?_))))))))))))))))))))) (fun k2=>(zAl (zAa (zAe 2 (zAc ?_))))))))))))))))))))))
   ·exact ⟨(4,o++[y3-(if b.fn*late.getD 3 0<y3 then b.fn*late.getD 3 0 else y3)],s++[(if b.fn*late.getD 3 0<y3 then b.fn*late.getD 3 0 else y3)]),⟨by omega,by rw [ho,show min 4 b.cr.toNat=3+1 by omega,show min 3 b.cr.toNat=3 by omega,zG3];rfl,by rw [hs,show min 4 b.cr.toNat=3+1 by omega,show min 3 b.cr.toNat=3 by omega,zF4];rfl⟩,by simp,by kernel_rfl,by kernel_rfl⟩
   ·exact ⟨(4,o,s),⟨by omega,by rw [ho,show min 4 b.cr.toNat=min 3 b.cr.toNat by omega],by rw [hs,show min 4 b.cr.toNat=min 3 b.cr.toNat by omega]⟩,by simp,by kernel_rfl,by kernel_rfl⟩
  ·refine zAb (zAa (zAe 1 (zAc (zAb (zBp (zA9 1 (zAb (zAa (zAe 2 (S_a [(3,.ob),(0,.v (PV.sl (List.map I s))),(2,.ret (I s.sum) ([]))] (ap ((by exact zAs (by simp only [List.length_map,zzLn,zAv]<;>omega)):(0+(List.map I s).length).ble (List.map I s).length=true) (ap ((zB6 (zAM (zAE _))):PV.sl (zAr (List.take (List.map I s).length (List.drop 0 (List.map I s))))=PV.sl (List.map I s)) (ap (f81a (s) (by omega) (by omega)) an))) (S_a [(2,.yes)] (ap ((by exact zBH (by simp<;>omega)):(Nat.beq 0 0&&(List.map I o).length.beq (List.map I o).length)=true) an) (zAe 2 (zAc (zAD (E_a [(1,.yes),(1,.v (PV.own 1 (List.map I o)))] (ap ((by exact zAs (by simp only [List.length_map,zzLn,zAv]<;>omega)):(0+(List.map I o).length).ble (List.map I o).length=true) (ap ((zFy zDE):PV.own 1 (List.take (List.map I o).length (List.drop 0 (List.map I o)))=PV.own 1 (List.map I o)) an)) (PV.tup [PV.own 1 (List.map I o),I s.sum,I 0]) ([]) ?_ rfl)))))))))))))))
   rw [show min 4 b.cr.toNat=b.cr.toNat by omega] at ho hs
   simp only [zAx,zCN,e2,if_true,hy,← ho,← hs]
 ·have e2:zB3 b l late=zBk b l:=by simp only [zB3,h,if_false]
  refine zAi Try.f26 ?_
  refine zAb (zAa (zAe 4 (zAc (zAb (zAa (zAe 2 (S_a [(8,.ret (PV.tup [PV.nilp,I (zBk b l)]) ([]))] (ap (f88_2 (b) (l) (by omega) (by omega) (by omega)) an) (zAe 5 (zAc (zAb (zAj 0 (zAb (zAa (zAe 3 (zAc (zEb (zBk b l=0) (by omega) (zAb (zAa (zAe 4 (zAc (zAD (E_a [] an (PV.tup [PV.own 1 [],I 0,I (zBk b l)]) ([]) ?_ rfl))))))))))))))))))))))
  ·simp only [zAx,zCN,e2,h,if_false];rfl
end
end Go.Eng
set_option maxRecDepth 10000
set_option maxHeartbeats 4000000
namespace Go.Eng
open Go Go.Proofs
theorem zV0 {l:List Int} {c:Int} {i:Nat} (h:i<l.length) (hc:l.getD i 0=c):has l c=true:=by
 rw [zAC h] at hc
 exact List.any_eq_true.2 ⟨l[i],List.getElem_mem h,by simp [hc]⟩
def zRb (b:Dk) (l:List Int) (c:Int):Nat→Int
 | 0=>0
 | n+1=>if l.getD n 0=c then zRb b l c n+zFf b (rnd b n) else zRb b l c n
theorem zLY {b:Dk} {l:List Int} (hl:∀ x∈l,0≤x∧x<4):∀ (n:Nat),n≤l.length→n≤b.rs.length→∀ c:Nat,c<4→(zFG (zBu b) l n).getD c 0=zRb b l c n
 | 0,_,_,c,hc=>by
  match c,hc with
  | 0,_=>rfl
  | 1,_=>rfl
  | 2,_=>rfl
  | 3,_=>rfl
 | n + 1,h1,h2,c,hc=>by
  have ih:=zLY (b:=b) hl n (by omega) (by omega)
  have hx:=zBI hl n (by omega)
  rw [zFG,zEY,zFY,zRb,zGM (by omega:n<b.rs.length)]
  by_cases he:l.getD n 0=c
  ·rw [if_pos ⟨by omega,hc⟩,if_pos he,ih _ (by omega)]
   have:((l.getD n 0).toNat:Int)=c:=by omega
   rw [this];rfl
  ·rw [if_neg (by omega),if_neg he,ih c hc]
section
variable [Yo]
end
end Go.Eng
set_option maxRecDepth 10000
set_option maxHeartbeats 4000000
namespace Go.Eng
open Go Go.Proofs
section
variable [Yo]
end
end Go.Eng
set_option maxRecDepth 10000
set_option maxHeartbeats 4000000
namespace Go.Eng
open Go Go.Proofs
theorem zQX {b:Dk} {l:List Int} (h:ShareOk b l):zAW b l=(List.range b.cr.toNat).map fun c:Nat=>zRb b l (c:Int) l.length:=by
 have hg:=zEe h.box
 have hs:zBk b l=0:=by
  have h2:(!l.all (fun x=>decide (0≤x)&&decide (x≤b.cr-1)))=false:=by
   simp only [Bool.not_eq_false',List.all_eq_true]
   intro x hx;have:=h.rng x hx;simp;omega
  simp only [zBk,h.box,h.len,h2,h.may,if_true];rfl
 have vM:=hg.cr
 have hx:∀ x∈l,0≤x∧x<4:=fun x hx=>by have:=h.rng x hx;omega
 have hO:=zFY (fee:=zBu b) (zAu:=l) l.length
 simp only [zAW,hs,if_true]
 apply List.ext_getElem?
 intro i
 rw [List.getElem?_take,List.getElem?_map]
 by_cases hi:i<b.cr.toNat
 ·rw [if_pos hi,List.getElem?_range hi,List.getElem?_eq_getElem (by omega)]
  have:=zLY hx l.length (Nat.le_refl _) (by rw [h.len];exact Nat.le_refl _) i (by omega)
  rw [zAC (by omega)] at this
  simp [this]
 ·rw [if_neg hi,List.getElem?_eq_none (by simpa using hi)];rfl
section
variable [Yo]
end
end Go.Eng
set_option maxRecDepth 10000
set_option maxHeartbeats 4000000
namespace Go.Eng
open Go Go.Proofs
section
variable [Yo]
end
end Go.Eng
set_option maxRecDepth 10000
set_option maxHeartbeats 4000000
namespace Go.Eng
open Go Go.Proofs
section
variable [Yo]
end
end Go.Eng
namespace Go.Eng
open Go Go.Proofs
section
variable [Yo]
theorem f17 (l:List Int) (hl:l.length<1000000):FG 17 [zB2 l] (.own 1 (l.map I)):=by
 refine zAi Try.f17 ?_
 refine zAb (zAa (zAe 1 (zAc (zAb (zAa (zAe 1 (S_a [(0,.n (l.length))] (ap ((by simp):some (List.map I l).length=some l.length) an) (S_a [(4,.ob),(0,.ob),(1,.v (PV.own 1 (List.map I (List.replicate l.length 0))))] (ap ((by exact zAp (by omega)):decide (l.length≤l.length)=true) (ap ((by exact zAp (by simp [zAv]<;>omega)):decide (l.length≤zAv)=true) (ap ((by simp):PV.own 1 (List.replicate l.length (I 0))=PV.own 1 (List.map I (List.replicate l.length 0))) an))) (zAe 1 (zAc (zAb (zAa (zAe 2 (zPy (fun q=>q) 3 1 (List.map I (List.replicate l.length 0)) (List.map I l) (List.map I l) (zNF fun _ _=>(by first | exact zOu | exact ⟨rfl,rfl,rfl,rfl,Nat.le_refl _,rfl⟩)) (by simp<;>omega) (zQ8 (by simp<;>omega)) zS7.nil (zAc (zAb (zAa (zAe 1 (S_a [(2,.yes)] (ap ((by exact zBH (by simp<;>omega)):(Nat.beq 0 0&&(List.map I l).length.beq (List.map I l).length)=true) an) (zAc (zAD (E_a [(1,.yes),(1,.v (PV.own 1 (List.map I l)))] (ap ((by exact zAs (by simp only [List.length_map,zzLn,zAv]<;>omega)):(0+(List.map I l).length).ble (List.map I l).length=true) (ap ((by simp [zDC]):PV.own 1 (List.take (List.map I l).length (List.drop 0 (List.map I l)))=PV.own 1 (List.map I l)) an)) (PV.own 1 (List.map I l)) ([]) rfl rfl))))))))))))))))))))))
end
section
variable [Yo]
end
section
variable [Yo]
end
end Go.Eng
set_option maxRecDepth 10000
set_option maxHeartbeats 4000000
namespace Go.Eng
open Go Go.Proofs
abbrev zJW (r:Rnd):PV := .agg [I r.w,I r.s,.own 1 (r.may.map I)]
section
variable [Yo]
end
end Go.Eng
namespace Go.Eng
open Go Go.Proofs
abbrev u8 (n:Int):PV := .int .u8 n
abbrev u32 (n:Int):PV := .int .u32 n
abbrev zCe (l:List Int) (a:Nat) (t:Int):PV := .box (.agg [.sl (l.map u8),I a,u32 t])
abbrev zO2:PV := .addr 50000000 [] 0 0 (some 3)
def zEn (l:List Int) (a:Nat):Prop:=a≤l.length∧l.length<9223372036854775808
def zGe (l:List Int) (a:Nat):Nat:=if a=l.length then 0 else a
def zAK (l:List Int) (a:Nat) (t:Int):Int:=if a=l.length then IntKind.u32.wrap (t+1) else t
def zAn (l:List Int) (a:Nat):Nat:=if 0<l.length then zGe l a+1 else zGe l a
theorem zCB {l:List Int} {a:Nat} (h:zEn l a):zEn l (zAn l a):=by
 obtain ⟨h1,h2⟩:=h
 refine ⟨?_,h2⟩
 unfold zAn zGe
 repeat' split
 all_goals omega
def zPm (n:Int):Int:=IntKind.u32.wrap ↑(BitVec.ofInt IntKind.u32.bits (IntKind.u32.wrap ↑(BitVec.ofInt IntKind.u32.bits n ^^^ BitVec.ofInt IntKind.u32.bits (n.fdiv (2 ^ min (Int.toNat 7) IntKind.u32.bits))).toNat) &&& BitVec.ofInt IntKind.u32.bits 65535).toNat
theorem zOD (n:Int):0≤zPm n∧zPm n≤65535:=by
 unfold zPm
 generalize BitVec.ofInt IntKind.u32.bits (IntKind.u32.wrap ↑(BitVec.ofInt IntKind.u32.bits n ^^^ BitVec.ofInt IntKind.u32.bits (n.fdiv (2 ^ min (Int.toNat 7) IntKind.u32.bits))).toNat)=x
 have h:(x &&& BitVec.ofInt IntKind.u32.bits 65535).toNat≤65535:=by
  rw [BitVec.toNat_and]
  exact Nat.le_trans Nat.and_le_right (by decide)
 generalize (x &&& BitVec.ofInt IntKind.u32.bits 65535).toNat=m at h
 have:IntKind.u32.wrap (m:Int)=m:=by
  simp only [IntKind.wrap]
  simp [IntKind.signed,IntKind.bits]
  omega
 rw [this];omega
def zHv (l:List Int) (a:Nat) (t:Int):Int:=zPm (if 0<l.length then IntKind.u32.wrap (IntKind.u32.wrap (30011*zAK l a t)+IntKind.u32.wrap (263*IntKind.u32.wrap (l.getD (zGe l a) 0))) else IntKind.u32.wrap (30011*zAK l a t))
theorem zSa (l:List Int) (a:Nat) (t:Int):0≤zHv l a t∧zHv l a t≤65535:=zOD _
def zAG (l:List Int) (a:Nat) (t:Int) (n:Int):Int:=(zHv l a t).tmod (max 1 (n+1))
theorem zBT (l:List Int) (a:Nat) (t:Int) (n:Int):0≤zAG l a t n∧zAG l a t n≤max 0 n:=by
 have h1:=zSa l a t
 have h2:0<max 1 (n+1):=by omega
 have h3:=Int.tmod_nonneg (max 1 (n+1)) h1.1
 have h4:=Int.tmod_lt_of_pos (zHv l a t) h2
 unfold zAG
 omega
section
variable [Yo]
theorem f22 (l:List Int):FG 22 [.sl (l.map u8)] (zCe l 0 0):=by
 refine zAi Try.f22 ?_
 refine zAb (zAa (zAe 1 (zAc (zAb (zAa (zAe 4 (zAc (zAD (E_a [] an ((PV.agg [PV.sl (List.map u8 l),I 0,PV.int IntKind.u32 0]).box) ([]) rfl rfl)))))))))
theorem f86 (l:List Int) (a:Nat) (t:Int) (h:zEn l a):zBy Try.prog zAw 86 [zO2] [zCe l a t] (I (zHv l a t)) [zCe l (zAn l a) (zAK l a t)]:=by
 refine zAi Try.f86 ?_
 have h1:=h.1
 have h2:=h.2
 have hb:∀ n,-9223372036854775808≤zPm n∧zPm n<9223372036854775808:=fun n=>by have:=zOD n;omega
 refine zAb (zAa (zAe 1 (zAc (zAb (zAb (zAa (zAe 8 (S_a [(0,.n (l.length))] (ap ((by simp):some (List.map u8 l).length=some l.length) an) (zAe 1 (zAc (zCM ((↑a:Int)=(↑l.length:Int)) (fun k0=>(zAa (zAe 6 (zAe 1 (zAe 6 (zAc (zAb (zAa (zAe 3 (zAe 1 (zAe 1 (zAe 1 (zAc (zAb (zAb (zAa (zAe 4 (S_a [(0,.n (l.length))] (ap ((by simp):some (List.map u8 l).length=some l.length) an) (zAe 1 (zAc (zCM ((↑l.length:Int)>0) (fun k1=>(zAb (zAa (zAe 9 (S_a [(2,.v (PV.int IntKind.u8 (l.getD 0 0)))] (ap (zAR (0) (by omega):(List.map u8 l)[0]? = some (PV.int IntKind.u8 (l.getD 0 0))) an) (zAe 1 (zAe 1 (zAe 1 (zAe 1 (zAe 1 (zAc (zAa (zAe 8 (zAc (zAb (zAa (zAe 2 (zAe 1 (zAe 1 (zAe 1 (S_a [(0,.v (I (IntKind.u32.wrap (↑(BitVec.ofInt IntKind.u32.bits (IntKind.u32.wrap (↑(BitVec.ofInt IntKind.u32.bits (IntKind.u32.wrap (IntKind.u32.wrap (30011*IntKind.u32.wrap (t+1))+IntKind.u32.wrap (263*IntKind.u32.wrap (l.getD 0 0)))) ^^^ BitVec.ofInt IntKind.u32.bits ((IntKind.u32.wrap (IntKind.u32.wrap (30011*IntKind.u32.wrap (t+1))+IntKind.u32.wrap (263*IntKind.u32.wrap (l.getD 0 0)))).fdiv (2 ^ min (Int.toNat 7) IntKind.u32.bits))).toNat:Int)) &&& BitVec.ofInt IntKind.u32.bits 65535).toNat:Int))))] (ap ((zAy rfl ?_):I (IntKind.i64.wrap (IntKind.u32.wrap (↑(BitVec.ofInt IntKind.u32.bits (IntKind.u32.wrap (↑(BitVec.ofInt IntKind.u32.bits (IntKind.u32.wrap (IntKind.u32.wrap (30011*IntKind.u32.wrap (t+1))+IntKind.u32.wrap (263*IntKind.u32.wrap (l.getD 0 0)))) ^^^ BitVec.ofInt IntKind.u32.bits ((IntKind.u32.wrap (IntKind.u32.wrap (30011*IntKind.u32.wrap (t+1))+IntKind.u32.wrap (263*IntKind.u32.wrap (l.getD 0 0)))).fdiv (2 ^ min (Int.toNat 7) IntKind.u32.bits))).toNat:Int)) &&& BitVec.ofInt IntKind.u32.bits 65535).toNat:Int)))=I (IntKind.u32.wrap (↑(BitVec.ofInt IntKind.u32.bits (IntKind.u32.wrap (↑(BitVec.ofInt IntKind.u32.bits (IntKind.u32.wrap (IntKind.u32.wrap (30011*IntKind.u32.wrap (t+1))+IntKind.u32.wrap (263*IntKind.u32.wrap (l.getD 0 0)))) ^^^ BitVec.ofInt IntKind.u32.bits ((IntKind.u32.wrap (IntKind.u32.wrap (30011*IntKind.u32.wrap (t+1))+IntKind.u32.wrap (263*IntKind.u32.wrap (l.getD 0 0)))).fdiv (2 ^ min (Int.toNat 7) IntKind.u32.bits))).toNat:Int)) &&& BitVec.ofInt IntKind.u32.bits 65535).toNat:Int))) an) (zAe 1 (zAc (zAD (E_a [] an (I (IntKind.u32.wrap (↑(BitVec.ofInt IntKind.u32.bits (IntKind.u32.wrap (↑(BitVec.ofInt IntKind.u32.bits (IntKind.u32.wrap (IntKind.u32.wrap (30011*IntKind.u32.wrap (t+1))+IntKind.u32.wrap (263*IntKind.u32.wrap (l.getD 0 0)))) ^^^ BitVec.ofInt IntKind.u32.bits ((IntKind.u32.wrap (IntKind.u32.wrap (30011*IntKind.u32.wrap (t+1))+IntKind.u32.wrap (263*IntKind.u32.wrap (l.getD 0 0)))).fdiv (2 ^ min (Int.toNat 7) IntKind.u32.bits))).toNat:Int)) &&& BitVec.ofInt IntKind.u32.bits 65535).toNat:Int))) ([(PV.agg [PV.sl (List.map u8 l),I (IntKind.i64.wrap (0+1)),PV.int IntKind.u32 (IntKind.u32.wrap (t+1))]).box]) ?_ ?_))))))))))))))))))))))))) (fun k1=>(zAl (zAb (zAa (zAe 2 (zAe 1 (zAe 1 (zAe 1 (S_a [(0,.v (I (IntKind.u32.wrap (↑(BitVec.ofInt IntKind.u32.bits (IntKind.u32.wrap (↑(BitVec.ofInt IntKind.u32.bits (IntKind.u32.wrap (30011*IntKind.u32.wrap (t+1))) ^^^ BitVec.ofInt IntKind.u32.bits ((IntKind.u32.wrap (30011*IntKind.u32.wrap (t+1))).fdiv (2 ^ min (Int.toNat 7) IntKind.u32.bits))).toNat:Int)) &&& BitVec.ofInt IntKind.u32.bits 65535).toNat:Int))))] (ap ((zAy rfl ?_):I (IntKind.i64.wrap (IntKind.u32.wrap (↑(BitVec.ofInt IntKind.u32.bits (IntKind.u32.wrap (↑(BitVec.ofInt IntKind.u32.bits (IntKind.u32.wrap (30011*IntKind.u32.wrap (t+1))) ^^^ BitVec.ofInt IntKind.u32.bits ((IntKind.u32.wrap (30011*IntKind.u32.wrap (t+1))).fdiv (2 ^ min (Int.toNat 7) IntKind.u32.bits))).toNat:Int)) &&& BitVec.ofInt IntKind.u32.bits 65535).toNat:Int)))=I (IntKind.u32.wrap (↑(BitVec.ofInt IntKind.u32.bits (IntKind.u32.wrap (↑(BitVec.ofInt IntKind.u32.bits (IntKind.u32.wrap (30011*IntKind.u32.wrap (t+1))) ^^^ BitVec.ofInt IntKind.u32.bits ((IntKind.u32.wrap (30011*IntKind.u32.wrap (t+1))).fdiv (2 ^ min (Int.toNat 7) IntKind.u32.bits))).toNat:Int)) &&& BitVec.ofInt IntKind.u32.bits 65535).toNat:Int))) an) (zAe 1 (zAc (zAD (E_a [] an (I (IntKind.u32.wrap (↑(BitVec.ofInt IntKind.u32.bits (IntKind.u32.wrap (↑(BitVec.ofInt IntKind.u32.bits (IntKind.u32.wrap (30011*IntKind.u32.wrap (t+1))) ^^^ BitVec.ofInt IntKind.u32.bits ((IntKind.u32.wrap (30011*IntKind.u32.wrap (t+1))).fdiv (2 ^ min (Int.toNat 7) IntKind.u32.bits))).toNat:Int)) &&& BitVec.ofInt IntKind.u32.bits 65535).toNat:Int))) ([(PV.agg [PV.sl (List.map u8 l),I 0,PV.int IntKind.u32 (IntKind.u32.wrap (t+1))]).box]) ?_ ?_)))))))))))))))))))))))))))))))))) (fun k0=>(zAl (zAb (zAa (zAe 4 (zAe 1 (zAe 1 (zAc (zAb (zAb (zAa (zAe 4 (S_a [(0,.n (l.length))] (ap ((by simp):some (List.map u8 l).length=some l.length) an) (zAe 1 (zAc (zA6 ((↑l.length:Int)>0) (by omega) (zAb (zAa (zAe 9 (S_a [(2,.v (PV.int IntKind.u8 (l.getD a 0)))] (ap (zAR (0) (by omega):(List.map u8 l)[a]? = some (PV.int IntKind.u8 (l.getD a 0))) an) (zAe 1 (zAe 1 (zAe 1 (zAe 1 (zAe 1 (zAc (zAa (zAe 4 (S_a [(1,.v (I (↑(a+1):Int)))] (ap ((zAy (by omega) (by omega)):I (IntKind.i64.wrap ((↑a:Int)+1))=I (↑(a+1):Int)) an) (zAe 3 (zAc (zAb (zAa (zAe 2 (zAe 1 (zAe 1 (zAe 1 (S_a [(0,.v (I (IntKind.u32.wrap (↑(BitVec.ofInt IntKind.u32.bits (IntKind.u32.wrap (↑(BitVec.ofInt IntKind.u32.bits (IntKind.u32.wrap (IntKind.u32.wrap (30011*t)+IntKind.u32.wrap (263*IntKind.u32.wrap (l.getD a 0)))) ^^^ BitVec.ofInt IntKind.u32.bits ((IntKind.u32.wrap (IntKind.u32.wrap (30011*t)+IntKind.u32.wrap (263*IntKind.u32.wrap (l.getD a 0)))).fdiv (2 ^ min (Int.toNat 7) IntKind.u32.bits))).toNat:Int)) &&& BitVec.ofInt IntKind.u32.bits 65535).toNat:Int))))] (ap ((zAy rfl ?_):I (IntKind.i64.wrap (IntKind.u32.wrap (↑(BitVec.ofInt IntKind.u32.bits (IntKind.u32.wrap (↑(BitVec.ofInt IntKind.u32.bits (IntKind.u32.wrap (IntKind.u32.wrap (30011*t)+IntKind.u32.wrap (263*IntKind.u32.wrap (l.getD a 0)))) ^^^ BitVec.ofInt IntKind.u32.bits ((IntKind.u32.wrap (IntKind.u32.wrap (30011*t)+IntKind.u32.wrap (263*IntKind.u32.wrap (l.getD a 0)))).fdiv (2 ^ min (Int.toNat 7) IntKind.u32.bits))).toNat:Int)) &&& BitVec.ofInt IntKind.u32.bits 65535).toNat:Int)))=I (IntKind.u32.wrap (↑(BitVec.ofInt IntKind.u32.bits (IntKind.u32.wrap (↑(BitVec.ofInt IntKind.u32.bits (IntKind.u32.wrap (IntKind.u32.wrap (30011*t)+IntKind.u32.wrap (263*IntKind.u32.wrap (l.getD a 0)))) ^^^ BitVec.ofInt IntKind.u32.bits ((IntKind.u32.wrap (IntKind.u32.wrap (30011*t)+IntKind.u32.wrap (263*IntKind.u32.wrap (l.getD a 0)))).fdiv (2 ^ min (Int.toNat 7) IntKind.u32.bits))).toNat:Int)) &&& BitVec.ofInt IntKind.u32.bits 65535).toNat:Int))) an) (zAe 1 (zAc (zAD (E_a [] an (I (IntKind.u32.wrap (↑(BitVec.ofInt IntKind.u32.bits (IntKind.u32.wrap (↑(BitVec.ofInt IntKind.u32.bits (IntKind.u32.wrap (IntKind.u32.wrap (30011*t)+IntKind.u32.wrap (263*IntKind.u32.wrap (l.getD a 0)))) ^^^ BitVec.ofInt IntKind.u32.bits ((IntKind.u32.wrap (IntKind.u32.wrap (30011*t)+IntKind.u32.wrap (263*IntKind.u32.wrap (l.getD a 0)))).fdiv (2 ^ min (Int.toNat 7) IntKind.u32.bits))).toNat:Int)) &&& BitVec.ofInt IntKind.u32.bits 65535).toNat:Int))) ([(PV.agg [PV.sl (List.map u8 l),I (↑(a+1):Int),PV.int IntKind.u32 t]).box]) ?_ ?_)))))))))))))))))))))))))))))))))))))))))))))))))))))
 ·exact hb _
 ·have e1:a=l.length:=by omega
  have e2:0<l.length:=by omega
  simp only [zHv,zGe,zAK,e1,e2,if_true];rfl
 ·have e1:a=l.length:=by omega
  have e2:0<l.length:=by omega
  simp only [zAn,zGe,zAK,e1,e2,if_true];rfl
 ·exact hb _
 ·have e1:a=l.length:=by omega
  have e2:¬ 0<l.length:=by omega
  simp only [zHv,zGe,zAK,e1,e2,if_true,if_false];rfl
 ·have e1:a=l.length:=by omega
  have e2:¬ 0<l.length:=by omega
  simp only [zAn,zGe,zAK,e1,e2,if_true,if_false];rfl
 ·exact hb _
 ·have e1:¬ a=l.length:=by omega
  have e2:0<l.length:=by omega
  simp only [zHv,zGe,zAK,e1,e2,if_true,if_false];rfl
 ·have e1:¬ a=l.length:=by omega
  have e2:0<l.length:=by omega
  simp only [zAn,zGe,zAK,e1,e2,if_true,if_false]
theorem f24 (l:List Int) (a:Nat) (t:Int) (n:Int) (h:zEn l a) (hn : -9000000000000000000≤n∧n≤9000000000000000000):zBy Try.prog zAw 24 [zO2,I n] [zCe l a t] (I (zAG l a t n)) [zCe l (zAn l a) (zAK l a t)]:=by
 refine zAi Try.f24 ?_
 have e:(if n+1>1 then n+1 else 1)=max 1 (n+1):=by split<;>omega
 refine zAb (zAa (zAe 1 (zAc (zAb (zAa (zAe 1 (S_a [(4,.ret (I (zHv l a t)) ([zCe l (zAn l a) (zAK l a t)]))] (ap (f86 (l) (a) (t) (by omega)) an) (zAe 1 (S_a [(1,.v (I (n+1)))] (ap ((zAy rfl (by omega)):I (IntKind.i64.wrap (n+1))=I (n+1)) an) (zAe 1 (S_a [(0,.v (I ((zHv l a t).tmod (if n+1>1 then n+1 else 1))))] (ap (zTh (by omega) rfl:zNV Try.prog BinOp.rem 3 (I (zHv l a t)) (I (if n+1>1 then n+1 else 1))=some (I ((zHv l a t).tmod (if n+1>1 then n+1 else 1)))) an) (zAe 1 (zAc (zAD (E_a [] an (I ((zHv l a t).tmod (if n+1>1 then n+1 else 1))) ([(PV.agg [PV.sl (List.map u8 l),I (↑(zAn l a):Int),PV.int IntKind.u32 (zAK l a t)]).box]) ?_ rfl)))))))))))))))
 rw [e];rfl
theorem f27 (l:List Int) (a:Nat) (t:Int) (lo hi:Int) (h:zEn l a) (hl:0≤lo∧lo≤1000000) (hn:0≤hi∧hi≤1000000):zBy Try.prog zAw 27 [zO2,I lo,I hi] [zCe l a t] (I (lo+zAG l a t (hi-lo))) [zCe l (zAn l a) (zAK l a t)]:=by
 refine zAi Try.f27 ?_
 have:=zBT l a t (hi-lo)
 refine zAb (zAa (zAe 1 (zAc (zAb (zAa (zAe 4 (S_a [(1,.v (I (hi-lo)))] (ap ((zAy rfl (by omega)):I (IntKind.i64.wrap (hi-lo))=I (hi-lo)) an) (S_a [(6,.ret (I (zAG l a t (hi-lo))) ([zCe l (zAn l a) (zAK l a t)]))] (ap (f24 (l) (a) (t) (hi-lo) (by omega) (by omega)) an) (S_a [(1,.v (I (lo+zAG l a t (hi-lo))))] (ap ((zAy rfl (by omega)):I (IntKind.i64.wrap (lo+zAG l a t (hi-lo)))=I (lo+zAG l a t (hi-lo))) an) (zAe 1 (zAc (zAD (E_a [] an (I (lo+zAG l a t (hi-lo))) ([(PV.agg [PV.sl (List.map u8 l),I (↑(zAn l a):Int),PV.int IntKind.u32 (zAK l a t)]).box]) rfl rfl)))))))))))))
theorem f28 (l:List Int) (a:Nat) (t:Int) (n:Int) (h:zEn l a) (hn:0≤n∧n≤1000000):zBy Try.prog zAw 28 [zO2,I n] [zCe l a t] (.bool (decide (zAG l a t (n-1)=0))) [zCe l (zAn l a) (zAK l a t)]:=by
 refine zAi Try.f28 ?_
 refine zAb (zAa (zAe 1 (zAc (zAb (zAa (zAe 2 (S_a [(1,.v (I (n-1)))] (ap ((zAy rfl (by omega)):I (IntKind.i64.wrap (n-1))=I (n-1)) an) (S_a [(6,.ret (I (zAG l a t (n-1))) ([zCe l (zAn l a) (zAK l a t)]))] (ap (f24 (l) (a) (t) (n-1) (by omega) (by omega)) an) (zAe 2 (zAc (zAD (E_a [] an (PV.bool (zAG l a t (n-1)==0)) ([(PV.agg [PV.sl (List.map u8 l),I (↑(zAn l a):Int),PV.int IntKind.u32 (zAK l a t)]).box]) rfl rfl))))))))))))
end
end Go.Eng
set_option maxRecDepth 10000
set_option maxHeartbeats 4000000
namespace Go.Eng
open Go Go.Proofs
theorem zRT {b:Dk} (h:Good b):zBD b=0:=by
 have h1:(!(decide (1≤b.cr)&&decide (b.cr≤4)))=false:=by have:=h.cr;simp;omega
 have h2:¬ (b.rs.length:Int)>7:=by have:=h.len;omega
 have h3:(!(decide (0≤b.wd)&&decide (b.wd≤20)))=false:=by have:=h.wd;simp;omega
 have h4:(!(decide (0≤b.st)&&decide (b.st≤20)))=false:=by have:=h.st;simp;omega
 have h5:(!(decide (0≤b.fn)&&decide (b.fn≤20)))=false:=by have:=h.fn;simp;omega
 have h6:(!b.rs.all zCp)=false:=by
  simp only [Bool.not_eq_false',List.all_eq_true]
  intro r hr
  have:=h.num r hr
  simp [zCp];omega
 have h7:∀ rs:List Rnd,(∀ r∈rs,r∈b.rs)→zDi b.cr rs=0:=by
  intro rs
  induction rs with
  | nil=>intro _;rfl
  | cons r rs ih =>
   intro hm
   have h8:=h.may r (hm r (by simp))
   have h9:(!r.may.all (fun x=>decide (0≤x)&&decide (x≤b.cr-1)))=false:=by
    simp only [Bool.not_eq_false',List.all_eq_true]
    intro x hx;have:=h8.2.1 x hx;simp;omega
   have e:zDk b.cr r=0:=by simp only [zDk,h8.1,h9,h8.2.2,if_false];rfl
   simp only [zDi,e,if_true]
   exact ih fun q hq=>hm q (by simp [hq])
 simp only [zBD,h1,h2,h3,h4,h5,h6,if_false]
 exact h7 _ fun _ h=>h
theorem zSz {l:List Int} {x:Int} (h:zMJ l=true) (hx:∀ y∈l,y<x):zMJ (l++[x])=true:=by
 refine zTf fun j hj=>?_
 simp only [List.length_append,List.length_singleton] at hj
 rcases Nat.lt_or_ge (j+1) l.length with h1 | h1
 ·have:=zN0 h h1
  simpa [List.getD_eq_getElem?_getD,List.getElem?_append_left h1,List.getElem?_append_left (show j<l.length by omega)] using this
 ·have e:l.length=j+1:=by omega
  have h2:l.getD j 0<x:=hx _ (by rw [zAC (by omega)];exact List.getElem_mem _)
  have e2:(l++[x]).getD (j+1) 0=x:=by rw [← e];simp
  have e3:(l++[x]).getD j 0=l.getD j 0:=by simp [List.getD_eq_getElem?_getD,List.getElem?_append_left (show j<l.length by omega)]
  rw [e2,e3];exact h2
theorem zKL {l:List Int} {n:Int} (h:zMJ l=true) (hx:∀ x∈l,0≤x∧x≤n-1) (hn:1≤n∧n≤4):l.length≤4:=by
 have:∀ j,j<l.length→(j:Int)≤l.getD j 0:=by
  intro j
  induction j with
  | zero=>intro hj;exact (zBI hx 0 hj).1
  | succ j ih =>
   intro hj
   have h1:=ih (by omega)
   have h2:=zN0 h hj
   omega
 rcases Nat.lt_or_ge 4 l.length with h4 | h4
 ·have h1:=this 4 h4
  have h2:=zBI hx 4 h4
  omega
 ·exact h4
abbrev zWh (b:Dk):PV := .agg [I b.cr,I b.wd,I b.st,I b.fn,.own 3 (b.rs.map zJW)]
structure RndOk (cr:Int) (r:Rnd):Prop where
 w:1≤r.w∧r.w≤9
 s:1≤r.s∧r.s≤5
 n:r.may.length≠0
 may:∀ x∈r.may,0≤x∧x≤cr-1
 inc:zMJ r.may=true
section
variable [Yo]
theorem f21_ex (l:List Int) (a:Nat) (t n:Int) (h:zEn l a) (hn:0≤n∧n≤7):∃ v h',zBy Try.prog zAw 21 [zO2,I n] [zCe l a t] v h'∧∃ b a' t',v=zWh b∧h'=[zCe l a' t']∧Good b∧(b.rs.length:Int)≤n∧zEn l a':=by
 refine zLJ Try.f21 _ ?_
 have g1:=zCB h
 have g2:=zCB g1
 have g3:=zCB g2
 have g4:=zCB g3
 have g5:=zCB g4
 have s1:=zBT l a t (4-1)
 have s2:=zBT l (zAn l a) (zAK l a t) 4
 have s3:=zBT l (zAn l (zAn l a)) (zAK l (zAn l a) (zAK l a t)) 6
 have s4:=zBT l (zAn l (zAn l (zAn l a))) (zAK l (zAn l (zAn l a)) (zAK l (zAn l a) (zAK l a t))) 3
 have s5:=zBT l (zAn l (zAn l (zAn l (zAn l a)))) (zAK l (zAn l (zAn l (zAn l a))) (zAK l (zAn l (zAn l a)) (zAK l (zAn l a) (zAK l a t)))) n
 refine zAb (zAa (zAe 1 (zAc (zAb (zAa (zAe 1 (S_a [(8,.ret (I (1+zAG l a t (4-1))) ([zCe l (zAn l a) (zAK l a t)]))] (ap (f27 (l) (a) (t) (1) (4) (by omega) (by omega) (by omega)) an) (zAe 1 (S_a [(6,.ret (I (zAG l (zAn l a) (zAK l a t) 4)) ([zCe l (zAn l (zAn l a)) (zAK l (zAn l a) (zAK l a t))]))] (ap (f24 (l) (zAn l a) (zAK l a t) (4) (by omega) (by omega)) an) (zAe 1 (S_a [(6,.ret (I (zAG l (zAn l (zAn l a)) (zAK l (zAn l a) (zAK l a t)) 6)) ([zCe l (zAn l (zAn l (zAn l a))) (zAK l (zAn l (zAn l a)) (zAK l (zAn l a) (zAK l a t)))]))] (ap (f24 (l) (zAn l (zAn l a)) (zAK l (zAn l a) (zAK l a t)) (6) (by omega) (by omega)) an) (zAe 1 (S_a [(6,.ret (I (zAG l (zAn l (zAn l (zAn l a))) (zAK l (zAn l (zAn l a)) (zAK l (zAn l a) (zAK l a t))) 3)) ([zCe l (zAn l (zAn l (zAn l (zAn l a)))) (zAK l (zAn l (zAn l (zAn l a))) (zAK l (zAn l (zAn l a)) (zAK l (zAn l a) (zAK l a t))))]))] (ap (f24 (l) (zAn l (zAn l (zAn l a))) (zAK l (zAn l (zAn l a)) (zAK l (zAn l a) (zAK l a t))) (3) (by omega) (by omega)) an) (zAe 3 (zAc (zAb (zAb (zAa (zAe 2 (S_a [(6,.ret (I (zAG l (zAn l (zAn l (zAn l (zAn l a)))) (zAK l (zAn l (zAn l (zAn l a))) (zAK l (zAn l (zAn l a)) (zAK l (zAn l a) (zAK l a t)))) n)) ([zCe l (zAn l (zAn l (zAn l (zAn l (zAn l a))))) (zAK l (zAn l (zAn l (zAn l (zAn l a)))) (zAK l (zAn l (zAn l (zAn l a))) (zAK l (zAn l (zAn l a)) (zAK l (zAn l a) (zAK l a t)))))]))] (ap (f24 (l) (zAn l (zAn l (zAn l (zAn l a)))) (zAK l (zAn l (zAn l (zAn l a))) (zAK l (zAn l (zAn l a)) (zAK l (zAn l a) (zAK l a t)))) (n) (by omega) (by omega)) an) (zAe 1 (zAc (zAj 0 ?_)))))))))))))))))))))))
 generalize zAK l (zAn l (zAn l (zAn l (zAn l a)))) (zAK l (zAn l (zAn l (zAn l a))) (zAK l (zAn l (zAn l a)) (zAK l (zAn l a) (zAK l a t))))=T at *
 generalize zAG l (zAn l (zAn l (zAn l (zAn l a)))) (zAK l (zAn l (zAn l (zAn l a))) (zAK l (zAn l (zAn l a)) (zAK l (zAn l a) (zAK l a t)))) n=m at *
 generalize zAG l (zAn l (zAn l (zAn l a))) (zAK l (zAn l (zAn l a)) (zAK l (zAn l a) (zAK l a t))) 3=fn at *
 generalize zAG l (zAn l (zAn l a)) (zAK l (zAn l a) (zAK l a t)) 6=st at *
 generalize zAG l (zAn l a) (zAK l a t) 4=wd at *
 generalize vM:1+zAG l a t (4-1)=cr at *
 generalize zAn l (zAn l (zAn l (zAn l (zAn l a))))=A at *
 refine zAX (fun (i,q,a,t)=>(i:Int)≤m∧q.length=i∧(∀ r∈q,RndOk cr r)∧zEn l a) (fun (i,q,a,t)=>[(5,.box (.agg [I cr,I wd,I st,I fn,.own 3 (q.map zJW)])),(21,I (i:Nat)),(50000000,zCe l a t)]) (fun (i,_,_,_)=>m.toNat-i) ((0:Nat),([]:List Rnd),A,T) ⟨by omega,rfl,by simp,g5⟩ fun (i,q,a,t) ⟨hi,hq,hr,ha⟩=>?_
 have g1:=zCB ha
 have g2:=zCB g1
 have g3:=zCB g2
 have u1:=zBT l a t (9-1)
 have u2:=zBT l (zAn l a) (zAK l a t) (5-1)
 have u3:=zBT l (zAn l (zAn l a)) (zAK l (zAn l a) (zAK l a t)) (cr-1)
 refine zAb (zAa (zAe 1 (zAc (zAb (zCM ((↑i:Int)<m) (fun k0=>(zAl (zAb (zAj 1 (zAb (zAa (zAe 1 (S_a [(8,.ret (I (1+zAG l a t (9-1))) ([zCe l (zAn l a) (zAK l a t)]))] (ap (f27 (l) (a) (t) (1) (9) (by omega) (by omega) (by omega)) an) (zAe 1 (S_a [(8,.ret (I (1+zAG l (zAn l a) (zAK l a t) (5-1))) ([zCe l (zAn l (zAn l a)) (zAK l (zAn l a) (zAK l a t))]))] (ap (f27 (l) (zAn l a) (zAK l a t) (1) (5) (by omega) (by omega) (by omega)) an) (zAe 3 (zAc (zAb (zAa (zAe 3 (S_a [(1,.v (I (cr-1)))] (ap ((zAy rfl (by omega)):I (IntKind.i64.wrap (cr-1))=I (cr-1)) an) (S_a [(6,.ret (I (zAG l (zAn l (zAn l a)) (zAK l (zAn l a) (zAK l a t)) (cr-1))) ([zCe l (zAn l (zAn l (zAn l a))) (zAK l (zAn l (zAn l a)) (zAK l (zAn l a) (zAK l a t)))]))] (ap (f24 (l) (zAn l (zAn l a)) (zAK l (zAn l a) (zAK l a t)) (cr-1) (by omega) (by omega)) an) (zAe 1 (zAc (zAb (zAb (zAa (zAe 3 (zAc (zAj 2 ?_))))))))))))))))))))))))) (fun k0=>(zA9 0 (zAb (zAa (zAe 1 (S_a [(4,.yes)] (ap ((by exact zBH (by simp<;>omega)):(Nat.beq 0 0&&(List.map zJW q).length.beq (List.map zJW q).length)=true) an) (zAc (zAD (E_q [(7,.yes),(1,.v (PV.own 3 (List.map zJW q)))] (ap ((by exact zAs (by simp only [List.length_map,zzLn,zAv]<;>omega)):(0+(List.map zJW q).length).ble (List.map zJW q).length=true) (ap ((zFy zDE):PV.own 3 (List.take (List.map zJW q).length (List.drop 0 (List.map zJW q)))=PV.own 3 (List.map zJW q)) an)) (PV.agg [I cr,I wd,I st,I fn,PV.own 3 (List.map zJW q)]) ([(PV.agg [PV.sl (List.map u8 l),I (↑a:Int),PV.int IntKind.u32 t]).box]) ?_))))))))))))))
 ·generalize zAK l (zAn l (zAn l a)) (zAK l (zAn l a) (zAK l a t))=T2 at *
  generalize zAG l (zAn l (zAn l a)) (zAK l (zAn l a) (zAK l a t)) (cr-1)=su at *
  generalize vK:1+zAG l (zAn l a) (zAK l a t) (5-1)=w2 at *
  generalize hw1:1+zAG l a t (9-1)=w1 at *
  generalize zAn l (zAn l (zAn l a))=A2 at *
  have hcr1:1≤cr∧cr≤4:=by omega
  refine zAX (fun (c,p,a,t)=>(c:Int)≤cr∧(∀ x∈p,0≤x∧x<c)∧zMJ p=true∧(su<c→p.length≠0)∧p.length≤c∧zEn l a) (fun (c,p,a,t)=>[(6,.box (.agg [I w1,I w2,.own 1 (p.map I)])),(35,I (c:Nat)),(50000000,zCe l a t)]) (fun (c,_,_,_)=>cr.toNat-c) ((0:Nat),([]:List Int),A2,T2) ⟨by omega,by simp,rfl,by omega,Nat.le_refl _,g3⟩ fun (c,p,a,t) ⟨hc,kz,uq,hp3,hp4,ha⟩=>?_
  have g1:=zCB ha
  have g2:=zCB g1
  have gB:∀ x∈p++[(c:Int)],0≤x∧x<(c+1:Nat):=fun x hx=>by
   rcases List.mem_append.1 hx with hx | hx
   ·have:=kz x hx;omega
   ·rw [List.mem_singleton] at hx;omega
  have hai:zMJ (p++[(c:Int)])=true:=zSz uq fun y hy=>(kz y hy).2
  have uA:(p++[(c:Int)]).length=p.length+1:=by simp
  refine zAb (zAa (zAe 1 (zAc (zAb (zCM ((↑c:Int)<cr) (fun k1=>(zAl (zAb (zAj 3 (zAb (zAa (zAe 2 (zAc (zAb (zAa (zAe 4 (zI2 41 ((↑c:Int)=su) (fun k2=>(zAe 4 (zAc (zCb (zAa (zAe 1 (S_a [(1,.v (PV.bor 6 [(0,2)] 1 0 p.length))] (ap ((by simp):PV.bor 6 [(0,2)] 1 0 (List.map I p).length=PV.bor 6 [(0,2)] 1 0 p.length) an) (zAe 2 (S_a [(4,.ob),(0,.ob),(0,.yes),(2,.v (PV.own 1 (List.map I (p++[(↑c:Int)]))))] (ap ((by exact zAs (by simp only [List.length_map,zzLn,zAv]<;>omega)):(0+p.length).ble (List.map I p).length=true) (ap ((by exact zAs (by simp only [List.length_map,zzLn,zAv]<;>omega)):((List.map I p).length + [I (↑c:Int)].length).ble zAv=true) (ap ((by exact zBH (by simp<;>omega)):(0+p.length).beq (List.map I p).length=true) (ap ((by simp):PV.own 1 (List.map I p++[I (↑c:Int)])=PV.own 1 (List.map I (p++[(↑c:Int)]))) an)))) (zAe 2 (zAc (zAa (S_a [(1,.v (I (↑(c+1):Int)))] (ap ((zAy (by omega) (by omega)):I (IntKind.i64.wrap ((↑c:Int)+1))=I (↑(c+1):Int)) an) (zAe 1 (zAc ?_))))))))))))))) (fun k2=>(zAe 1 (S_a [(6,.ret (PV.bool (decide (zAG l a t (3-1)=0))) ([zCe l (zAn l a) (zAK l a t)]))] (ap (f28 (l) (a) (t) (3) (by omega) (by omega)) an) (zAe 2 (zAc (zFd (zAG l a t (3-1)=0) (fun k3=>(zAa (zAe 1 (S_a [(1,.v (PV.bor 6 [(0,2)] 1 0 p.length))] (ap ((by simp):PV.bor 6 [(0,2)] 1 0 (List.map I p).length=PV.bor 6 [(0,2)] 1 0 p.length) an) (zAe 2 (S_a [(4,.ob),(0,.ob),(0,.yes),(2,.v (PV.own 1 (List.map I (p++[(↑c:Int)]))))] (ap ((by exact zAs (by simp only [List.length_map,zzLn,zAv]<;>omega)):(0+p.length).ble (List.map I p).length=true) (ap ((by exact zAs (by simp only [List.length_map,zzLn,zAv]<;>omega)):((List.map I p).length + [I (↑c:Int)].length).ble zAv=true) (ap ((by exact zBH (by simp<;>omega)):(0+p.length).beq (List.map I p).length=true) (ap ((by simp):PV.own 1 (List.map I p++[I (↑c:Int)])=PV.own 1 (List.map I (p++[(↑c:Int)]))) an)))) (zAe 2 (zAc (zAa (S_a [(1,.v (I (↑(c+1):Int)))] (ap ((zAy (by omega) (by omega)):I (IntKind.i64.wrap ((↑c:Int)+1))=I (↑(c+1):Int)) an) (zAe 1 (zAc ?_)))))))))))) (fun k3=>(zAl (zAa (S_a [(1,.v (I (↑(c+1):Int)))] (ap ((zAy (by omega) (by omega)):I (IntKind.i64.wrap ((↑c:Int)+1))=I (↑(c+1):Int)) an) (zAe 1 (zAc ?_)))))))))))))))))))))))) (fun k1=>(zA9 2 (zAa (zAe 1 (S_a [(1,.v (PV.bor 5 [(0,4)] 3 0 q.length))] (ap ((by simp):PV.bor 5 [(0,4)] 3 0 (List.map zJW q).length=PV.bor 5 [(0,4)] 3 0 q.length) an) (zAe 1 (S_a [(2,.yes)] (ap ((by exact zBH (by simp<;>omega)):(Nat.beq 0 0&&(List.map I p).length.beq (List.map I p).length)=true) an) (S_a [(4,.ob),(0,.ob),(0,.yes),(2,.v (PV.own 3 (List.map zJW (q++[{w:=w1,s:=w2,may:=p}]))))] (ap ((by exact zAs (by simp only [List.length_map,zzLn,zAv]<;>omega)):(0+q.length).ble (List.map zJW q).length=true) (ap ((by exact zAs (by simp only [List.length_map,zzLn,zAv]<;>omega)):((List.map zJW q).length + [PV.agg [I w1,I w2,PV.own 1 (List.map I p)]].length).ble zAv=true) (ap ((by exact zBH (by simp<;>omega)):(0+q.length).beq (List.map zJW q).length=true) (ap ((by simp):PV.own 3 (List.map zJW q++[PV.agg [I w1,I w2,PV.own 1 (List.map I p)]])=PV.own 3 (List.map zJW (q++[{w:=w1,s:=w2,may:=p}]))) an)))) (zAe 2 (zAc (zAa (S_a [(1,.v (I (↑(i+1):Int)))] (ap ((zAy (by omega) (by omega)):I (IntKind.i64.wrap ((↑i:Int)+1))=I (↑(i+1):Int)) an) (zAe 1 (zAc ?_)))))))))))))))))))
  ·exact ⟨(c+1,p++[(c:Int)],a,t),⟨by omega,gB,hai,by omega,by omega,ha⟩,by simp only;omega,by kernel_rfl,by kernel_rfl⟩
  ·exact ⟨(c+1,p++[(c:Int)],zAn l a,zAK l a t),⟨by omega,gB,hai,by omega,by omega,g1⟩,by simp only;omega,by kernel_rfl,by kernel_rfl⟩
  ·exact ⟨(c+1,p,zAn l a,zAK l a t),⟨by omega,fun x hx=>by have:=kz x hx;omega,uq,fun h=>hp3 (by omega),by omega,g1⟩,by simp only;omega,by kernel_rfl,by kernel_rfl⟩
  ·refine ⟨(i+1,q++[⟨w1,w2,p⟩],a,t),⟨by omega,by simp [hq],fun r yr=>?_,ha⟩,by simp only;omega,by kernel_rfl,by kernel_rfl⟩
   rcases List.mem_append.1 yr with yr | yr
   ·exact hr r yr
   ·rw [List.mem_singleton] at yr;subst yr
    exact ⟨by simp only;omega,by simp only;omega,hp3 (by omega),fun x hx=>by have:=kz x hx;omega,uq⟩
 ·refine ⟨⟨cr,wd,st,fn,q⟩,a,t,rfl,rfl,⟨by simp only;omega,by simp only;omega,by simp only;omega,by simp only;omega,by simp only;omega,fun r h=>⟨(hr r h).w,(hr r h).s⟩,fun r h=>⟨(hr r h).n,(hr r h).may,(hr r h).inc⟩⟩,by simp only;omega,ha⟩
theorem f57 (b:Dk) (r:Nat) (hr:r<b.rs.length) (hg:Good b):FG 57 [zHZ b,I r] (I (zFf b (rnd b r))):=by
 refine zAi Try.f57 ?_
 have h1:=hg.wd
 have h2:=hg.st
 have h3:=zKB hg hr
 have h4:0≤(b.rs.getD r default).w*b.wd∧(b.rs.getD r default).w*b.wd≤9*20:=⟨Int.mul_nonneg (by omega) (by omega),Int.mul_le_mul (by omega) (by omega) (by omega) (by omega)⟩
 have h5:0≤(b.rs.getD r default).s*(b.st+(b.rs.getD r default).w*b.wd)∧(b.rs.getD r default).s*(b.st+(b.rs.getD r default).w*b.wd)≤1000:=zIf hg h3
 refine zAb (zAa (zAe 2 (zAc (zAb (zAa (zAe 3 (S_a [(2,.v (PV.agg [I (b.rs.getD r default).w,I (b.rs.getD r default).s,PV.sl (List.map I (b.rs.getD r default).may)]))] (ap (zAR (default) (by omega):(List.map zDM b.rs)[r]? = some (PV.agg [I (b.rs.getD r default).w,I (b.rs.getD r default).s,PV.sl (List.map I (b.rs.getD r default).may)])) an) (zAe 3 (zAc (zAb (zAa (zAe 8 (S_a [(1,.v (I ((b.rs.getD r default).w*b.wd)))] (ap ((zAy rfl (by omega)):I (IntKind.i64.wrap ((b.rs.getD r default).w*b.wd))=I ((b.rs.getD r default).w*b.wd)) an) (S_a [(1,.v (I (b.st+(b.rs.getD r default).w*b.wd)))] (ap ((zAy rfl (by omega)):I (IntKind.i64.wrap (b.st+(b.rs.getD r default).w*b.wd))=I (b.st+(b.rs.getD r default).w*b.wd)) an) (S_a [(1,.v (I ((b.rs.getD r default).s*(b.st+(b.rs.getD r default).w*b.wd))))] (ap ((zAy rfl (by omega)):I (IntKind.i64.wrap ((b.rs.getD r default).s*(b.st+(b.rs.getD r default).w*b.wd)))=I ((b.rs.getD r default).s*(b.st+(b.rs.getD r default).w*b.wd))) an) (zAe 1 (zAc (zAD (E_a [] an (I ((b.rs.getD r default).s*(b.st+(b.rs.getD r default).w*b.wd))) ([]) rfl rfl)))))))))))))))))))
theorem f23_ex (l:List Int) (a:Nat) (t:Int) (b:Dk) (h:zEn l a) (hg:Good b):∃ v h',zBy Try.prog zAw 23 [zO2,zHZ b] [zCe l a t] v h'∧∃ s a' t',v = .own 1 (s.map I)∧h'=[zCe l a' t']∧ShareOk b s∧zEn l a':=by
 refine zLJ Try.f23 _ ?_
 have hO:=hg.len
 have vM:=hg.cr
 refine zAb (zAa (zAe 2 (zAc (zAb (zAa (zAe 1 (zAc (zAb (zAb (zAa (zAe 2 (S_a [(0,.n (b.rs.length))] (ap ((by simp):some (List.map zDM b.rs).length=some b.rs.length) an) (zAe 1 (zAc (zAj 0 ?_)))))))))))))))
 refine zAX (fun (i,s,a,t)=>i≤b.rs.length∧zEn l a∧s.length=i∧(∀ r,r<i→has (rnd b r).may (s.getD r 0)=true∧0≤s.getD r 0∧s.getD r 0≤b.cr-1)) (fun (i,s,a,t)=>[(5,.own 1 (s.map I)),(11,I (i:Nat)),(50000000,zCe l a t)]) (fun (i,_,_,_)=>b.rs.length-i) ((0:Nat),([]:List Int),a,t) ⟨Nat.zero_le _,h,rfl,fun r hr=>absurd hr (Nat.not_lt_zero _)⟩ fun (i,s,a,t) ⟨hi,ha,hs,hm⟩=>?_
 have hma:i<b.rs.length→(b.rs.getD i default).may.length≠0∧(b.rs.getD i default).may.length≤4:=fun h=>⟨(zF3 hg h).1,zKL (zF3 hg h).2.2 (zF3 hg h).2.1 vM⟩
 have yQ:=zBT l a t ((((b.rs.getD i default).may.length-1:Nat):Int))
 have g1:=zCB ha
 refine zAb (zAa (zAe 1 (zAc (zAb (zCM ((↑i:Int)<(↑b.rs.length:Int)) (fun k0=>(zAl (zAb (zAj 1 (zAb (zAa (S_a [(2,.v (PV.agg [I (b.rs.getD i default).w,I (b.rs.getD i default).s,PV.sl (List.map I (b.rs.getD i default).may)]))] (ap (zAR (default) (by omega):(List.map zDM b.rs)[i]? = some (PV.agg [I (b.rs.getD i default).w,I (b.rs.getD i default).s,PV.sl (List.map I (b.rs.getD i default).may)])) an) (zAe 3 (zAc (zAa (zAe 6 (S_a [(0,.n ((b.rs.getD i default).may.length))] (ap ((by simp):some (List.map I (b.rs.getD i default).may).length=some (b.rs.getD i default).may.length) an) (S_a [(1,.v (I (↑((b.rs.getD i default).may.length-1):Int)))] (ap ((zAy (by omega) (by omega)):I (IntKind.i64.wrap ((↑(b.rs.getD i default).may.length:Int)-1))=I (↑((b.rs.getD i default).may.length-1):Int)) an) (S_a [(6,.ret (I (zAG l a t (↑((b.rs.getD i default).may.length-1):Int))) ([zCe l (zAn l a) (zAK l a t)]))] (ap (f24 (l) (a) (t) ((↑((b.rs.getD i default).may.length-1):Int)) (by omega) (by omega)) an) (S_a [(0,.ob),(1,.v (I ((b.rs.getD i default).may.getD (zAG l a t (↑((b.rs.getD i default).may.length-1):Int)).toNat 0)))] (ap ((by exact zAp (by omega)):decide (0≤zAG l a t (↑((b.rs.getD i default).may.length-1):Int))=true) (ap (zAR (0) (by omega):(List.map I (b.rs.getD i default).may)[(zAG l a t (↑((b.rs.getD i default).may.length-1):Int)).toNat]? = some (I ((b.rs.getD i default).may.getD (zAG l a t (↑((b.rs.getD i default).may.length-1):Int)).toNat 0))) an)) (zAe 2 (S_a [(4,.ob),(0,.ob),(0,.yes),(2,.v (PV.own 1 (List.map I (s++[(b.rs.getD i default).may.getD (zAG l a t (↑((b.rs.getD i default).may.length-1):Int)).toNat 0]))))] (ap ((by exact zAs (by simp only [List.length_map,zzLn,zAv]<;>omega)):(0+(List.map I s).length).ble (List.map I s).length=true) (ap ((by exact zAs (by simp only [List.length_map,zzLn,zAv]<;>omega)):((List.map I s).length + [I ((b.rs.getD i default).may.getD (zAG l a t (↑((b.rs.getD i default).may.length-1):Int)).toNat 0)].length).ble zAv=true) (ap ((by exact zBH (by simp<;>omega)):(0+(List.map I s).length).beq (List.map I s).length=true) (ap ((by simp):PV.own 1 (List.map I s++[I ((b.rs.getD i default).may.getD (zAG l a t (↑((b.rs.getD i default).may.length-1):Int)).toNat 0)])=PV.own 1 (List.map I (s++[(b.rs.getD i default).may.getD (zAG l a t (↑((b.rs.getD i default).may.length-1):Int)).toNat 0]))) an)))) (zAe 1 (zAc (zAa (S_a [(1,.v (I (↑(i+1):Int)))] (ap ((zAy (by omega) (by omega)):I (IntKind.i64.wrap ((↑i:Int)+1))=I (↑(i+1):Int)) an) (zAe 1 (zAc ?_))))))))))))))))))))))) (fun k0=>(zA9 0 (zAb (zAa (zAe 1 (S_a [(2,.yes)] (ap ((by exact zBH (by simp<;>omega)):(Nat.beq 0 0&&(List.map I s).length.beq (List.map I s).length)=true) an) (zAc (zAD (E_q [(1,.yes),(1,.v (PV.own 1 (List.map I s)))] (ap ((by exact zAs (by simp only [List.length_map,zzLn,zAv]<;>omega)):(0+(List.map I s).length).ble (List.map I s).length=true) (ap ((zFy zDE):PV.own 1 (List.take (List.map I s).length (List.drop 0 (List.map I s)))=PV.own 1 (List.map I s)) an)) (PV.own 1 (List.map I s)) ([(PV.agg [PV.sl (List.map u8 l),I (↑a:Int),PV.int IntKind.u32 t]).box]) ?_))))))))))))))
 ·refine ⟨(i+1,s++[(b.rs.getD i default).may.getD (zAG l a t (((b.rs.getD i default).may.length-1:Nat):Int)).toNat 0],zAn l a,zAK l a t),⟨by omega,g1,by simp [hs],fun r hr=>?_⟩,by simp only;omega,by kernel_rfl,by kernel_rfl⟩
  rcases Nat.lt_succ_iff_lt_or_eq.1 hr with hr | rfl
  ·have:(s++[(b.rs.getD i default).may.getD (zAG l a t (((b.rs.getD i default).may.length-1:Nat):Int)).toNat 0]).getD r 0=s.getD r 0:=by
    simp [List.getD_eq_getElem?_getD,List.getElem?_append_left (show r<s.length by omega)]
   rw [this];exact hm r hr
  ·have yI:(zAG l a t (((b.rs.getD r default).may.length-1:Nat):Int)).toNat<(b.rs.getD r default).may.length:=by omega
   have:(s++[(b.rs.getD r default).may.getD (zAG l a t (((b.rs.getD r default).may.length-1:Nat):Int)).toNat 0]).getD r 0=(b.rs.getD r default).may.getD (zAG l a t (((b.rs.getD r default).may.length-1:Nat):Int)).toNat 0:=by
    simp [List.getD_eq_getElem?_getD,← hs]
   rw [this]
   exact ⟨zV0 yI rfl,zBI (zF3 hg (by omega)).2.1 _ yI⟩
 ·have yU:i=b.rs.length:=by omega
  refine ⟨s,a,t,rfl,rfl,⟨zRT hg,by omega,fun x hx=>?_,zOr fun r hr=>(hm r (by omega)).1⟩,ha⟩
  obtain ⟨j,hj,rfl⟩:=List.getElem_of_mem hx
  have:=(hm j (by omega)).2
  rwa [zAC hj] at this
omit [Yo] in
theorem zQT {l:List Int} {i n:Nat} {v:Int}:(l.take n).set i v=(l.set i v).take n:=by rw [List.take_set]
omit [Yo] in
theorem zLy {l:List Int} {i n:Nat} (h:i<n):(l.take n).getD i 0=l.getD i 0:=by
 simp only [List.getD_eq_getElem?_getD,List.getElem?_take,h,if_true]
theorem f25_1 (b:Dk) (s:List Int) (h:ShareOk b s):FG 25 [zHZ b,zB2 s] (.own 1 ((zAW b s).map I)):=by
 have hg:=zEe h.box
 have vM:=hg.cr
 have hO:=hg.len
 have j0:=h.len
 have hs:zBk b s=0:=by
  have h2:(!s.all (fun x=>decide (0≤x)&&decide (x≤b.cr-1)))=false:=by
   simp only [Bool.not_eq_false',List.all_eq_true]
   intro x hx;have:=h.rng x hx;simp;omega
  simp only [zBk,h.box,h.len,h2,h.may,if_true];rfl
 have hf:zAW b s=(zFG (zBu b) s s.length).take b.cr.toNat:=by simp only [zAW,hs,if_true]
 rw [hf]
 have h0:List.replicate b.cr.toNat 0=(zFG (zBu b) s 0).take b.cr.toNat:=by
  obtain hc | hc | hc | hc:b.cr=1∨b.cr=2∨b.cr=3∨b.cr=4:=by omega
  all_goals rw [hc];rfl
 refine zAi Try.f25 ?_
 refine zAb (zAa (zAe 2 (zAc (zAb (zAa (zAe 2 (S_a [(0,.ob),(1,.ob),(1,.ob),(0,.ob),(1,.v (PV.own 1 (List.map I (List.replicate b.cr.toNat 0))))] (ap ((by exact zAp (by omega)):decide (0≤b.cr)=true) (ap ((by exact zAp (by omega)):decide (0≤b.cr)=true) (ap ((by exact zAp (by omega)):decide (b.cr.toNat≤b.cr.toNat)=true) (ap ((by exact zAp (by simp [zAv]<;>omega)):decide (b.cr.toNat≤zAv)=true) (ap ((by simp):PV.own 1 (List.replicate b.cr.toNat (I 0))=PV.own 1 (List.map I (List.replicate b.cr.toNat 0))) an))))) (zAe 1 (zAc (zAb (zAb (zAa (zAe 1 (S_a [(0,.n (s.length))] (ap ((by simp):some (List.map I s).length=some s.length) an) (zAe 1 (zAc (zAj 0 ?_)))))))))))))))))
 refine zAX (fun (i,o)=>i≤s.length∧o=(zFG (zBu b) s i).take b.cr.toNat) (fun (i,o)=>[(5,.own 1 (o.map I)),(13,I (i:Nat))]) (fun (i,_)=>s.length-i) ((0:Nat),List.replicate b.cr.toNat 0) ⟨Nat.zero_le _,h0⟩ fun (i,o) ⟨hi,ho⟩=>?_
 have hol:o.length=b.cr.toNat:=by rw [ho,List.length_take,zFY];omega
 have hx:i<s.length→0≤s.getD i 0∧s.getD i 0≤b.cr-1:=fun hi=>zBI h.rng i hi
 have hmy:i<s.length→has (rnd b i).may (s.getD i 0)=true:=fun hi=>zKg h.may hi
 have wH:=zHC (zAu:=s) (zGX hg) i (s.getD i 0).toNat
 have hod:i<s.length→o.getD (s.getD i 0).toNat 0=(zFG (zBu b) s i).getD (s.getD i 0).toNat 0:=fun hi=>by rw [ho,zLy (by have:=hx hi;omega)]
 have uZ:i<b.rs.length→0≤zFf b (rnd b i)∧zFf b (rnd b i)≤1000:=fun h=>zIf hg (zKB hg h)
 have hml:i<b.rs.length→(b.rs.getD i default).may.length≤4:=fun h=>zKL (zF3 hg h).2.2 (zF3 hg h).2.1 vM
 refine zAb (zAa (zAe 1 (zAc (zAb (zCM ((↑i:Int)<(↑s.length:Int)) (fun k0=>(zAl (zAb (zAj 1 (zAb (zAa (zAe 1 (S_a [(2,.v (I (s.getD i 0)))] (ap (zAR (0) (by omega):(List.map I s)[i]? = some (I (s.getD i 0))) an) (zAe 3 (zAc (zAb (zAb (zAa (zAe 3 (S_a [(0,.n (b.rs.length))] (ap ((by simp):some (List.map zDM b.rs).length=some b.rs.length) an) (zAe 2 (zCo 23 ((↑i:Int)≥(↑b.rs.length:Int)) (by omega) (zAe 3 (S_a [(2,.v (PV.agg [I (b.rs.getD i default).w,I (b.rs.getD i default).s,PV.sl (List.map I (b.rs.getD i default).may)]))] (ap (zAR (default) (by omega):(List.map zDM b.rs)[i]? = some (PV.agg [I (b.rs.getD i default).w,I (b.rs.getD i default).s,PV.sl (List.map I (b.rs.getD i default).may)])) an) (zAe 3 (S_a [(8,.ret (PV.bool (has (b.rs.getD i default).may (s.getD i 0))) ([]))] (ap (f87 ((b.rs.getD i default).may) (s.getD i 0) (by omega)) an) (zAe 2 (zAc (zHP (!has (b.rs.getD i default).may (s.getD i 0)) (fun k1=>(zAb (zAa (zAe 1 (zAc (zAD (E_a [] an (PV.nils 1) ([]) ?_ rfl))))))) (fun k1=>(zAl (zAa (zAe 2 (S_a [(0,.ob),(1,.ob),(1,.n ((s.getD i 0).toNat))] (ap ((by exact zAp (by omega)):decide (0≤s.getD i 0)=true) (ap ((by exact zAp (by simp only [List.length_map,zzLn]<;>omega)):decide ((s.getD i 0).toNat<(List.map I o).length)=true) (ap ((by simp):some (0+(s.getD i 0).toNat)=some (s.getD i 0).toNat) an))) (S_a [(0,.cs false ([I (o.getD (s.getD i 0).toNat 0)]))] (ap (zBw (q:=PV.own 1 (List.map I o)) (xs:=List.map I o) (x:=I (o.getD (s.getD i 0).toNat 0)) rfl (zAR (0) (by omega)):zAk 5 (PV.own 1 (List.map I o)) [] (s.getD i 0).toNat 0 1=some (false,[I (o.getD (s.getD i 0).toNat 0)])) an) (zAe 2 (S_a [(8,.ret (I (zFf b (rnd b i))) ([]))] (ap (f57 (b) (i) (by first | omega | (simp<;>omega)) (by omega)) an) (S_a [(1,.v (I (o.getD (s.getD i 0).toNat 0+zFf b (rnd b i))))] (ap ((zAy rfl (by omega)):I (IntKind.i64.wrap (o.getD (s.getD i 0).toNat 0+zFf b (rnd b i)))=I (o.getD (s.getD i 0).toNat 0+zFf b (rnd b i))) an) (S_a [(0,.ob),(1,.ob),(1,.n ((s.getD i 0).toNat))] (ap ((by exact zAp (by omega)):decide (0≤s.getD i 0)=true) (ap ((by exact zAp (by simp only [List.length_map,zzLn]<;>omega)):decide ((s.getD i 0).toNat<(List.map I o).length)=true) (ap ((by simp):some (0+(s.getD i 0).toNat)=some (s.getD i 0).toNat) an))) (S_a [(8,.root (PV.own 1 (List.map I (o.set (s.getD i 0).toNat (o.getD (s.getD i 0).toNat 0+zFf b (rnd b i))))) true)] (ap (zLc (zAR (0) (by omega)) zDz:zA4 (PV.own 1 (List.map I o)) [] (s.getD i 0).toNat 0 (I (o.getD (s.getD i 0).toNat 0+zFf b (rnd b i))).cells=some (PV.own 1 (List.map I (o.set (s.getD i 0).toNat (o.getD (s.getD i 0).toNat 0+zFf b (rnd b i)))))∧zAq (PV.own 1 (List.map I o)) (PV.own 1 (List.map I (o.set (s.getD i 0).toNat (o.getD (s.getD i 0).toNat 0+zFf b (rnd b i))))) []=true) an) (zAc (zAa (S_a [(1,.v (I (↑(i+1):Int)))] (ap ((zAy (by omega) (by omega)):I (IntKind.i64.wrap ((↑i:Int)+1))=I (↑(i+1):Int)) an) (zAe 1 (zAc ?_)))))))))))))))))))))))))))))))))))))))) (fun k0=>(zA9 0 (zAb (zAb (zAa (zAe 1 (S_a [(0,.n (s.length))] (ap ((by simp):some (List.map I s).length=some s.length) an) (zAe 2 (S_a [(0,.n (b.rs.length))] (ap ((by simp):some (List.map zDM b.rs).length=some b.rs.length) an) (zAe 1 (zAc (zEu ((↑s.length:Int)=(↑b.rs.length:Int)) (by omega) (zAl (zAb (zAa (zAe 1 (S_a [(2,.yes)] (ap ((by exact zBH (by simp<;>omega)):(Nat.beq 0 0&&(List.map I o).length.beq (List.map I o).length)=true) an) (zAc (zAD (E_a [(1,.yes),(1,.v (PV.own 1 (List.map I o)))] (ap ((by exact zAs (by simp only [List.length_map,zzLn,zAv]<;>omega)):(0+(List.map I o).length).ble (List.map I o).length=true) (ap ((zFy zDE):PV.own 1 (List.take (List.map I o).length (List.drop 0 (List.map I o)))=PV.own 1 (List.map I o)) an)) (PV.own 1 (List.map I o)) ([]) ?_ rfl)))))))))))))))))))))))))
 ·have:=hmy (by omega)
  unfold rnd at this
  rw [this] at k1;cases k1
 ·refine ⟨(i+1,o.set (s.getD i 0).toNat (o.getD (s.getD i 0).toNat 0+zFf b (rnd b i))),⟨by omega,?_⟩,by simp only;omega,by kernel_rfl,by kernel_rfl⟩
  rw [hod (by omega),ho,zQT,zFG,zGM (by omega)];rfl
 ·rw [ho,show i=s.length by omega]
end
end Go.Eng
set_option maxRecDepth 10000
set_option maxHeartbeats 4000000
namespace Go.Eng
open Go Go.Proofs
section
variable [Yo]
end
end Go.Eng
set_option maxRecDepth 10000
set_option maxHeartbeats 4000000
namespace Go.Eng
open Go Go.Proofs
section
variable [Yo]
end
end Go.Eng
set_option maxRecDepth 10000
namespace Go.Eng
open Go Go.Proofs
abbrev zIu:Dk:=⟨2,1,2,2,[⟨4,2,[0,1]⟩,⟨3,1,[0,1]⟩,⟨8,1,[0,1]⟩,⟨1,1,[1]⟩]⟩
abbrev zQU:List Int:=[12,5,10,3]
section
variable [Yo]
theorem f88x:zBy Try.prog zAw 88 [zHZ zIu,zB2 [0,0,0,1]] [] (.tup [.ref (zG2 zIu zQU),I 0]) []:=zBy.closed 400
theorem f93x:zBy Try.prog zAw 93 [.ref (zG2 zIu zQU),.bor 50000000 [(0,0)] 1 0 4] [.box (.own 1 [I 0,I 0,I 0,I 1])] (.func 130 [] (.ref (.bor 50000000 [(0,0)] 1 0 4)::(zGF zIu zQU [27,3,0,0] []).tail)) [.box (.own 1 [I 0,I 0,I 0,I 1])]:=zBy.closed 400
theorem f93y:zBy Try.prog zAw 93 [.ref (zG2 zIu zQU),.bor 50000000 [(0,0)] 1 0 4] [.box (.own 1 [I 1,I 0,I 0,I 1])] (.func 130 [] (.ref (.bor 50000000 [(0,0)] 1 0 4)::(zGF zIu zQU [15,15,0,0] []).tail)) [.box (.own 1 [I 1,I 0,I 0,I 1])]:=zBy.closed 400
theorem f36w (hx:zGG 130 [] (zGF zIu zQU [27,3,0,0] [0,0,0,1]) [[mvV (0,1)],[mvV (1,1)],[mvV (2,1)]]) (hy:zGG 130 [] (zGF zIu zQU [15,15,0,0] [1,0,0,1]) []):zBy Try.prog zAw 36 [zHZ zIu,zB2 [0,0,0,1]] [] (.tup [.own 1 [I 1,I 0,I 0,I 1],I 1,I 0]) []:=by
 refine zAi Try.f36 ?_
 refine zAb (zAa (zAe 4 (zAc (zAb (zAa (zAe 2 (S_a [(8,.ret (PV.tup [(zG2 zIu zQU).ref,I 0]) ([]))] (ap (f88x) an) (zAe 5 (zAc (zAb (zAb (zAa (zAe 2 (zAc (zBp (zAl (zAb (zAa (zAe 1 (zAe 1 (zAe 3 (zAc (zAb (zAa (zAe 1 (zAe 1 ?_))))))))))))))))))))))))))
 refine zAe 1 (zAc ?_)
 refine zAb (zAa (zAe 1 (zAc (zAj 0 ?_))))
 refine zAX (fun (n,sh)=>n=0∧sh=[0,0,0,1]∨n=1∧sh=[1,0,0,1]) (fun (n,sh)=>[(9,.box (.own 1 (sh.map I))),(10,I (n:Nat))]) (fun (n,_)=>2-n) ((0:Nat),([0,0,0,1]:List Int)) (.inl ⟨rfl,rfl⟩) fun (n,sh) h=>?_
 rcases h with ⟨rfl,rfl⟩ | ⟨rfl,rfl⟩
 ·refine zAb (zAj 1 (zQy (zAb (zAa (zAe 2 (zAc (zAb (zQh (zAb (zAb (zAa (zAe 1 (zAe 1 (S_a [(5,.ret (PV.func 130 [] ((PV.bor 50000000 [(0,0)] 1 0 4).ref::(zGF zIu zQU [27,3,0,0] []).tail)) ([(PV.own 1 [I 0,I 0,I 0,I 1]).box]))] (ap (f93x) an) (zAc (zAj 2 ?_))))))))))))))))
  refine zL6 (t:=32) (R:=[9]) hx ?_
  simp only [Rg]
  refine zRR ?_
  refine zAa (zAe 2 (zAc ?_))
  refine ⟨rfl,by kernel_rfl,?_⟩
  refine zAj 3 (zAb (zAa (zAe 1 (zAe 4 (zAe 1 (zAe 2 (zAc (zA9 2 ?_))))))))
  refine ⟨by kernel_rfl,?_⟩
  refine zAb (zAa (zAe 2 (zAc (zBp (zAl (zAa (zAe 3 (zAc ?_))))))))
  exact ⟨(1,[1,0,0,1]),.inr ⟨rfl,rfl⟩,by decide,by kernel_rfl,by kernel_rfl⟩
 ·refine zAb (zAj 1 (zQy (zAb (zAa (zAe 2 (zAc (zAb (zQh (zAb (zAb (zAa (zAe 1 (zAe 1 (S_a [(5,.ret (PV.func 130 [] ((PV.bor 50000000 [(0,0)] 1 0 4).ref::(zGF zIu zQU [15,15,0,0] []).tail)) ([(PV.own 1 [I 1,I 0,I 0,I 1]).box]))] (ap (f93y) an) (zAc (zAj 2 ?_))))))))))))))))
  refine zL6 (t:=32) (R:=[9]) hy ?_
  simp only [Rg]
  refine zAb (zAa (zAe 2 (zAc (zCb (zAb (zAa (zAe 1 (zAe 4 (zAc (zAD (E_a [] an (PV.tup [PV.own 1 [I 1,I 0,I 0,I 1],I (↑1:Int),I 0]) ([]) rfl rfl)))))))))))
end
noncomputable instance feeYo:Yo:=yo1 Try.prog zAw
theorem zRi {f zAu:List Int} (hf:f.length=4) (hs:zAu.length=4) (h1:zAu.all (fun x=>decide (0≤x∧x<4))=true) (h2:f.all (fun x=>decide (-1000000≤x∧x≤1000000))=true):MvOk zIu zQU f zAu:=by
 refine ⟨⟨by decide,by decide⟩,by decide,hf,rfl,hs,fun x hx=>by simpa using List.all_eq_true.1 h1 x hx,fun i=>?_,fun i=>?_⟩
 ·rcases Nat.lt_or_ge i f.length with h | h
  ·rw [zAC h];simpa using List.all_eq_true.1 h2 _ (List.getElem_mem h)
  ·rw [List.getD_eq_getElem?_getD,List.getElem?_eq_none h];simp
 ·rcases Nat.lt_or_ge i 4 with h | h
  ·match i,h with
   | 0,_=>decide
   | 1,_=>decide
   | 2,_=>decide
   | 3,_=>decide
  ·rw [List.getD_eq_getElem?_getD,List.getElem?_eq_none h];simp
theorem f130a {b:Dk} {fee f zAu:List Int} (h:MvOk b fee f zAu):zGG 130 [] (zGF b fee f zAu) (zLh b fee f zAu zAu.length):=by
 refine ⟨?_,fun j h1 h2=>?_⟩
 ·have:=f130h h (-1) (.inl rfl)
  rwa [if_pos rfl] at this
 ·have:=f130h h (j:Int) (.inr ⟨by omega,by simpa using h2⟩)
  rw [if_neg (by omega)] at this
  exact this
theorem f36x:zBy Try.prog zAw 36 [zHZ zIu,zB2 [0,0,0,1]] [] (.tup [.own 1 [I 1,I 0,I 0,I 1],I 1,I 0]) []:=by
 refine f36w ?_ ?_
 ·exact f130a (zRi rfl rfl (by decide) (by decide))
 ·exact f130a (zRi rfl rfl (by decide) (by decide))
end Go.Eng
namespace Go.Eng
open Go Go.Proofs
def zVL:List Int:=[5,-2,-3,4,-4]
abbrev ad (j:Nat):PV := .addr (50000000+j) [] 0 0 none
abbrev zWi:PV := .box (.func 135 [] [ad 0,ad 1,ad 2,ad 3])
abbrev zV5 (l:List Int):PV := .own 1 (l.map I)
abbrev zUC (l:List (List Int)):PV := .own 1 (l.map zV5)
abbrev zUe (i:Nat) (now out out':List (List Int)):Entry:=⟨135,[I (i:Nat),ad 0,ad 1,ad 2,ad 3],[.box (zB2 zVL),zWi,.box (zUC now),.box (zUC out)],.tup [],[.box (zB2 zVL),zWi,.box (zUC now),.box (zUC out')]⟩
abbrev zUH (i:Nat) (now out out':List (List Int)):Prop:=∀ [Yo],zVN Try.prog zAw [zUe i now out out']
theorem zUf:zUH 3 [[0,1,2]] [] [[0,1,2],[3,4]]:=⟨zBy.closed 400,trivial⟩
theorem zSh:zUH 3 [[0,1],[2]] [[0,1,2],[3,4]] [[0,1,2],[3,4]]:=⟨zBy.closed 400,trivial⟩
theorem zRN:zUH 3 [[0,2],[1]] [[0,1,2],[3,4]] [[0,1,2],[3,4]]:=⟨zBy.closed 400,trivial⟩
theorem zRL:zUH 3 [[0],[1,2]] [[0,1,2],[3,4]] [[0,1,2],[3,4]]:=⟨zBy.closed 400,trivial⟩
theorem zQq:zUH 3 [[0],[1],[2]] [[0,1,2],[3,4]] [[0,1,2],[3,4]]:=⟨zBy.closed 400,trivial⟩
theorem g0_:zUH 0 [] [] [[0,1,2],[3,4]]:=⟨zBy.table ([zUe 3 [[0,1,2]] [] [[0,1,2],[3,4]],zUe 3 [[0,1],[2]] [[0,1,2],[3,4]] [[0,1,2],[3,4]],zUe 3 [[0,2],[1]] [[0,1,2],[3,4]] [[0,1,2],[3,4]],zUe 3 [[0],[1,2]] [[0,1,2],[3,4]] [[0,1,2],[3,4]],zUe 3 [[0],[1],[2]] [[0,1,2],[3,4]] [[0,1,2],[3,4]]]) ⟨zUf.1,zSh.1,zRN.1,zRL.1,zQq.1,trivial⟩ 400,trivial⟩
theorem f49x [Yo]:zBy Try.prog zAw 49 [zB2 zVL] [] (.tup [zUC [[0,1,2],[3,4]],I 0]) []:=zBy.table [zUe 0 [] [] [[0,1,2],[3,4]]] ⟨g0_.1,trivial⟩ 400
end Go.Eng
set_option maxRecDepth 10000
namespace Go.Eng
open Go Go.Proofs
section
variable [Yo]
theorem f26x:zBy Try.prog zAw 26 [zHZ zIu,zB2 [1,0,0,1],zB2 [4,10]] [] (.tup [.own 1 [I 7,I 0],I 23,I 0]) []:=zBy.closed 400
theorem f41x:zBy Try.prog zAw 41 [zHZ zIu] [] (.tup [.own 1 [I 1,I 0,I 0,I 1],I 15,I 0]) []:=zBy.closed 400
theorem f34x:zBy Try.prog zAw 34 [zHZ zIu,zB2 [0,0,1,1]] [] (.tup [.own 2 [.agg [I 0,I 2]],I 0]) []:=zBy.closed 400
theorem f69x:zBy Try.prog zAw 69 [zHZ zIu,zB2 [3,0]] [] (.tup [I 8,I 0]) []:=zBy.closed 400
theorem f18x:zBy Try.prog zAw 18 [I 10,zB2 [5,3,1]] [] (.tup [.own 1 [I 6,I 3,I 1],I 0]) []:=zBy.closed 400
end
abbrev zUL:List Entry:=[
 ⟨36,[zHZ zIu,zB2 [0,0,0,1]],[],.tup [.own 1 [I 1,I 0,I 0,I 1],I 1,I 0],[]⟩,
 ⟨41,[zHZ zIu],[],.tup [.own 1 [I 1,I 0,I 0,I 1],I 15,I 0],[]⟩,
 ⟨34,[zHZ zIu,zB2 [0,0,1,1]],[],.tup [.own 2 [.agg [I 0,I 2]],I 0],[]⟩,
 ⟨26,[zHZ zIu,zB2 [1,0,0,1],zB2 [4,10]],[],.tup [.own 1 [I 7,I 0],I 23,I 0],[]⟩,
 ⟨69,[zHZ zIu,zB2 [3,0]],[],.tup [I 8,I 0],[]⟩,
 ⟨18,[I 10,zB2 [5,3,1]],[],.tup [.own 1 [I 6,I 3,I 1],I 0],[]⟩,
 ⟨49,[zB2 zVL],[],.tup [zUC [[0,1,2],[3,4]],I 0],[]⟩]
theorem f16:zBy Try.prog zAw 16 [] [] (.bool true) []:=zBy.table zUL ⟨f36x,f41x,f34x,f26x,f69x,f18x,f49x,trivial⟩ 400
end Go.Eng
set_option maxRecDepth 10000
set_option maxHeartbeats 4000000
namespace Go.Eng
open Go Go.Proofs
end Go.Eng
set_option maxRecDepth 10000
set_option maxHeartbeats 4000000
namespace Go.Eng
open Go Go.Proofs
abbrev zAg (l:List Int):PV := .own 1 (l.map I)
section
variable [Yo]
end
end Go.Eng
namespace Go.Eng
end Go.Eng
set_option maxRecDepth 10000
set_option maxHeartbeats 4000000
namespace Go.Eng
open Go Go.Proofs
theorem zL7 {b:Dk} {s:List Int} (h:ShareOk b s):zBk b s=0:=by
 have h2:(!s.all (fun x=>decide (0≤x)&&decide (x≤b.cr-1)))=false:=by
  simp only [Bool.not_eq_false',List.all_eq_true]
  intro x hx;have:=h.rng x hx;simp;omega
 simp only [zBk,h.box,h.len,h2,h.may,if_true];rfl
section
variable [Yo]
end
end Go.Eng
namespace Go.Eng
open Go
end Go.Eng
set_option maxRecDepth 10000
set_option maxHeartbeats 4000000
namespace Go.Eng
open Go Go.Proofs
section
variable [Yo]
end
end Go.Eng
set_option maxRecDepth 10000
set_option maxHeartbeats 4000000
namespace Go.Eng
open Go Go.Proofs
structure FinedOk (b:Dk) (s late:List Int) (n:Nat) (got less:List Int):Prop where
 err:zB3 b s late=0
 ge:zAx b s late=got
 le:zCN b s late=less.sum
 gl:got.length=n
 ll:less.length=n
 at_:∀ c,c<n→0≤(zAW b s).getD c 0∧(zAW b s).getD c 0≤1000000∧0≤less.getD c 0∧less.getD c 0=min ((zAW b s).getD c 0) (b.fn*late.getD c 0)∧got.getD c 0=(zAW b s).getD c 0-less.getD c 0
theorem zRH {b:Dk} {s:List Int} (hs:ShareOk b s):(zAW b s).length=b.cr.toNat:=by
 have:=(zEe hs.box).cr
 rw [zQX hs];simp
theorem zVx {b:Dk} {s late:List Int} (hs:ShareOk b s) (hl:(late.length:Int)=b.cr) (hr:∀ x∈late,0≤x∧x≤60):∃ got less,FinedOk b s late b.cr.toNat got less:=by
 have hg:=zEe hs.box
 have vM:=hg.cr
 have kB:=hg.fn
 have j0:=hs.len
 have kW:=hg.len
 have yr:(!late.all (fun x=>decide (0≤x)&&decide (x≤60)))=false:=by
  simp only [Bool.not_eq_false',List.all_eq_true]
  intro x hx;have:=hr x hx;simp;omega
 have e:zB3 b s late=0:=by simp only [zB3,zL7 hs,hl,yr,if_true];rfl
 have hf:zAW b s=(zFG (zBu b) s s.length).take b.cr.toNat:=by simp only [zAW,zL7 hs,if_true]
 refine ⟨zQs b (zFG (zBu b) s s.length) late b.cr.toNat,zIz b (zFG (zBu b) s s.length) late b.cr.toNat,e,by simp only [zAx,e,if_true],by simp only [zCN,e,if_true],by simp [zQs],by simp [zIz],fun c hc=>?_⟩
 have h1:(zAW b s).getD c 0=(zFG (zBu b) s s.length).getD c 0:=by rw [hf,zLy hc]
 have wH:=zHC (zAu:=s) (zGX hg) s.length c
 have h2:(zIz b (zFG (zBu b) s s.length) late b.cr.toNat).getD c 0=zJF b (zFG (zBu b) s s.length) late c:=by simp [zIz,List.getD_eq_getElem?_getD,hc]
 have h3:(zQs b (zFG (zBu b) s s.length) late b.cr.toNat).getD c 0=(zFG (zBu b) s s.length).getD c 0-zJF b (zFG (zBu b) s s.length) late c:=by simp [zQs,List.getD_eq_getElem?_getD,hc]
 have h4:=zBI hr c (by omega)
 have h5:=Int.mul_nonneg kB.1 h4.1
 rw [h1,h2,h3]
 unfold zJF zUE
 refine ⟨wH.1,by omega,?_,?_,rfl⟩
 ·split<;>omega
 ·split<;>omega
theorem zRC {l:List Int} {i:Nat} (h:i<l.length):(l.drop i).sum=l.getD i 0+(l.drop (i+1)).sum:=by
 rw [List.drop_eq_getElem_cons h,zAC h,List.sum_cons]
theorem zMW {l:List Int} {B:Int} (h:∀ c,c<l.length→0≤l.getD c 0∧l.getD c 0≤B) (hB:0≤B) (i:Nat):0≤(l.drop i).sum∧(l.drop i).sum≤B*l.length:=by
 have h1:∀ x∈l.drop i,0≤x∧x≤B:=fun x hx=>by
  obtain ⟨j,hj,rfl⟩:=List.getElem_of_mem (List.mem_of_mem_drop hx)
  have:=h j hj;rwa [zAC hj] at this
 have h2:=zQZ (B:=B) (l:=l.drop i) fun x hx=>by have:=h1 x hx;omega
 have h3:=zVy fun x hx=>(h1 x hx).1
 have h4:B*((l.drop i).length:Int)≤B*l.length:=Int.mul_le_mul_of_nonneg_left (by simp) hB
 omega
theorem f4 (nums tries mins:List Int) (which:Int) (h1:nums.length<9223372036854775808) (h2:tries.length<9223372036854775808) (h3:mins.length<9223372036854775808) (hw:0≤which∧which≤255):FG 4 [.sl (nums.map u8),.sl (tries.map u8),.sl (mins.map u8),.int .u8 which] (.bool true):=by
 obtain ⟨v,h',hm,b,a1,t1,rfl,rfl,hg,kW,ha1⟩:=f21_ex nums 0 0 7 ⟨Nat.zero_le _,h1⟩ (by omega)
 obtain ⟨v,h',je,s,a2,t2,rfl,rfl,hs,j8⟩:=f23_ex tries 0 0 b ⟨Nat.zero_le _,h2⟩ hg
 have h25:=f25_1 b s hs
 have vM:=hg.cr
 have kB:=hg.fn
 have jn:=zRH hs
 have j0:=hs.len
 have kS:zK2 b:=⟨by omega,fun r hr=>by have:=hg.may r hr;have:=zKL this.2.2 this.2.1 vM;omega⟩
 refine zAi Try.f4 ?_
 refine zAb (zAa (zAe 1 (zAc (zAb (zAa (zAe 1 (S_a [(6,.ret (zCe nums 0 0) ([]))] (ap (f22 (nums)) an) (S_a [(6,.ret (zWh b) ([zCe nums a1 t1]))] (ap (hm) an) (zAe 1 (S_a [(3,.v (PV.agg [I b.cr,I b.wd,I b.st,I b.fn,PV.sl (List.map (fun x=>PV.agg [I x.w,I x.s,PV.sl (List.map I x.may)]) b.rs)]))] (ap ((by simp only [show zAr (List.map zJW b.rs)=List.map (fun x=>PV.agg [I x.w,I x.s,PV.sl (List.map I x.may)]) b.rs from (by first | exact zBr _ | exact zAE _ | exact zAM (zAE _) | exact zFO (by simp [zDC]) (zBr _))]):PV.agg [I b.cr,I b.wd,I b.st,I b.fn,PV.sl (zAr (List.map zJW b.rs))]=PV.agg [I b.cr,I b.wd,I b.st,I b.fn,PV.sl (List.map (fun x=>PV.agg [I x.w,I x.s,PV.sl (List.map I x.may)]) b.rs)]) an) (zAc (zAb (zAa (zAe 1 (S_a [(6,.ret (zCe tries 0 0) ([]))] (ap (f22 (tries)) an) (zAe 1 (S_a [(6,.ret (PV.own 1 (List.map I s)) ([zCe tries a2 t2]))] (ap (je) an) (zAe 1 (zAc (zAb (zAa (zAe 1 (S_a [(6,.ret (zCe mins 0 0) ([]))] (ap (f22 (mins)) an) (zAe 1 (zAc (zAb (zAa (zAe 1 (zAc (zAb (zAb (zAa (zAe 3 (zAc (zAj 0 ?_)))))))))))))))))))))))))))))))))))
 refine zAX (fun (c,la,a,t)=>(c:Int)≤b.cr∧la.length=c∧(∀ x∈la,0≤x∧x≤20)∧zEn mins a) (fun (c,la,a,t)=>[(11,zCe mins a t),(12,.own 1 (la.map I)),(35,I (c:Nat))]) (fun (c,_,_,_)=>b.cr.toNat-c) ((0:Nat),([]:List Int),(0:Nat),(0:Int)) ⟨by omega,rfl,by simp,Nat.zero_le _,h3⟩ fun (c,la,a,t) ⟨hc,gi,wM,ha⟩=>?_
 by_cases uB:(c:Int)=b.cr
 ·obtain ⟨got,less,hF⟩:=zVx hs (by omega) (fun x hx=>by have:=wM x hx;omega:∀ x∈la,0≤x∧x≤60)
  have e1:=hF.err
  obtain rfl:=hF.ge
  have e3:=hF.le
  have e4:=hF.gl
  have e5:=hF.ll
  have jH:=Int.tmod_nonneg b.cr hw.1
  have kx:=Int.tmod_lt_of_pos which (show 0<b.cr by omega)
  have kV:(which.tmod b.cr).toNat<la.length:=by omega
  have hk3:=zBI wM (which.tmod b.cr).toNat kV
  obtain ⟨got2,less2,gK⟩:=zVx (late:=la.set (which.tmod b.cr).toNat (la.getD (which.tmod b.cr).toNat 0+1)) hs (by simp;omega) (fun x hx=>by
   rcases List.mem_or_eq_of_mem_set hx with hx | rfl
   ·have:=wM x hx;omega
   ·omega)
  have d1:=gK.err
  obtain rfl:=gK.ge
  have d4:=gK.gl
  have d5:=gK.ll
  have d6k:=gK.at_ (which.tmod b.cr).toNat (by omega)
  rw [zEY,if_pos ⟨rfl,kV⟩,Int.mul_add,Int.mul_one] at d6k
  have e6k:=hF.at_ (which.tmod b.cr).toNat (by omega)
  have yH:(zAx b s (la.set (which.tmod b.cr).toNat (la.getD (which.tmod b.cr).toNat 0+1))).getD (which.tmod b.cr).toNat 0≤(zAx b s la).getD (which.tmod b.cr).toNat 0:=by omega
  clear d6k e6k h1 h2 h3 ha1 j8
  have hsm':=kS
  refine zAb (zAa (zAe 1 (zAc (zAb (zBo ((↑c:Int)<b.cr) (by omega) (zA9 0 (zAb (zAa (zAe 2 (S_a [(5,.ob),(0,.v (PV.sl (List.map I s))),(2,.ret (PV.own 1 (List.map I (zAW b s))) ([])),(1,.yes)] (ap ((by exact zAs (by simp only [List.length_map,zzLn,zAv]<;>omega)):(0+(List.map I s).length).ble (List.map I s).length=true) (ap ((zB6 (zAM (zAE _))):PV.sl (zAr (List.take (List.map I s).length (List.drop 0 (List.map I s))))=PV.sl (List.map I s)) (ap (h25) (ap ((by exact zCI _):(PV.own 1 (List.map I (zAW b s))).free=true) an)))) (zAe 1 (zAc (zAb (zAa (zAe 3 (S_a [(5,.ob),(0,.v (PV.sl (List.map I s))),(1,.ob),(0,.v (PV.sl (List.map I la))),(2,.ret (PV.tup [PV.own 1 (List.map I (zAx b s la)),I (zCN b s la),I (zB3 b s la)]) ([])),(1,.yes)] (ap ((by exact zAs (by simp only [List.length_map,zzLn,zAv]<;>omega)):(0+(List.map I s).length).ble (List.map I s).length=true) (ap ((zB6 (zAM (zAE _))):PV.sl (zAr (List.take (List.map I s).length (List.drop 0 (List.map I s))))=PV.sl (List.map I s)) (ap ((by exact zAs (by simp only [List.length_map,zzLn,zAv]<;>omega)):(0+(List.map I la).length).ble (List.map I la).length=true) (ap ((zB6 (zAM (zAE _))):PV.sl (zAr (List.take (List.map I la).length (List.drop 0 (List.map I la))))=PV.sl (List.map I la)) (ap (f26 (b) (s) (la) (by omega) (by omega) (by omega)) (ap ((by exact zPP (zCI _) rfl):(PV.tup [PV.own 1 (List.map I (zAx b s la)),I (zCN b s la),I (zB3 b s la)]).free=true) an)))))) (zAe 7 (zAc (zAb (zAb (zAa (zAe 3 (zEw 59 (zB3 b s la=0) (by omega) (zAe 1 (S_a [(0,.n ((zAx b s la).length))] (ap ((by simp):some (List.map I (zAx b s la)).length=some (zAx b s la).length) an) (zAe 5 (zEw 66 ((↑(zAx b s la).length:Int)=b.cr) (by omega) (zAe 1 (S_a [(0,.n ((zAW b s).length))] (ap ((by simp):some (List.map I (zAW b s)).length=some (zAW b s).length) an) (zAe 4 (zAc (zEu ((↑(zAW b s).length:Int)=b.cr) (by omega) (zAl (zAb (zAa (zAe 2 (zAc (zAb (zAb (zAa (zAe 1 (S_a [(0,.n ((zAx b s la).length))] (ap ((by simp):some (List.map I (zAx b s la)).length=some (zAx b s la).length) an) (zAe 1 (zAc (zAj 2 ?_)))))))))))))))))))))))))))))))))))))))))))))
  refine zAX (fun (i,sm)=>i≤(zAx b s la).length∧sm=(less.drop i).sum) (fun (i,sm)=>[(17,I sm),(76,I (i:Nat))]) (fun (i,_)=>(zAx b s la).length-i) ((0:Nat),zCN b s la) ⟨Nat.zero_le _,by rw [e3];simp⟩ fun (i,sm) ⟨hi,hsu⟩=>?_
  by_cases yU:i<(zAx b s la).length
  ·have e6i:(0≤(zAW b s).getD i 0∧(zAW b s).getD i 0≤1000000)∧(zAx b s la).getD i 0=(zAW b s).getD i 0-less.getD i 0∧0≤less.getD i 0∧less.getD i 0≤(zAW b s).getD i 0∧less.getD i 0≤b.fn*la.getD i 0∧(less.getD i 0=(zAW b s).getD i 0∨less.getD i 0=b.fn*la.getD i 0):=by have:=hF.at_ i (by omega);omega
   have hz:la.getD i 0=0→b.fn*la.getD i 0=0:=fun h=>by rw [h];simp
   have gL:0≤la.getD i 0∧la.getD i 0≤20:=zBI wM i (by omega)
   have hmb:0≤b.fn*la.getD i 0∧b.fn*la.getD i 0≤20*20:=⟨Int.mul_nonneg kB.1 gL.1,Int.mul_le_mul (by omega) gL.2 gL.1 (by omega)⟩
   have uC:=zMW (l:=less) (B:=1000000) (fun c hc=>by have:=hF.at_ c (by omega);omega) (by omega) i
   have wY:(less.drop i).sum=less.getD i 0+(less.drop (i+1)).sum:=zRC (by omega)
   rw [← hsu] at uC wY
   have hsm2:sm+((zAx b s la).getD i 0-(zAW b s).getD i 0)=(less.drop (i+1)).sum:=by omega
   have hlal:la.length=b.cr.toNat:=by omega
   clear hF gK d1 d4 d5 jH kx kV hk3 yH kS uB e1 wM
   refine zAb (zAa (zAe 1 (zAc (zAb (zA6 ((↑i:Int)<(↑(zAx b s la).length:Int)) (by omega) (zAl (zAb (zAj 3 (zAb (zAa (zAe 1 (S_a [(2,.ob),(1,.n (i))] (ap ((by exact zAp (by simp only [List.length_map,zzLn]<;>omega)):decide (i<(List.map I (zAx b s la)).length)=true) (ap ((by simp):some (0+i)=some i) an)) (S_a [(0,.cs false ([I ((zAx b s la).getD i 0)]))] (ap (zBw (q:=PV.own 1 (List.map I (zAx b s la))) (xs:=List.map I (zAx b s la)) (x:=I ((zAx b s la).getD i 0)) rfl (zAR (0) (by omega)):zAk 14 (PV.own 1 (List.map I (zAx b s la))) [] i 0 1=some (false,[I ((zAx b s la).getD i 0)])) an) (zAe 2 (zAc (zAb (zAa (zAe 4 (S_a [(2,.ob),(1,.n (i))] (ap ((by exact zAp (by simp only [List.length_map,zzLn]<;>omega)):decide (i<(List.map I (zAW b s)).length)=true) (ap ((by simp):some (0+i)=some i) an)) (S_a [(0,.cs false ([I ((zAW b s).getD i 0)]))] (ap (zBw (q:=PV.own 1 (List.map I (zAW b s))) (xs:=List.map I (zAW b s)) (x:=I ((zAW b s).getD i 0)) rfl (zAR (0) (by omega)):zAk 13 (PV.own 1 (List.map I (zAW b s))) [] i 0 1=some (false,[I ((zAW b s).getD i 0)])) an) (S_a [(1,.v (I ((zAx b s la).getD i 0-(zAW b s).getD i 0)))] (ap ((zAy rfl (by omega)):I (IntKind.i64.wrap ((zAx b s la).getD i 0-(zAW b s).getD i 0))=I ((zAx b s la).getD i 0-(zAW b s).getD i 0)) an) (S_a [(1,.v (I (sm+((zAx b s la).getD i 0-(zAW b s).getD i 0))))] (ap ((zAy rfl (by omega)):I (IntKind.i64.wrap (sm+((zAx b s la).getD i 0-(zAW b s).getD i 0)))=I (sm+((zAx b s la).getD i 0-(zAW b s).getD i 0))) an) (zAe 1 (zAc (zAb (zAa (zAe 3 (zCo 91 ((zAx b s la).getD i 0<0) (by omega) (zAe 3 (S_a [(2,.ob),(1,.n (i))] (ap ((by exact zAp (by simp only [List.length_map,zzLn]<;>omega)):decide (i<(List.map I (zAW b s)).length)=true) (ap ((by simp):some (0+i)=some i) an)) (S_a [(0,.cs false ([I ((zAW b s).getD i 0)]))] (ap (zBw (q:=PV.own 1 (List.map I (zAW b s))) (xs:=List.map I (zAW b s)) (x:=I ((zAW b s).getD i 0)) rfl (zAR (0) (by omega)):zAk 13 (PV.own 1 (List.map I (zAW b s))) [] i 0 1=some (false,[I ((zAW b s).getD i 0)])) an) (zAe 3 (zCo 99 ((zAx b s la).getD i 0>(zAW b s).getD i 0) (by omega) (zAe 2 (S_a [(2,.ob),(1,.n (i))] (ap ((by exact zAp (by simp only [List.length_map,zzLn]<;>omega)):decide (i<(List.map I la).length)=true) (ap ((by simp):some (0+i)=some i) an)) (S_a [(0,.cs false ([I (la.getD i 0)]))] (ap (zBw (q:=PV.own 1 (List.map I la)) (xs:=List.map I la) (x:=I (la.getD i 0)) rfl (zAR (0) (by omega)):zAk 12 (PV.own 1 (List.map I la)) [] i 0 1=some (false,[I (la.getD i 0)])) an) (zAe 2 (zI2 105 (la.getD i 0=0) (fun k0=>(zAe 3 (S_a [(2,.ob),(1,.n (i))] (ap ((by exact zAp (by simp only [List.length_map,zzLn]<;>omega)):decide (i<(List.map I (zAW b s)).length)=true) (ap ((by simp):some (0+i)=some i) an)) (S_a [(0,.cs false ([I ((zAW b s).getD i 0)]))] (ap (zBw (q:=PV.own 1 (List.map I (zAW b s))) (xs:=List.map I (zAW b s)) (x:=I ((zAW b s).getD i 0)) rfl (zAR (0) (by omega)):zAk 13 (PV.own 1 (List.map I (zAW b s))) [] i 0 1=some (false,[I ((zAW b s).getD i 0)])) an) (zAe 4 (zEw 114 ((zAx b s la).getD i 0=(zAW b s).getD i 0) (by omega) (zAe 3 (zI2 117 ((zAx b s la).getD i 0>0) (fun k1=>(zAe 2 (S_a [(2,.ob),(1,.n (i))] (ap ((by exact zAp (by simp only [List.length_map,zzLn]<;>omega)):decide (i<(List.map I (zAW b s)).length)=true) (ap ((by simp):some (0+i)=some i) an)) (S_a [(0,.cs false ([I ((zAW b s).getD i 0)]))] (ap (zBw (q:=PV.own 1 (List.map I (zAW b s))) (xs:=List.map I (zAW b s)) (x:=I ((zAW b s).getD i 0)) rfl (zAR (0) (by omega)):zAk 13 (PV.own 1 (List.map I (zAW b s))) [] i 0 1=some (false,[I ((zAW b s).getD i 0)])) an) (zAe 1 (S_a [(1,.v (I ((zAW b s).getD i 0-(zAx b s la).getD i 0)))] (ap ((zAy rfl (by omega)):I (IntKind.i64.wrap ((zAW b s).getD i 0-(zAx b s la).getD i 0))=I ((zAW b s).getD i 0-(zAx b s la).getD i 0)) an) (zAe 4 (S_a [(2,.ob),(1,.n (i))] (ap ((by exact zAp (by simp only [List.length_map,zzLn]<;>omega)):decide (i<(List.map I la).length)=true) (ap ((by simp):some (0+i)=some i) an)) (S_a [(0,.cs false ([I (la.getD i 0)]))] (ap (zBw (q:=PV.own 1 (List.map I la)) (xs:=List.map I la) (x:=I (la.getD i 0)) rfl (zAR (0) (by omega)):zAk 12 (PV.own 1 (List.map I la)) [] i 0 1=some (false,[I (la.getD i 0)])) an) (S_a [(1,.v (I (b.fn*la.getD i 0)))] (ap ((zAy rfl (by omega)):I (IntKind.i64.wrap (b.fn*la.getD i 0))=I (b.fn*la.getD i 0)) an) (zAe 4 (zEw 134 ((zAW b s).getD i 0-(zAx b s la).getD i 0=b.fn*la.getD i 0) (by omega) (zAe 3 (zCo 137 ((zAx b s la).getD i 0=0) (by omega) (zAe 14 (zAc (zBp (zAl (zAa (S_a [(1,.v (I (↑(i+1):Int)))] (ap ((zAy (by omega) (by omega)):I (IntKind.i64.wrap ((↑i:Int)+1))=I (↑(i+1):Int)) an) (zAe 1 (zAc ?_)))))))))))))))))))))) (fun k1=>(zAe 20 (zDF 137 ((zAx b s la).getD i 0=0) (by omega) (zAe 2 (S_a [(2,.ob),(1,.n (i))] (ap ((by exact zAp (by simp only [List.length_map,zzLn]<;>omega)):decide (i<(List.map I (zAW b s)).length)=true) (ap ((by simp):some (0+i)=some i) an)) (S_a [(0,.cs false ([I ((zAW b s).getD i 0)]))] (ap (zBw (q:=PV.own 1 (List.map I (zAW b s))) (xs:=List.map I (zAW b s)) (x:=I ((zAW b s).getD i 0)) rfl (zAR (0) (by omega)):zAk 13 (PV.own 1 (List.map I (zAW b s))) [] i 0 1=some (false,[I ((zAW b s).getD i 0)])) an) (zAe 4 (S_a [(2,.ob),(1,.n (i))] (ap ((by exact zAp (by simp only [List.length_map,zzLn]<;>omega)):decide (i<(List.map I la).length)=true) (ap ((by simp):some (0+i)=some i) an)) (S_a [(0,.cs false ([I (la.getD i 0)]))] (ap (zBw (q:=PV.own 1 (List.map I la)) (xs:=List.map I la) (x:=I (la.getD i 0)) rfl (zAR (0) (by omega)):zAk 12 (PV.own 1 (List.map I la)) [] i 0 1=some (false,[I (la.getD i 0)])) an) (S_a [(1,.v (I (b.fn*la.getD i 0)))] (ap ((zAy rfl (by omega)):I (IntKind.i64.wrap (b.fn*la.getD i 0))=I (b.fn*la.getD i 0)) an) (zAe 3 (zAc (zBo ((zAW b s).getD i 0>b.fn*la.getD i 0) (by omega) (zAl (zAa (S_a [(1,.v (I (↑(i+1):Int)))] (ap ((zAy (by omega) (by omega)):I (IntKind.i64.wrap ((↑i:Int)+1))=I (↑(i+1):Int)) an) (zAe 1 (zAc ?_)))))))))))))))))))))))))) (fun k0=>(zAe 12 (zI2 117 ((zAx b s la).getD i 0>0) (fun k2=>(zAe 2 (S_a [(2,.ob),(1,.n (i))] (ap ((by exact zAp (by simp only [List.length_map,zzLn]<;>omega)):decide (i<(List.map I (zAW b s)).length)=true) (ap ((by simp):some (0+i)=some i) an)) (S_a [(0,.cs false ([I ((zAW b s).getD i 0)]))] (ap (zBw (q:=PV.own 1 (List.map I (zAW b s))) (xs:=List.map I (zAW b s)) (x:=I ((zAW b s).getD i 0)) rfl (zAR (0) (by omega)):zAk 13 (PV.own 1 (List.map I (zAW b s))) [] i 0 1=some (false,[I ((zAW b s).getD i 0)])) an) (zAe 1 (S_a [(1,.v (I ((zAW b s).getD i 0-(zAx b s la).getD i 0)))] (ap ((zAy rfl (by omega)):I (IntKind.i64.wrap ((zAW b s).getD i 0-(zAx b s la).getD i 0))=I ((zAW b s).getD i 0-(zAx b s la).getD i 0)) an) (zAe 4 (S_a [(2,.ob),(1,.n (i))] (ap ((by exact zAp (by simp only [List.length_map,zzLn]<;>omega)):decide (i<(List.map I la).length)=true) (ap ((by simp):some (0+i)=some i) an)) (S_a [(0,.cs false ([I (la.getD i 0)]))] (ap (zBw (q:=PV.own 1 (List.map I la)) (xs:=List.map I la) (x:=I (la.getD i 0)) rfl (zAR (0) (by omega)):zAk 12 (PV.own 1 (List.map I la)) [] i 0 1=some (false,[I (la.getD i 0)])) an) (S_a [(1,.v (I (b.fn*la.getD i 0)))] (ap ((zAy rfl (by omega)):I (IntKind.i64.wrap (b.fn*la.getD i 0))=I (b.fn*la.getD i 0)) an) (zAe 4 (zEw 134 ((zAW b s).getD i 0-(zAx b s la).getD i 0=b.fn*la.getD i 0) (by omega) (zAe 3 (zCo 137 ((zAx b s la).getD i 0=0) (by omega) (zAe 14 (zAc (zBp (zAl (zAa (S_a [(1,.v (I (↑(i+1):Int)))] (ap ((zAy (by omega) (by omega)):I (IntKind.i64.wrap ((↑i:Int)+1))=I (↑(i+1):Int)) an) (zAe 1 (zAc ?_)))))))))))))))))))))) (fun k2=>(zAe 20 (zDF 137 ((zAx b s la).getD i 0=0) (by omega) (zAe 2 (S_a [(2,.ob),(1,.n (i))] (ap ((by exact zAp (by simp only [List.length_map,zzLn]<;>omega)):decide (i<(List.map I (zAW b s)).length)=true) (ap ((by simp):some (0+i)=some i) an)) (S_a [(0,.cs false ([I ((zAW b s).getD i 0)]))] (ap (zBw (q:=PV.own 1 (List.map I (zAW b s))) (xs:=List.map I (zAW b s)) (x:=I ((zAW b s).getD i 0)) rfl (zAR (0) (by omega)):zAk 13 (PV.own 1 (List.map I (zAW b s))) [] i 0 1=some (false,[I ((zAW b s).getD i 0)])) an) (zAe 4 (S_a [(2,.ob),(1,.n (i))] (ap ((by exact zAp (by simp only [List.length_map,zzLn]<;>omega)):decide (i<(List.map I la).length)=true) (ap ((by simp):some (0+i)=some i) an)) (S_a [(0,.cs false ([I (la.getD i 0)]))] (ap (zBw (q:=PV.own 1 (List.map I la)) (xs:=List.map I la) (x:=I (la.getD i 0)) rfl (zAR (0) (by omega)):zAk 12 (PV.own 1 (List.map I la)) [] i 0 1=some (false,[I (la.getD i 0)])) an) (S_a [(1,.v (I (b.fn*la.getD i 0)))] (ap ((zAy rfl (by omega)):I (IntKind.i64.wrap (b.fn*la.getD i 0))=I (b.fn*la.getD i 0)) an) (zAe 3 (zAc (zBo ((zAW b s).getD i 0>b.fn*la.getD i 0) (by omega) (zAl (zAa (S_a [(1,.v (I (↑(i+1):Int)))] (ap ((zAy (by omega) (by omega)):I (IntKind.i64.wrap ((↑i:Int)+1))=I (↑(i+1):Int)) an) (zAe 1 (zAc ?_)))))))))))))))))))))))))))))))))))))))))))))))))))))))))))
   all_goals exact ⟨(i+1,sm+((zAx b s la).getD i 0-(zAW b s).getD i 0)),⟨by omega,hsm2⟩,by simp only;omega,by kernel_rfl,by kernel_rfl⟩
  ·have vX:=zCI (g:=I) (zAx b s (la.set (which.tmod b.cr).toNat (la.getD (which.tmod b.cr).toNat 0+1)))
   have yC:sm=0:=by rw [hsu,List.drop_eq_nil_of_le (by omega)];rfl
   clear hF gK
   refine zAb (zAa (zAe 1 (zAc (zAb (zBo ((↑i:Int)<(↑(zAx b s la).length:Int)) (by omega) (zA9 2 (zAb (zAa (zAe 1 (S_a [(3,.ob),(0,.v (PV.sl (List.map I la))),(2,.ret (PV.own 1 (List.map I la)) ([])),(1,.yes)] (ap ((by exact zAs (by simp only [List.length_map,zzLn,zAv]<;>omega)):(0+(List.map I la).length).ble (List.map I la).length=true) (ap ((zB6 (zAM (zAE _))):PV.sl (zAr (List.take (List.map I la).length (List.drop 0 (List.map I la))))=PV.sl (List.map I la)) (ap (f17 (la) (by omega)) (ap ((by exact zCI _):(PV.own 1 (List.map I la)).free=true) an)))) (zAe 1 (zAc (zAb (zAa (zAe 1 (S_a [(0,.v (I which))] (ap ((zAy rfl (by omega)):I (IntKind.i64.wrap which)=I which) an) (zAe 2 (S_a [(0,.v (I (which.tmod b.cr)))] (ap (zTh (by omega) rfl:zNV Try.prog BinOp.rem 3 (I which) (I b.cr)=some (I (which.tmod b.cr))) an) (zAe 1 (zAc (zAb (zAa (zAe 2 (S_a [(0,.ob),(1,.ob),(1,.n ((which.tmod b.cr).toNat))] (ap ((by exact zAp (by omega)):decide (0≤which.tmod b.cr)=true) (ap ((by exact zAp (by simp only [List.length_map,zzLn]<;>omega)):decide ((which.tmod b.cr).toNat<(List.map I la).length)=true) (ap ((by simp):some (0+(which.tmod b.cr).toNat)=some (which.tmod b.cr).toNat) an))) (S_a [(0,.cs false ([I (la.getD (which.tmod b.cr).toNat 0)]))] (ap (zBw (q:=PV.own 1 (List.map I la)) (xs:=List.map I la) (x:=I (la.getD (which.tmod b.cr).toNat 0)) rfl (zAR (0) (by omega)):zAk 20 (PV.own 1 (List.map I la)) [] (which.tmod b.cr).toNat 0 1=some (false,[I (la.getD (which.tmod b.cr).toNat 0)])) an) (S_a [(1,.v (I (la.getD (which.tmod b.cr).toNat 0+1)))] (ap ((zAy rfl (by omega)):I (IntKind.i64.wrap (la.getD (which.tmod b.cr).toNat 0+1))=I (la.getD (which.tmod b.cr).toNat 0+1)) an) (S_a [(0,.ob),(1,.ob),(1,.n ((which.tmod b.cr).toNat))] (ap ((by exact zAp (by omega)):decide (0≤which.tmod b.cr)=true) (ap ((by exact zAp (by simp only [List.length_map,zzLn]<;>omega)):decide ((which.tmod b.cr).toNat<(List.map I la).length)=true) (ap ((by simp):some (0+(which.tmod b.cr).toNat)=some (which.tmod b.cr).toNat) an))) (S_a [(8,.root (PV.own 1 (List.map I (la.set (which.tmod b.cr).toNat (la.getD (which.tmod b.cr).toNat 0+1)))) true)] (ap (zLc (zAR (0) (by omega)) zDz:zA4 (PV.own 1 (List.map I la)) [] (which.tmod b.cr).toNat 0 (I (la.getD (which.tmod b.cr).toNat 0+1)).cells=some (PV.own 1 (List.map I (la.set (which.tmod b.cr).toNat (la.getD (which.tmod b.cr).toNat 0+1))))∧zAq (PV.own 1 (List.map I la)) (PV.own 1 (List.map I (la.set (which.tmod b.cr).toNat (la.getD (which.tmod b.cr).toNat 0+1)))) []=true) an) (zAc (zAb (zAa (zAe 3 (S_a [(5,.ob),(0,.v (PV.sl (List.map I s))),(1,.ob),(0,.v (PV.sl (List.map I (la.set (which.tmod b.cr).toNat (la.getD (which.tmod b.cr).toNat 0+1))))),(2,.ret (PV.tup [PV.own 1 (List.map I (zAx b s (la.set (which.tmod b.cr).toNat (la.getD (which.tmod b.cr).toNat 0+1)))),I (zCN b s (la.set (which.tmod b.cr).toNat (la.getD (which.tmod b.cr).toNat 0+1))),I (zB3 b s (la.set (which.tmod b.cr).toNat (la.getD (which.tmod b.cr).toNat 0+1)))]) ([])),(1,.yes)] (ap ((by exact zAs (by simp only [List.length_map,zzLn,zAv]<;>omega)):(0+(List.map I s).length).ble (List.map I s).length=true) (ap ((zB6 (zAM (zAE _))):PV.sl (zAr (List.take (List.map I s).length (List.drop 0 (List.map I s))))=PV.sl (List.map I s)) (ap ((by exact zAs (by simp only [List.length_map,zzLn,zAv]<;>omega)):(0+(List.map I (la.set (which.tmod b.cr).toNat (la.getD (which.tmod b.cr).toNat 0+1))).length).ble (List.map I (la.set (which.tmod b.cr).toNat (la.getD (which.tmod b.cr).toNat 0+1))).length=true) (ap ((zB6 (zAM (zAE _))):PV.sl (zAr (List.take (List.map I (la.set (which.tmod b.cr).toNat (la.getD (which.tmod b.cr).toNat 0+1))).length (List.drop 0 (List.map I (la.set (which.tmod b.cr).toNat (la.getD (which.tmod b.cr).toNat 0+1))))))=PV.sl (List.map I (la.set (which.tmod b.cr).toNat (la.getD (which.tmod b.cr).toNat 0+1)))) (ap (f26 (b) (s) (la.set (which.tmod b.cr).toNat (la.getD (which.tmod b.cr).toNat 0+1)) (by omega) (by omega) (by first | omega | (simp<;>omega))) (ap ((by exact zPP (zCI _) rfl):(PV.tup [PV.own 1 (List.map I (zAx b s (la.set (which.tmod b.cr).toNat (la.getD (which.tmod b.cr).toNat 0+1)))),I (zCN b s (la.set (which.tmod b.cr).toNat (la.getD (which.tmod b.cr).toNat 0+1))),I (zB3 b s (la.set (which.tmod b.cr).toNat (la.getD (which.tmod b.cr).toNat 0+1)))]).free=true) an)))))) (zAe 7 (zAc (zAb (zAa (zAe 3 (zDF 176 (zB3 b s (la.set (which.tmod b.cr).toNat (la.getD (which.tmod b.cr).toNat 0+1))=0) (by omega) (zAe 1 (S_a [(0,.n ((zAx b s (la.set (which.tmod b.cr).toNat (la.getD (which.tmod b.cr).toNat 0+1))).length))] (ap ((by simp):some (List.map I (zAx b s (la.set (which.tmod b.cr).toNat (la.getD (which.tmod b.cr).toNat 0+1)))).length=some (zAx b s (la.set (which.tmod b.cr).toNat (la.getD (which.tmod b.cr).toNat 0+1))).length) an) (zAe 5 (zDF 183 ((↑(zAx b s (la.set (which.tmod b.cr).toNat (la.getD (which.tmod b.cr).toNat 0+1))).length:Int)=b.cr) (by omega) (zAe 2 (S_a [(0,.ob),(1,.ob),(1,.n ((which.tmod b.cr).toNat))] (ap ((by exact zAp (by omega)):decide (0≤which.tmod b.cr)=true) (ap ((by exact zAp (by simp only [List.length_map,zzLn]<;>omega)):decide ((which.tmod b.cr).toNat<(List.map I (zAx b s (la.set (which.tmod b.cr).toNat (la.getD (which.tmod b.cr).toNat 0+1)))).length)=true) (ap ((by simp):some (0+(which.tmod b.cr).toNat)=some (which.tmod b.cr).toNat) an))) (S_a [(0,.cs false ([I ((zAx b s (la.set (which.tmod b.cr).toNat (la.getD (which.tmod b.cr).toNat 0+1))).getD (which.tmod b.cr).toNat 0)]))] (ap (zBw (q:=PV.own 1 (List.map I (zAx b s (la.set (which.tmod b.cr).toNat (la.getD (which.tmod b.cr).toNat 0+1))))) (xs:=List.map I (zAx b s (la.set (which.tmod b.cr).toNat (la.getD (which.tmod b.cr).toNat 0+1)))) (x:=I ((zAx b s (la.set (which.tmod b.cr).toNat (la.getD (which.tmod b.cr).toNat 0+1))).getD (which.tmod b.cr).toNat 0)) rfl (zAR (0) (by omega)):zAk 22 (PV.own 1 (List.map I (zAx b s (la.set (which.tmod b.cr).toNat (la.getD (which.tmod b.cr).toNat 0+1))))) [] (which.tmod b.cr).toNat 0 1=some (false,[I ((zAx b s (la.set (which.tmod b.cr).toNat (la.getD (which.tmod b.cr).toNat 0+1))).getD (which.tmod b.cr).toNat 0)])) an) (zAe 2 (S_a [(0,.ob),(1,.ob),(1,.n ((which.tmod b.cr).toNat))] (ap ((by exact zAp (by omega)):decide (0≤which.tmod b.cr)=true) (ap ((by exact zAp (by simp only [List.length_map,zzLn]<;>omega)):decide ((which.tmod b.cr).toNat<(List.map I (zAx b s la)).length)=true) (ap ((by simp):some (0+(which.tmod b.cr).toNat)=some (which.tmod b.cr).toNat) an))) (S_a [(0,.cs false ([I ((zAx b s la).getD (which.tmod b.cr).toNat 0)]))] (ap (zBw (q:=PV.own 1 (List.map I (zAx b s la))) (xs:=List.map I (zAx b s la)) (x:=I ((zAx b s la).getD (which.tmod b.cr).toNat 0)) rfl (zAR (0) (by omega)):zAk 14 (PV.own 1 (List.map I (zAx b s la))) [] (which.tmod b.cr).toNat 0 1=some (false,[I ((zAx b s la).getD (which.tmod b.cr).toNat 0)])) an) (zAe 3 (zDF 194 ((zAx b s (la.set (which.tmod b.cr).toNat (la.getD (which.tmod b.cr).toNat 0+1))).getD (which.tmod b.cr).toNat 0≤(zAx b s la).getD (which.tmod b.cr).toNat 0) (by omega) (zAe 4 (zDF 198 (sm=0) (by omega) (S_a [(4,.ret (PV.bool true) ([]))] (ap (f16) an) (zAe 2 (zAc (zAD (E_a [] an (PV.bool true) ([]) rfl rfl))))))))))))))))))))))))))))))))))))))))))))))))))))))))))
 ·have g1:=zCB ha
  have g2:=zCB g1
  have u1:=zBT mins a t 20
  have u2:=zBT mins (zAn mins a) (zAK mins a t) 1
  have u3:=Int.mul_nonneg u1.1 u2.1
  clear h1 h2 h3 hw ha1 j8 kW
  have u4:zAG mins a t 20*zAG mins (zAn mins a) (zAK mins a t) 1≤20*1:=Int.mul_le_mul (by omega) (by omega) (by omega) (by omega)
  refine zAb (zAa (zAe 1 (zAc (zAb (zA6 ((↑c:Int)<b.cr) (by omega) (zAl (zAb (zAj 1 (zAa (zAe 2 (S_a [(6,.ret (I (zAG mins a t 20)) ([zCe mins (zAn mins a) (zAK mins a t)]))] (ap (f24 (mins) (a) (t) (20) (by omega) (by omega)) an) (zAe 1 (S_a [(6,.ret (I (zAG mins (zAn mins a) (zAK mins a t) 1)) ([zCe mins (zAn mins (zAn mins a)) (zAK mins (zAn mins a) (zAK mins a t))]))] (ap (f24 (mins) (zAn mins a) (zAK mins a t) (1) (by omega) (by omega)) an) (S_a [(1,.v (I (zAG mins a t 20*zAG mins (zAn mins a) (zAK mins a t) 1)))] (ap ((zAy rfl (by omega)):I (IntKind.i64.wrap (zAG mins a t 20*zAG mins (zAn mins a) (zAK mins a t) 1))=I (zAG mins a t 20*zAG mins (zAn mins a) (zAK mins a t) 1)) an) (zAe 1 (S_a [(4,.ob),(0,.ob),(0,.yes),(2,.v (PV.own 1 (List.map I (la++[zAG mins a t 20*zAG mins (zAn mins a) (zAK mins a t) 1]))))] (ap ((by exact zAs (by simp only [List.length_map,zzLn,zAv]<;>omega)):(0+(List.map I la).length).ble (List.map I la).length=true) (ap ((by exact zAs (by simp only [List.length_map,zzLn,zAv]<;>omega)):((List.map I la).length + [I (zAG mins a t 20*zAG mins (zAn mins a) (zAK mins a t) 1)].length).ble zAv=true) (ap ((by exact zBH (by simp<;>omega)):(0+(List.map I la).length).beq (List.map I la).length=true) (ap ((by simp):PV.own 1 (List.map I la++[I (zAG mins a t 20*zAG mins (zAn mins a) (zAK mins a t) 1)])=PV.own 1 (List.map I (la++[zAG mins a t 20*zAG mins (zAn mins a) (zAK mins a t) 1]))) an)))) (zAe 1 (zAc (zAa (S_a [(1,.v (I (↑(c+1):Int)))] (ap ((zAy (by omega) (by omega)):I (IntKind.i64.wrap ((↑c:Int)+1))=I (↑(c+1):Int)) an) (zAe 1 (zAc ?_))))))))))))))))))))))
  exact ⟨(c+1,la++[zAG mins a t 20*zAG mins (zAn mins a) (zAK mins a t) 1],zAn mins (zAn mins a),zAK mins (zAn mins a) (zAK mins a t)),⟨by omega,by simp [gi],fun x hx=>by
   rcases List.mem_append.1 hx with hx | hx
   ·exact wM x hx
   ·rw [List.mem_singleton] at hx;subst hx;omega,g2⟩,by simp only;omega,by kernel_rfl,by kernel_rfl⟩
end Go.Eng
set_option maxRecDepth 10000
set_option maxHeartbeats 4000000
namespace Go.Eng
open Go Go.Proofs
section
variable [Yo]
end
end Go.Eng
