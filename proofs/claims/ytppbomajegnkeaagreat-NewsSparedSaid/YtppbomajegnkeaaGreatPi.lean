/- For all numbers, cries, which and when the law NewsSpared ends in true: without a cry that is told all yn hold the same, without another one some hold something else; without conditions. -/
import Derived.Test.YtppbomajegnkeaaGreatPh
import Derived.Test.YtppbomajegnkeaaGreatPd
import Derived.Test.YtppbomajegnkeaaGreatPg
set_option linter.unusedVariables false
set_option linter.unusedSimpArgs false
set_option linter.unusedSectionVars false
set_option maxRecDepth 10000
set_option maxHeartbeats 4000000
namespace Go.Eng
open Go Go.Proofs
section
variable [Yo]
theorem f48_ex (l:List Int) (a:Nat) (t hs ns ss:Int) (h:zDX l a) (hh:2≤hs∧hs≤8) (hn:2≤ns∧ns≤6) (yJ:1≤ss∧ss≤4):∃ v h',zAo Tryz.prog zCD 48 [zPA,I hs,I ns,I ss] [zBV l a t] v h'∧∃ (n:Nw) (a':Nat) (t':Int),v=nwO n∧h'=[zBV l a' t']∧zGA n=0∧n.h≤hs∧(n.n.length:Int)≤ns∧(n.s.length:Int)≤ss∧zDX l a':=by
 refine zMi Tryz.f48 _ ?_
 have g1:=zCG h
 have s1:=zCE l a t (hs-2)
 refine zAd 1<|zAa<|zAd 2<|S_a [(8,.ret (I (2+zAs l a t (hs-2))) ([zBV l (zAE l a) (zAN l a t)]))] (ap (f127 l a t (2) hs (by omega) (by omega) (by omega)) an)<|zAc 3<|zAa<|zAh<|zAd 1<|zAa<|zAk 0 ?_
 have hH1:2≤2+zAs l a t (hs-2)∧2+zAs l a t (hs-2)≤hs:=by omega
 generalize 2+zAs l a t (hs-2)=H at *
 clear s1
 generalize zAN l a t=T0 at *
 generalize zAE l a=A0 at *
 refine zAy (fun (h,q,a,_)=>1≤h∧(h:Int)≤H∧LkOk q h∧zDX l a) (fun ((h:Nat),(q:List (Int×Int)),(a:Nat),(t:Int))=>[(9,.box (.agg [I H,.own 2 (q.map prV),.own 2 [],.own 1 []])),(10,I (h:Nat)),(50000000,zBV l a t)]) (fun (h,_,_,_)=>H.toNat-h) ((1:Nat),([]:List (Int×Int)),A0,T0) ⟨Nat.le_refl _,by omega,⟨fun x hx=>absurd hx List.not_mem_nil,List.nodup_nil,by simp only [List.length_nil];omega⟩,g1⟩ fun (h,q,a,t) ⟨gJ,hhH,hq,ha⟩=>?_
 have wh:=hq.len
 by_cases vU:(h:Int)<H
 ·have g2:=zCG ha
  have g3:=zCG g2
  have s2:=zCE l (zAE l a) (zAN l a t) ((h-1:Nat):Int)
  have ka:=hq.skip
  have kY:LkOk (q++[((h:Int),zAs l (zAE l a) (zAN l a t) ((h-1:Nat):Int))]) ((h:Int)+1):=hq.snoc (by omega) (by omega)
  clear hq
  refine zAh<|zAd 4<|zAa<|zA3 ((↑h:Int)<H) (by omega)<|zAm<|zAh<|zAk 1<|zAd 1<|S_a [(6,.ret (PV.bool (decide (zAs l a t (5-1)=0))) ([zBV l (zAE l a) (zAN l a t)]))] (ap (f128 l a t (5) (by omega) (by omega)) an)<|zAc 1<|zAa<|zDQ (zAs l a t (5-1)=0) (fun k0=>(zAg<|zAc 1<|S_a [(1,.v (PV.bor 9 [(0,1)] 2 0 q.length))] (ap ((by simp):PV.bor 9 [(0,1)] 2 0 (List.map prV q).length=PV.bor 9 [(0,1)] 2 0 q.length) an)<|zAc 3<|S_a [(1,.v (I (↑(h-1):Int)))] (ap ((zCr (by omega) (by omega)):I (IntKind.i64.wrap ((↑h:Int)-1))=I (↑(h-1):Int)) an)<|S_a [(6,.ret (I (zAs l (zAE l a) (zAN l a t) (↑(h-1):Int))) ([zBV l (zAE l (zAE l a)) (zAN l (zAE l a) (zAN l a t))]))] (ap (f129 l (zAE l a) (zAN l a t) ((↑(h-1):Int)) (by omega) (by omega)) an)<|zAc 2<|S_a [(4,.ob),(0,.ob),(0,.yes),(2,.v (PV.own 2 (List.map prV (q++[((↑h:Int),zAs l (zAE l a) (zAN l a t) (↑(h-1):Int))]))))] (ap ((by exact zA4 (by simp only [List.length_map,zzLn,zAS]<;>omega)):(0+q.length).ble (List.map prV q).length=true)<|ap ((by exact zA4 (by simp only [List.length_map,zzLn,zAS]<;>omega)):((List.map prV q).length + [PV.agg [I (↑h:Int),I (zAs l (zAE l a) (zAN l a t) (↑(h-1):Int))]].length).ble zAS=true)<|ap ((by exact zBB (by simp<;>omega)):(0+q.length).beq (List.map prV q).length=true)<|ap ((zAZ (zBI (by kernel_rfl))):PV.own 2 (List.map prV q++[PV.agg [I (↑h:Int),I (zAs l (zAE l a) (zAN l a t) (↑(h-1):Int))]])=PV.own 2 (List.map prV (q++[((↑h:Int),zAs l (zAE l a) (zAN l a t) (↑(h-1):Int))]))) an)<|zAc 2<|zAa<|zAg<|zAc 1<|S_a [(1,.v (I (↑(h+1):Int)))] (ap (wrN h) an)<|zAc 1<|zAa ?_)) (fun k0=>(zAm<|zAg<|zAc 1<|S_a [(1,.v (I (↑(h+1):Int)))] (ap (wrN h) an)<|zAc 1<|zAa ?_))
  ·exact ⟨(h+1,q++[((h:Int),zAs l (zAE l a) (zAN l a t) ((h-1:Nat):Int))],zAE l (zAE l a),zAN l (zAE l a) (zAN l a t)),⟨by omega,by omega,kY,g3⟩,by simp only;omega,by kernel_rfl,by kernel_rfl⟩
  ·exact ⟨(h+1,q,zAE l a,zAN l a t),⟨by omega,by omega,ka,g2⟩,by simp only;omega,by kernel_rfl,by kernel_rfl⟩
 have wm:(h:Int)=H:=by omega
 rw [wm] at hq
 have g2:=zCG ha
 refine zAh<|zAd 4<|zAa ?_
 refine zBd ((h:Int)<H) (by omega)<|zAM 0 ?_
 refine zWO (fun (q,a,_,_)=>LkEnd q H∧zDX l a) (fun ((q:List (Int×Int)),(a:Nat),(t:Int),(x:Bool))=>[(9,.box (.agg [I H,.own 2 (q.map prV),.own 2 [],.own 1 []])),(55,.bool x),(50000000,zBV l a t)]) [] ?_ fun (q2,a2,t2,x2) ⟨kY,jd⟩=>?_
 ·have qH:FG 77 [.agg [I H,.sl (q.map prV),.sl [],.sl []],I 0,I (H-1)] (.bool (zEw ⟨H,q,[],[]⟩ 0 (H-1))):=f77 ⟨H,q,[],[]⟩ 0 (H-1) (by simp only;omega)
  have yI:=hq.fin
  have hfar:=fun hb=>LkOk.far (n:=⟨H,q,[],[]⟩) hq (by simp only;omega) hb
  simp only at hfar
  clear hq
  refine zAd 4<|zLQ 44 (H>3) (fun k0=>(zAc 1<|S_a [(6,.ret (PV.bool (decide (zAs l a t (2-1)=0))) ([zBV l (zAE l a) (zAN l a t)]))] (ap (f128 l a t (2) (by omega) (by omega)) an)<|zAc 2<|zLQ 48 (zAs l a t (2-1)=0) (fun k1=>(zAc 3<|S_a [(1,.v (I (H-1)))] (ap ((zCr rfl (by omega)):I (IntKind.i64.wrap (H-1))=I (H-1)) an)<|S_a [(6,.ob),(0,.v (prs q)),(12,.ret (PV.bool (zEw {h:=H,l:=q,n:=[],s:=[]} 0 (H-1))) [])] (ap (blz (List.map prV q))<|ap (frT prV q)<|ap qH an)<|zAc 2<|zAa<|zGb (!zEw {h:=H,l:=q,n:=[],s:=[]} 0 (H-1)) (fun k2=>(zAg<|zAc 1<|S_a [(1,.v (PV.bor 9 [(0,1)] 2 0 q.length))] (ap ((by simp):PV.bor 9 [(0,1)] 2 0 (List.map prV q).length=PV.bor 9 [(0,1)] 2 0 q.length) an)<|zAc 2<|S_a [(1,.v (I (H-1)))] (ap ((zCr rfl (by omega)):I (IntKind.i64.wrap (H-1))=I (H-1)) an)<|zAc 2<|S_a [(4,.ob),(0,.ob),(0,.yes),(2,.v (PV.own 2 (List.map prV (q++[(0,H-1)]))))] (ap ((by exact zA4 (by simp only [List.length_map,zzLn,zAS]<;>omega)):(0+q.length).ble (List.map prV q).length=true)<|ap ((by exact zA4 (by simp only [List.length_map,zzLn,zAS]<;>omega)):((List.map prV q).length + [PV.agg [I 0,I (H-1)]].length).ble zAS=true)<|ap ((by exact zBB (by simp<;>omega)):(0+q.length).beq (List.map prV q).length=true)<|ap ((zAZ (zBI (by kernel_rfl))):PV.own 2 (List.map prV q++[PV.agg [I 0,I (H-1)]])=PV.own 2 (List.map prV (q++[(0,H-1)]))) an)<|zAc 2<|zAa ?_)) (fun k2=>(zAm ?_)))) (fun k1=>(zAc 7<|zAa<|zAH<|zAm ?_)))) (fun k0=>(zAc 11<|zAa<|zAH<|zAm ?_))
  ·exact ⟨(q++[(0,H-1)],zAE l a,zAN l a t,!zEw ⟨H,q,[],[]⟩ 0 (H-1)),⟨hfar (by simpa using k2),g2⟩,by kernel_rfl,by kernel_rfl⟩
  ·exact ⟨(q,zAE l a,zAN l a t,!zEw ⟨H,q,[],[]⟩ 0 (H-1)),⟨yI,g2⟩,by kernel_rfl,by kernel_rfl⟩
  ·exact ⟨(q,zAE l a,zAN l a t,false),⟨yI,g2⟩,by kernel_rfl,by kernel_rfl⟩
  ·exact ⟨(q,a,t,false),⟨yI,ha⟩,by kernel_rfl,by kernel_rfl⟩
 have h1:=kY.len
 have g3:=zCG jd
 have s1:=zCE l a2 t2 (ns-2)
 clear hq
 refine zAd 1<|zAa<|zAh<|zAd 2<|S_a [(8,.ret (I (2+zAs l a2 t2 (ns-2))) ([zBV l (zAE l a2) (zAN l a2 t2)]))] (ap (f127 l a2 t2 (2) ns (by omega) (by omega) (by omega)) an)<|zAc 1<|zAa<|zAk 2 ?_
 have hm1:2≤2+zAs l a2 t2 (ns-2)∧2+zAs l a2 t2 (ns-2)≤ns:=by omega
 generalize 2+zAs l a2 t2 (ns-2)=m at *
 clear s1
 generalize zAN l a2 t2=T1 at *
 generalize zAE l a2=A1 at *
 refine zAy (fun (i,F,N,a,_)=>(i:Int)≤m∧NtOk F N i∧zDX l a) (fun ((i:Nat),(F:List Int),(N:List (Int×Bool)),(a:Nat),(t:Int))=>[(9,.box (.agg [I H,.own 2 (q2.map prV),.own 2 (N.map ntV),.own 1 []])),(11,.own 1 (F.map I)),(68,I (i:Nat)),(50000000,zBV l a t)]) (fun (i,_,_,_,_)=>m.toNat-i) ((0:Nat),([]:List Int),([]:List (Int×Bool)),A1,T1) ⟨by omega,⟨rfl,Nat.le_refl _,fun f hf=>absurd hf List.not_mem_nil,List.nodup_nil,fun j hj=>absurd hj (Nat.not_lt_zero j),fun j k hkj hj=>absurd hj (Nat.not_lt_zero j),fun f hf=>absurd hf List.not_mem_nil⟩,g3⟩ fun (i,F,N,a,t) ⟨him,hN,ha⟩=>?_
 have hNl:=hN.len
 have hFl:=hN.fl
 by_cases yP:(i:Int)<m
 ·have g4:=zCG ha
  have g5:=zCG g4
  have g6:=zCG g5
  have s2:=zCE l (zAE l a) (zAN l a t) ((F.length-1:Nat):Int)
  have yM:=fun b=>hN.one (b:=b)
  by_cases hF:0<F.length
  ·have hstk:=f129 l (zAE l a) (zAN l a t) ((F.length-1:Nat):Int) g4 (by omega)
   generalize zAs l (zAE l a) (zAN l a t) ((F.length-1:Nat):Int)=s at hstk s2
   obtain ⟨k,rfl⟩:∃ k:Nat,s=k:=⟨s.toNat,by omega⟩
   have hdel:=f130g F k (by omega) (by omega)
   have hmore:=fun b=>hN.more (b:=b) (k:=k) (by omega)
   have htk:(F.eraseIdx k++[0]).take (F.length-1)=F.eraseIdx k:=by
    rw [List.take_append_of_le_length (by rw [List.length_eraseIdx_of_lt (by omega)];exact Nat.le_refl _),List.take_of_length_le (by rw [List.length_eraseIdx_of_lt (by omega)];exact Nat.le_refl _)]
   have y5:(F.eraseIdx k).length=F.length-1:=List.length_eraseIdx_of_lt (by omega)
   have vd:∀ b,NtOk ((F.eraseIdx k++[0]).take (F.length-1)++[(i:Int)]) (N++[(F.getD k 0,b)]) (i+1):=fun b=>by rw [htk];exact hmore b
   clear hN
   refine zAd 1<|zAa<|zAh<|zA3 ((↑i:Int)<m) (by omega)<|zAm<|zAh<|zAk 3<|zAd 2<|zAa<|zAd 1<|zAa<|zAh<|zAd 1<|S_a [(0,.n F.length)] (ap (lnS I F) an)<|zAc 2<|zUK 74 ((↑F.length:Int)>0) (by omega) (zAc 1<|S_a [(6,.ret (PV.bool (decide (zAs l a t (3-1)=0))) ([zBV l (zAE l a) (zAN l a t)]))] (ap (f128 l a t (3) (by omega) (by omega)) an)<|zAc 2<|zAa<|zDQ (zAs l a t (3-1)=0) (fun k1=>(zAd 2<|S_a [(0,.n F.length)] (ap (lnS I F) an)<|S_a [(1,.v (I (↑(F.length-1):Int)))] (ap ((zCr (by omega) (by omega)):I (IntKind.i64.wrap ((↑F.length:Int)-1))=I (↑(F.length-1):Int)) an)<|S_a [(6,.ret (I (↑k:Int)) ([zBV l (zAE l (zAE l a)) (zAN l (zAE l a) (zAN l a t))]))] (ap hstk an)<|zAc 1<|zAa<|zAd 2<|S_a [(2,.ob),(1,.n k)] (ap ((by exact zAq (by simp only [List.length_map,zzLn]<;>omega)):decide (k<(List.map I F).length)=true)<|ap ((by simp):some (0+k)=some k) an)<|S_a [(0,.cs false ([I (F.getD k 0)]))] (ap (zCu (q:=PV.own 1 (List.map I F)) (xs:=List.map I F) (x:=I (F.getD k 0)) rfl (zCh (0) (by omega)):zAr 11 (PV.own 1 (List.map I F)) [] k 0 1=some (false,[I (F.getD k 0)])) an)<|zAc 1<|zAa<|zAg<|zAc 3<|S_a [(1,.v (I (↑(k+1):Int)))] (ap (wrN k) an)<|S_a [(7,.vs ([PV.bor 50000000 [] 1 0 F.length,I (↑k:Int),I (↑(k+1):Int)])),(0,.ret (PV.bor 50000000 [] 1 0 (F.length-1)) ([PV.own 1 (List.map I (F.eraseIdx k++[0]))]))] (ap ((by simp) : [PV.bor 50000000 [] 1 0 (List.map I F).length,I (↑k:Int),I (↑(k+1):Int)]=[PV.bor 50000000 [] 1 0 F.length,I (↑k:Int),I (↑(k+1):Int)])<|ap hdel an)<|S_a [(1,.ob),(0,.v (PV.own 1 (List.map I (List.take (F.length-1) (F.eraseIdx k++[0])))))] (ap ((by exact zA4 (by simp only [List.length_map,zzLn,zAS]<;>omega)):(0+(F.length-1)).ble (List.map I (F.eraseIdx k++[0])).length=true)<|ap ((by simp):PV.own 1 (List.take (F.length-1) (List.drop 0 (List.map I (F.eraseIdx k++[0]))))=PV.own 1 (List.map I (List.take (F.length-1) (F.eraseIdx k++[0])))) an)<|zAa<|zAd 3<|S_a [(4,.ob),(0,.ob),(0,.yes),(2,.v (PV.own 1 (List.map I (List.take (F.length-1) (F.eraseIdx k++[0])++[(↑i:Int)]))))] (ap (blz (List.map I (List.take (F.length-1) (F.eraseIdx k++[0]))))<|ap ((by exact zA4 (by simp [zAS]<;>omega)):((List.map I (List.take (F.length-1) (F.eraseIdx k++[0]))).length + [I (↑i:Int)].length).ble zAS=true)<|ap ((by exact zBB (by simp<;>omega)):(0+(List.map I (List.take (F.length-1) (F.eraseIdx k++[0]))).length).beq (List.map I (List.take (F.length-1) (F.eraseIdx k++[0]))).length=true)<|ap ((zAZ (zBI (by kernel_rfl))):PV.own 1 (List.map I (List.take (F.length-1) (F.eraseIdx k++[0]))++[I (↑i:Int)])=PV.own 1 (List.map I (List.take (F.length-1) (F.eraseIdx k++[0])++[(↑i:Int)]))) an)<|zAc 1<|zAa<|zAg<|zAc 1<|S_a [(1,.v (PV.bor 9 [(0,2)] 2 0 N.length))] (ap ((by simp):PV.bor 9 [(0,2)] 2 0 (List.map ntV N).length=PV.bor 9 [(0,2)] 2 0 N.length) an)<|zAc 2<|S_a [(6,.ret (PV.bool (decide (zAs l (zAE l (zAE l a)) (zAN l (zAE l a) (zAN l a t)) (3-1)=0))) ([zBV l (zAE l (zAE l (zAE l a))) (zAN l (zAE l (zAE l a)) (zAN l (zAE l a) (zAN l a t)))]))] (ap (f128 l (zAE l (zAE l a)) (zAN l (zAE l a) (zAN l a t)) (3) (by omega) (by omega)) an)<|zAc 2<|S_a [(4,.ob),(0,.ob),(0,.yes),(2,.v (PV.own 2 (List.map ntV (N++[(F.getD k 0,decide (zAs l (zAE l (zAE l a)) (zAN l (zAE l a) (zAN l a t)) (3-1)=0))]))))] (ap ((by exact zA4 (by simp only [List.length_map,zzLn,zAS]<;>omega)):(0+N.length).ble (List.map ntV N).length=true)<|ap ((by exact zA4 (by simp only [List.length_map,zzLn,zAS]<;>omega)):((List.map ntV N).length + [PV.agg [I (F.getD k 0),PV.bool (decide (zAs l (zAE l (zAE l a)) (zAN l (zAE l a) (zAN l a t)) (3-1)=0))]].length).ble zAS=true)<|ap ((by exact zBB (by simp<;>omega)):(0+N.length).beq (List.map ntV N).length=true)<|ap ((zAZ (zBI (by kernel_rfl))):PV.own 2 (List.map ntV N++[PV.agg [I (F.getD k 0),PV.bool (decide (zAs l (zAE l (zAE l a)) (zAN l (zAE l a) (zAN l a t)) (3-1)=0))]])=PV.own 2 (List.map ntV (N++[(F.getD k 0,decide (zAs l (zAE l (zAE l a)) (zAN l (zAE l a) (zAN l a t)) (3-1)=0))]))) an)<|zAc 2<|zAa<|zAg<|S_a [(1,.v (I (↑(i+1):Int)))] (ap (wrN i) an)<|zAc 1<|zAa ?_)) (fun k1=>(zAm<|zAd 3<|S_a [(4,.ob),(0,.ob),(0,.yes),(2,.v (PV.own 1 (List.map I (F++[(↑i:Int)]))))] (ap (blz (List.map I F))<|ap ((by exact zA4 (by simp only [List.length_map,zzLn,zAS]<;>omega)):((List.map I F).length + [I (↑i:Int)].length).ble zAS=true)<|ap ((by exact zBB (by simp<;>omega)):(0+(List.map I F).length).beq (List.map I F).length=true)<|ap ((zAZ (zBI (by kernel_rfl))):PV.own 1 (List.map I F++[I (↑i:Int)])=PV.own 1 (List.map I (F++[(↑i:Int)]))) an)<|zAc 1<|zAa<|zAg<|zAc 1<|S_a [(1,.v (PV.bor 9 [(0,2)] 2 0 N.length))] (ap ((by simp):PV.bor 9 [(0,2)] 2 0 (List.map ntV N).length=PV.bor 9 [(0,2)] 2 0 N.length) an)<|zAc 2<|S_a [(6,.ret (PV.bool (decide (zAs l (zAE l a) (zAN l a t) (3-1)=0))) ([zBV l (zAE l (zAE l a)) (zAN l (zAE l a) (zAN l a t))]))] (ap (f128 l (zAE l a) (zAN l a t) (3) (by omega) (by omega)) an)<|zAc 2<|S_a [(4,.ob),(0,.ob),(0,.yes),(2,.v (PV.own 2 (List.map ntV (N++[(-1,decide (zAs l (zAE l a) (zAN l a t) (3-1)=0))]))))] (ap ((by exact zA4 (by simp only [List.length_map,zzLn,zAS]<;>omega)):(0+N.length).ble (List.map ntV N).length=true)<|ap ((by exact zA4 (by simp only [List.length_map,zzLn,zAS]<;>omega)):((List.map ntV N).length + [PV.agg [I (-1),PV.bool (decide (zAs l (zAE l a) (zAN l a t) (3-1)=0))]].length).ble zAS=true)<|ap ((by exact zBB (by simp<;>omega)):(0+N.length).beq (List.map ntV N).length=true)<|ap ((zAZ (zBI (by kernel_rfl))):PV.own 2 (List.map ntV N++[PV.agg [I (-1),PV.bool (decide (zAs l (zAE l a) (zAN l a t) (3-1)=0))]])=PV.own 2 (List.map ntV (N++[(-1,decide (zAs l (zAE l a) (zAN l a t) (3-1)=0))]))) an)<|zAc 2<|zAa<|zAg<|S_a [(1,.v (I (↑(i+1):Int)))] (ap (wrN i) an)<|zAc 1<|zAa ?_)))
   ·exact ⟨(i+1,(F.eraseIdx k++[0]).take (F.length-1)++[(i:Int)],N++[(F.getD k 0,decide (zAs l (zAE l (zAE l a)) (zAN l (zAE l a) (zAN l a t)) (3-1)=0))],zAE l (zAE l (zAE l a)),zAN l (zAE l (zAE l a)) (zAN l (zAE l a) (zAN l a t))),⟨by omega,vd _,g6⟩,by simp only;omega,by kernel_rfl,by kernel_rfl⟩
   ·exact ⟨(i+1,F++[(i:Int)],N++[(-1,decide (zAs l (zAE l a) (zAN l a t) (3-1)=0))],zAE l (zAE l a),zAN l (zAE l a) (zAN l a t)),⟨by omega,yM _,g5⟩,by simp only;omega,by kernel_rfl,by kernel_rfl⟩
  ·clear hN
   refine zAd 1<|zAa<|zAh<|zA3 ((↑i:Int)<m) (by omega)<|zAm<|zAh<|zAk 3<|zAd 2<|zAa<|zAd 1<|zAa<|zAh<|zAd 1<|S_a [(0,.n F.length)] (ap (lnS I F) an)<|zAc 2<|zWC 74 ((↑F.length:Int)>0) (by omega) (zAc 4<|zAa<|zAH<|zAm<|zAd 3<|S_a [(4,.ob),(0,.ob),(0,.yes),(2,.v (PV.own 1 (List.map I (F++[(↑i:Int)]))))] (ap (blz (List.map I F))<|ap ((by exact zA4 (by simp only [List.length_map,zzLn,zAS]<;>omega)):((List.map I F).length + [I (↑i:Int)].length).ble zAS=true)<|ap ((by exact zBB (by simp<;>omega)):(0+(List.map I F).length).beq (List.map I F).length=true)<|ap ((zAZ (zBI (by kernel_rfl))):PV.own 1 (List.map I F++[I (↑i:Int)])=PV.own 1 (List.map I (F++[(↑i:Int)]))) an)<|zAc 1<|zAa<|zAg<|zAc 1<|S_a [(1,.v (PV.bor 9 [(0,2)] 2 0 N.length))] (ap ((by simp):PV.bor 9 [(0,2)] 2 0 (List.map ntV N).length=PV.bor 9 [(0,2)] 2 0 N.length) an)<|zAc 2<|S_a [(6,.ret (PV.bool (decide (zAs l a t (3-1)=0))) ([zBV l (zAE l a) (zAN l a t)]))] (ap (f128 l a t (3) (by omega) (by omega)) an)<|zAc 2<|S_a [(4,.ob),(0,.ob),(0,.yes),(2,.v (PV.own 2 (List.map ntV (N++[(-1,decide (zAs l a t (3-1)=0))]))))] (ap ((by exact zA4 (by simp only [List.length_map,zzLn,zAS]<;>omega)):(0+N.length).ble (List.map ntV N).length=true)<|ap ((by exact zA4 (by simp only [List.length_map,zzLn,zAS]<;>omega)):((List.map ntV N).length + [PV.agg [I (-1),PV.bool (decide (zAs l a t (3-1)=0))]].length).ble zAS=true)<|ap ((by exact zBB (by simp<;>omega)):(0+N.length).beq (List.map ntV N).length=true)<|ap ((zAZ (zBI (by kernel_rfl))):PV.own 2 (List.map ntV N++[PV.agg [I (-1),PV.bool (decide (zAs l a t (3-1)=0))]])=PV.own 2 (List.map ntV (N++[(-1,decide (zAs l a t (3-1)=0))]))) an)<|zAc 2<|zAa<|zAg<|S_a [(1,.v (I (↑(i+1):Int)))] (ap (wrN i) an)<|zAc 1<|zAa ?_)
   exact ⟨(i+1,F++[(i:Int)],N++[(-1,decide (zAs l a t (3-1)=0))],zAE l a,zAN l a t),⟨by omega,yM _,g4⟩,by simp only;omega,by kernel_rfl,by kernel_rfl⟩
 have him2:(i:Int)=m:=by omega
 have g4:=zCG ha
 have s1:=zCE l a t (ss-1)
 refine zAd 1<|zAa<|zAh<|zBd ((↑i:Int)<m) (by omega)<|zAM 2<|zAh<|zAd 2<|S_a [(8,.ret (I (1+zAs l a t (ss-1))) ([zBV l (zAE l a) (zAN l a t)]))] (ap (f127 l a t (1) ss (by omega) (by omega) (by omega)) an)<|zAc 1<|zAa<|zAk 4 ?_
 have gg:1≤1+zAs l a t (ss-1)∧1+zAs l a t (ss-1)≤ss:=by omega
 generalize 1+zAs l a t (ss-1)=M at *
 clear s1
 generalize zAN l a t=T2 at *
 generalize zAE l a=A2 at *
 refine zAy (fun (s,S,a,_)=>(s:Int)≤M∧S.length=s∧(∀ r∈S,RwOk r H.toNat)∧zDX l a) (fun ((s:Nat),(S:List (List Int)),(a:Nat),(t:Int))=>[(9,.box (.agg [I H,.own 2 (q2.map prV),.own 2 (N.map ntV),.own 1 (S.map zBl)])),(110,I (s:Nat)),(50000000,zBV l a t)]) (fun (s,_,_,_)=>M.toNat-s) ((0:Nat),([]:List (List Int)),A2,T2) ⟨by omega,rfl,fun r hr=>absurd hr List.not_mem_nil,g4⟩ fun (s,S,a3,t3) ⟨hsM,vC,hS,ha3⟩=>?_
 by_cases jP:(s:Int)<M
 ·refine zAd 1<|zAa<|zAh<|zA3 ((↑s:Int)<M) (by omega)<|zAm<|zAh<|zAk 5<|zAd 1<|zAa<|zAh<|zAd 3<|zAa<|zAk 6 ?_
  refine zAy (fun (j,r,a,_)=>(j:Int)≤H∧RwOk r j∧zDX l a) (fun ((j:Nat),(r:List Int),(a:Nat),(t:Int))=>[(15,.own 1 (r.map I)),(114,I (j:Nat)),(50000000,zBV l a t)]) (fun (j,_,_,_)=>H.toNat-j) ((0:Nat),([]:List Int),a3,t3) ⟨by omega,⟨fun x hx=>absurd hx List.not_mem_nil,rfl,Nat.le_refl _⟩,ha3⟩ fun (j,r,a4,t4) ⟨hjH,hr,ha4⟩=>?_
  have hrl:=hr.len
  by_cases jQ:(j:Int)<H
  ·have g5:=zCG ha4
   have gO:=hr.skip
   have wj:=hr.snoc
   clear hr
   refine zAd 1<|zAa<|zAh<|zA3 ((↑j:Int)<H) (by omega)<|zAm<|zAh<|zAk 7<|zAd 2<|zAa<|zAd 1<|S_a [(6,.ret (PV.bool (decide (zAs l a4 t4 (3-1)=0))) ([zBV l (zAE l a4) (zAN l a4 t4)]))] (ap (f128 l a4 t4 (3) (by omega) (by omega)) an)<|zAa<|zDn (zAs l a4 t4 (3-1)=0) (fun k0=>(zAg<|zAc 3<|S_a [(4,.ob),(0,.ob),(0,.yes),(2,.v (PV.own 1 (List.map I (r++[(↑j:Int)]))))] (ap (blz (List.map I r))<|ap ((by exact zA4 (by simp only [List.length_map,zzLn,zAS]<;>omega)):((List.map I r).length + [I (↑j:Int)].length).ble zAS=true)<|ap ((by exact zBB (by simp<;>omega)):(0+(List.map I r).length).beq (List.map I r).length=true)<|ap ((zAZ (zBI (by kernel_rfl))):PV.own 1 (List.map I r++[I (↑j:Int)])=PV.own 1 (List.map I (r++[(↑j:Int)]))) an)<|zAc 1<|zAa<|zAg<|S_a [(1,.v (I (↑(j+1):Int)))] (ap (wrN j) an)<|zAc 1<|zAa ?_)) (fun k0=>(zAm<|zAg<|S_a [(1,.v (I (↑(j+1):Int)))] (ap (wrN j) an)<|zAc 1<|zAa ?_))
   ·exact ⟨(j+1,r++[(j:Int)],zAE l a4,zAN l a4 t4),⟨by omega,wj,g5⟩,by simp only;omega,by kernel_rfl,by kernel_rfl⟩
   ·exact ⟨(j+1,r,zAE l a4,zAN l a4 t4),⟨by omega,gO,g5⟩,by simp only;omega,by kernel_rfl,by kernel_rfl⟩
  ·have hje:j=H.toNat:=by omega
   rw [hje] at hr
   have hS2:∀ x∈S++[r],RwOk x H.toNat:=fun x hx=>by
    rcases List.mem_append.1 hx with hx | hx
    ·exact hS x hx
    ·rw [List.mem_singleton] at hx;subst hx;exact hr
   refine zAd 1<|zAa<|zAh<|zBd ((↑j:Int)<H) (by omega)<|zAM 6<|zAg<|zAc 1<|S_a [(1,.v (PV.bor 9 [(0,3)] 1 0 S.length))] (ap ((by simp):PV.bor 9 [(0,3)] 1 0 (List.map zBl S).length=PV.bor 9 [(0,3)] 1 0 S.length) an)<|zAc 1<|S_a [(2,.yes)] (ap ((by exact zBB (by simp<;>omega)):(Nat.beq 0 0&&(List.map I r).length.beq (List.map I r).length)=true) an)<|S_a [(4,.ob),(0,.ob),(0,.yes),(2,.v (PV.own 1 (List.map zBl (S++[r]))))] (ap ((by exact zA4 (by simp only [List.length_map,zzLn,zAS]<;>omega)):(0+S.length).ble (List.map zBl S).length=true)<|ap ((by exact zA4 (by simp only [List.length_map,zzLn,zAS]<;>omega)):((List.map zBl S).length + [PV.own 1 (List.map I r)].length).ble zAS=true)<|ap ((by exact zBB (by simp<;>omega)):(0+S.length).beq (List.map zBl S).length=true)<|ap ((zAZ (zBI (by kernel_rfl))):PV.own 1 (List.map zBl S++[PV.own 1 (List.map I r)])=PV.own 1 (List.map zBl (S++[r]))) an)<|zAc 2<|zAa<|zAg<|S_a [(1,.v (I (↑(s+1):Int)))] (ap (wrN s) an)<|zAc 1<|zAa ?_
   exact ⟨(s+1,S++[r],a4,t4),⟨by omega,by rw [List.length_append,vC];rfl,hS2,ha4⟩,by simp only;omega,by kernel_rfl,by kernel_rfl⟩
 ·have kE:=zVn (H:=H) (q:=q2) (F:=F) (N:=N) (S:=S) (m:=i) (by omega) kY hN (by omega) hS (by omega)
  refine zAd 1<|zAa<|zAh<|zBd ((↑s:Int)<M) (by omega)<|zAM 4<|zAd 1<|S_a [(4,.yes),(2,.yes),(2,.yes)] (ap ((by exact zBB (by simp<;>omega)):(Nat.beq 0 0&&(List.map prV q2).length.beq (List.map prV q2).length)=true)<|ap ((by exact zBB (by simp<;>omega)):(Nat.beq 0 0&&(List.map ntV N).length.beq (List.map ntV N).length)=true)<|ap ((by exact zBB (by simp<;>omega)):(Nat.beq 0 0&&(List.map zBl S).length.beq (List.map zBl S).length)=true) an)<|zAa<|zAn<|E_q [(4,.yes),(1,.v (PV.own 2 (List.map prV q2))),(1,.yes),(1,.v (PV.own 2 (List.map ntV N))),(1,.yes),(1,.v (PV.own 1 (List.map zBl S)))] (ap (blz (List.map prV q2))<|ap ((zAZ zBe):PV.own 2 (List.take (List.map prV q2).length (List.drop 0 (List.map prV q2)))=PV.own 2 (List.map prV q2))<|ap (blz (List.map ntV N))<|ap ((zAZ zBe):PV.own 2 (List.take (List.map ntV N).length (List.drop 0 (List.map ntV N)))=PV.own 2 (List.map ntV N))<|ap (blz (List.map zBl S))<|ap ((zAZ zBe):PV.own 1 (List.take (List.map zBl S).length (List.drop 0 (List.map zBl S)))=PV.own 1 (List.map zBl S)) an) (PV.agg [I H,PV.own 2 (List.map prV q2),PV.own 2 (List.map ntV N),PV.own 1 (List.map zBl S)]) ([(PV.agg [PV.sl (List.map u8 l),I (↑a3:Int),PV.int IntKind.u32 t3]).box]) ?_
  exact ⟨⟨H,q2,N,S⟩,a3,t3,rfl,rfl,kE,by simp only;omega,by simp only;omega,by simp only;omega,ha3⟩
end
end Go.Eng
set_option maxRecDepth 10000
set_option maxHeartbeats 4000000
namespace Go.Eng
open Go Go.Proofs
section
variable [Yo]
theorem f50_ex (n:Nw) (l:List Int) (a:Nat) (t most:Int) (ho:NwOk n) (h:zDX l a) (hm:0≤most∧most≤16):∃ v h',zAo Tryz.prog zCD 50 [zPA,nwV n,I most] [zBV l a t] v h'∧∃ (cs:List (Int×Int)) (a':Nat) (t':Int),v = .own 2 (cs.map prV)∧h'=[zBV l a' t']∧(cs.length:Int)≤most∧(∀ c∈cs,(0≤c.1∧c.1<n.n.length)∧(0≤c.2∧c.2<n.s.length))∧zDX l a':=by
 have vD:=ho.nl
 have hs6:=ho.sl
 have g1:=zCG h
 have s1:=zCE l a t most
 refine zMi Tryz.f50 _ ?_
 refine zAd 2<|zAa<|zAd 1<|zAa<|zAh<|zAd 2<|S_a [(6,.ret (I (zAs l a t most)) ([zBV l (zAE l a) (zAN l a t)]))] (ap (f129 l a t most (by omega) (by omega)) an)<|zAc 1<|zAa<|zAk 0 ?_
 have gg:0≤zAs l a t most∧zAs l a t most≤most:=by omega
 generalize zAs l a t most=M at *
 clear s1
 generalize zAN l a t=T0 at *
 generalize zAE l a=A0 at *
 refine zAy (fun (i,q,a,_)=>(i:Int)≤M∧q.length=i∧(∀ c∈q,(0≤c.1∧c.1<n.n.length)∧(0≤c.2∧c.2<n.s.length))∧zDX l a) (fun ((i:Nat),(q:List (Int×Int)),(a:Nat),(t:Int))=>[(7,.own 2 (q.map prV)),(11,I (i:Nat)),(50000000,zBV l a t)]) (fun (i,_,_,_)=>M.toNat-i) ((0:Nat),([]:List (Int×Int)),A0,T0) ⟨by omega,rfl,fun c hc=>absurd hc List.not_mem_nil,g1⟩ fun (i,q,a,t) ⟨hiM,wh,hq,ha⟩=>?_
 by_cases yP:(i:Int)<M
 ·have g2:=zCG ha
  have g3:=zCG g2
  have s2:=zCE l a t ((n.n.length-1:Nat):Int)
  have s3:=zCE l (zAE l a) (zAN l a t) ((n.s.length-1:Nat):Int)
  have kY:∀ c∈q++[(zAs l a t ((n.n.length-1:Nat):Int),zAs l (zAE l a) (zAN l a t) ((n.s.length-1:Nat):Int))],(0≤c.1∧c.1<n.n.length)∧(0≤c.2∧c.2<n.s.length):=fun c hc=>by
   rcases List.mem_append.1 hc with hc | hc
   ·exact hq c hc
   ·rw [List.mem_singleton] at hc;subst hc;simp only;omega
  clear hq
  refine zAd 1<|zAa<|zAh<|zA3 ((↑i:Int)<M) (by omega)<|zAm<|zAh<|zAk 1<|zAg<|zAc 4<|S_a [(0,.n n.n.length)] (ap (lnS ntV n.n) an)<|S_a [(1,.v (I (↑(n.n.length-1):Int)))] (ap ((zCr (by omega) (by omega)):I (IntKind.i64.wrap ((↑n.n.length:Int)-1))=I (↑(n.n.length-1):Int)) an)<|S_a [(6,.ret (I (zAs l a t (↑(n.n.length-1):Int))) ([zBV l (zAE l a) (zAN l a t)]))] (ap (f129 l a t ((↑(n.n.length-1):Int)) (by omega) (by omega)) an)<|zAc 3<|S_a [(0,.n n.s.length)] (ap (lnS zA5 n.s) an)<|S_a [(1,.v (I (↑(n.s.length-1):Int)))] (ap ((zCr (by omega) (by omega)):I (IntKind.i64.wrap ((↑n.s.length:Int)-1))=I (↑(n.s.length-1):Int)) an)<|S_a [(6,.ret (I (zAs l (zAE l a) (zAN l a t) (↑(n.s.length-1):Int))) ([zBV l (zAE l (zAE l a)) (zAN l (zAE l a) (zAN l a t))]))] (ap (f129 l (zAE l a) (zAN l a t) ((↑(n.s.length-1):Int)) (by omega) (by omega)) an)<|zAc 2<|S_a [(4,.ob),(0,.ob),(0,.yes),(2,.v (PV.own 2 (List.map prV (q++[(zAs l a t (↑(n.n.length-1):Int),zAs l (zAE l a) (zAN l a t) (↑(n.s.length-1):Int))]))))] (ap (blz (List.map prV q))<|ap ((by exact zA4 (by simp only [List.length_map,zzLn,zAS]<;>omega)):((List.map prV q).length + [PV.agg [I (zAs l a t (↑(n.n.length-1):Int)),I (zAs l (zAE l a) (zAN l a t) (↑(n.s.length-1):Int))]].length).ble zAS=true)<|ap ((by exact zBB (by simp<;>omega)):(0+(List.map prV q).length).beq (List.map prV q).length=true)<|ap ((zAZ (zBI (by kernel_rfl))):PV.own 2 (List.map prV q++[PV.agg [I (zAs l a t (↑(n.n.length-1):Int)),I (zAs l (zAE l a) (zAN l a t) (↑(n.s.length-1):Int))]])=PV.own 2 (List.map prV (q++[(zAs l a t (↑(n.n.length-1):Int),zAs l (zAE l a) (zAN l a t) (↑(n.s.length-1):Int))]))) an)<|zAc 1<|zAa<|zAg<|S_a [(1,.v (I (↑(i+1):Int)))] (ap (wrN i) an)<|zAc 1<|zAa ?_
  exact ⟨(i+1,q++[(zAs l a t ((n.n.length-1:Nat):Int),zAs l (zAE l a) (zAN l a t) ((n.s.length-1:Nat):Int))],zAE l (zAE l a),zAN l (zAE l a) (zAN l a t)),⟨by omega,by rw [List.length_append,wh];rfl,kY,g3⟩,by simp only;omega,by kernel_rfl,by kernel_rfl⟩
 ·refine zAd 1<|zAa<|zAh<|zBd ((↑i:Int)<M) (by omega)<|zAM 0<|zAd 1<|S_a [(2,.yes)] (ap ((by exact zBB (by simp<;>omega)):(Nat.beq 0 0&&(List.map prV q).length.beq (List.map prV q).length)=true) an)<|zAa<|zAn<|E_q [(1,.yes),(1,.v (PV.own 2 (List.map prV q)))] (ap (blz (List.map prV q))<|ap ((zAZ zBe):PV.own 2 (List.take (List.map prV q).length (List.drop 0 (List.map prV q)))=PV.own 2 (List.map prV q)) an) (PV.own 2 (List.map prV q)) ([(PV.agg [PV.sl (List.map u8 l),I (↑a:Int),PV.int IntKind.u32 t]).box]) ?_
  exact ⟨q,a,t,rfl,rfl,by omega,hq,ha⟩
end
end Go.Eng
set_option maxRecDepth 10000
set_option maxHeartbeats 4000000
namespace Go.Eng
open Go Go.Proofs
end Go.Eng
set_option maxRecDepth 100000
set_option maxHeartbeats 4000000
namespace Go.Eng
open Go Go.Proofs
def zDV:Nw:=⟨4,[(0,1),(1,2),(2,3)],[(-1,false),(0,true)],[[0],[0,3]]⟩
def zFl:List (Int×Int):=[(0,1),(1,0)]
def zIM:List (Int×Int):=[(2,0),(3,0)]
theorem zUj:NwOk zDV:=zU8 (by decide +kernel)
theorem zKe:CrOk zDV zFl:=zWh (by decide +kernel)
theorem zOA:zB2 zDV (zBc zDV zFl (1:Int).toNat)=zIM:=by decide +kernel
theorem zVC:OffOk zDV zFl 1 [0,1]:=⟨by decide +kernel,zSR (by decide +kernel),by decide,by decide⟩
theorem zW8:zIB zDV (zBc zDV (zFl++[(1,0)]) (1:Int).toNat) zIM=[]:=by decide +kernel
theorem zXg:zIB zDV (zBc zDV (zFl++[(1,1)]) (1:Int).toNat) zIM=zIM:=by decide +kernel
def zZ4:List (PV×PV):=[(.agg [I 1,I 0],.sl []),(.agg [I 1,I 1],.sl (zIM.map prV))]
abbrev zSB:List PV:=[.addr 50000000 [] 0 0 none,.addr 50000001 [] 0 0 none,.addr 50000002 [] 0 0 none,.addr 50000003 [] 0 0 none,.addr 50000004 [] 0 0 none]
abbrev zQM (b:Bool) (l:List PV):List PV:=[.box (.bool b),.box (.own 2 l),.box (.own 2 [prV (1,0),prV (1,1)]),.box (.omap [(prV (1,0),.sl []),(prV (1,1),prs zIM)]),.box (.func 187 [] zSB)]
theorem zPm:zAo Tryz.prog zCD 187 (.nils 0::prs zIM::zSB) (zQM false []) (.tup []) (zQM true [prV (1,1)]):=zAo.closed 60
theorem zQg:FG 134 [zDT zDV zFl,.agg [zZp zDV zFl 1 zIM],prs zIM,I 0,zA5 [0,1]] (.tup [.own 2 [.agg [I 1,I 1]],.bool true]):=by
 have h0:FG 173 [.agg [I 1,I 0],.ref (zDT zDV zFl),.ref (prs zIM),.ref (I 1)] (.sl []):=by
  have:=f173 zDV zFl zIM 1 (1,0) zKe.w (by decide) (by decide) (by decide) (by decide) (by decide)
  rw [zW8] at this;exact this
 have h1:FG 173 [.agg [I 1,I 1],.ref (zDT zDV zFl),.ref (prs zIM),.ref (I 1)] (.sl (zIM.map prV)):=by
  have:=f173 zDV zFl zIM 1 (1,1) zKe.w (by decide) (by decide) (by decide) (by decide) (by decide)
  rw [zXg] at this;exact this
 refine zAe Tryz.f134 ?_
 refine zAd 3<|zAa<|zAd 3<|zAa<|zAd 1<|zAa<|zAh<|zAd 1<|zAc 1<|zAc 1<|zAa<|zAk 0 ?_
 refine zAy (fun j=>j≤2) (fun (j:Nat)=>[(12,.box (.omap (zZ4.take j))),(13,.box (.own 2 (([(1,0),(1,1)]:List (Int×Int)).take j |>.map prV))),(23,I (j:Nat))]) (fun j=>2-j) (0:Nat) (by omega) fun j hj=>?_
 have hj3:j=0∨j=1∨j=2:=by omega
 rcases hj3 with e | e | e
 ·subst e
  refine zAd 1<|zAa<|zAh<|zDW<|zAm<|zAh<|zAk 1<|zAd 3<|zAa<|zAd 10<|zAa<|zAg<|zAc 2<|zAc 1<|zAc 6<|S_a [(9,.ret (PV.sl []) [])] (ap h0 an)<|zAc 4<|zAa<|zAg<|zAc 2<|zAa ?_
  exact ⟨1,by omega,by omega,by kernel_rfl,by kernel_rfl⟩
 ·subst e
  refine zAd 1<|zAa<|zAh<|zDW<|zAm<|zAh<|zAk 1<|zAd 3<|zAa<|zAd 10<|zAa<|zAg<|zAc 2<|zAc 1<|zAc 6<|S_a [(9,.ret (prs zIM) [])] (ap h1 an)<|zAc 4<|zAa<|zAg<|zAc 2<|zAa ?_
  exact ⟨2,by omega,by omega,by kernel_rfl,by kernel_rfl⟩
 ·subst e
  have yd:=zPm
  refine zAd 1<|zAa<|zAh<|zAH<|zAM 0<|zAd 1<|zAa<|zAd 2<|zAa<|zAd 1<|zAa<|zAd 2<|zAa<|zAd 2<|S_a [(8,.ret (PV.tup []) (zQM true [prV (1,1)]))] (ap yd an)<|zAa<|zAd 1<|zAc 1<|zAc 1<|zAc 1<|zAa<|zAn<|E_a [] an (PV.tup [PV.own 2 [PV.agg [I (1,1).fst,I (1,1).snd]],PV.bool true]) [] rfl rfl
theorem zPw:FG 57 [nwV zDV,prs zFl,I 1,zA5 [0,1]] (.tup [.own 2 [.agg [I 1,I 1]],I 0]):=by
 have ho:=f121_1 zDV zFl 1 [0,1] zVC (by decide)
 rw [zOA] at ho
 have hof:FG 135 [zDT zDV zFl,prs zIM,I 0] (.own 2 (zIM.map prV)):=by
  have:=f135 zDV zFl zIM 0 zUj (by decide) (by decide)
  rwa [show ofL zDV 0 zIM=zIM from by decide +kernel] at this
 have hc:=zQg
 refine zAe Tryz.f57 ?_
 refine zAd 3<|zAa<|zAd 4<|S_a [(12,.ret (PV.tup [zDT zDV zFl,prs zIM,PV.agg [zZp zDV zFl 1 zIM],I 0]) [])] (ap ho an)<|zAc 10<|zAa<|zAh<|zAd 2<|zAa<|zAH<|zAm<|zAd 1<|zAa<|zAh<|zAd 2<|zAc 1<|zAc 1<|zAa<|zAk 0 ?_
 refine zAy (fun j=>j≤2) (fun (j:Nat)=>[(14,.own 2 (([(1,1)]:List (Int×Int)).take j |>.map prV)),(34,I (j:Nat))]) (fun j=>2-j) (0:Nat) (by omega) fun j hj=>?_
 have hj3:j=0∨j=1∨j=2:=by omega
 rcases hj3 with e | e | e
 ·subst e
  refine zAd 1<|zAa<|zAh<|zDW<|zAm<|zAh<|zAk 1<|zAd 2<|zAa<|zAh<|zAd 8<|zAa<|zAH<|zAm<|zAd 5<|S_a [(9,.ret (PV.own 2 (List.map prV zIM)) [])] (ap hof an)<|zAc 2<|S_a [(14,.ret (PV.tup [PV.own 2 [PV.agg [I 1,I 1]],PV.bool true]) [])] (ap hc an)<|zAc 5<|zAa<|zAh<|zAd 2<|zAa<|zAH<|zAm<|zAg<|zAc 4<|zAa<|zAg<|zAc 2<|zAa ?_
  exact ⟨1,by omega,by omega,by kernel_rfl,by kernel_rfl⟩
 ·subst e
  refine zAd 1<|zAa<|zAh<|zDW<|zAm<|zAh<|zAk 1<|zAd 2<|zAa<|zAh<|zAd 8<|zAa<|zDW<|zAM 1<|zAg<|zAc 2<|zAa ?_
  exact ⟨2,by omega,by omega,by kernel_rfl,by kernel_rfl⟩
 ·subst e
  refine zAd 1<|zAa<|zAh<|zAH<|zAM 0<|zAd 3<|zAa<|zAn<|E_a [] an (PV.tup [PV.own 2 [PV.agg [I (1,1).fst,I (1,1).snd]],I 0]) [] rfl rfl
end Go.Eng
set_option maxRecDepth 10000
set_option maxHeartbeats 4000000
namespace Go.Eng
open Go Go.Proofs
theorem f38_2 (n:Nw) (cs:List (Int×Int)) (h:Int) (x:Int) (ho:CrOk n cs) (hh:0≤h∧h<n.h) (hx:0≤x∧x<n.n.length) (hm:∀ j,j≤12→(zBc n cs j).getD (h.toNat*8+((zAi n).getD x.toNat 0).toNat) 0≠x):FG 38 [nwV n,prs cs,I h,I x] (.tup [.own 1 [],I 6]):=by
 have hn:=ho.nw
 have uj:=ho.w
 have hb:=hn.h
 have vD:=hn.nl
 have hin:inB x 0 (n.n.length-1)=true:=by simp only [inB,Bool.and_eq_true,decide_eq_true_eq];omega
 have hih:inB h 0 (n.h-1)=true:=by simp only [inB,Bool.and_eq_true,decide_eq_true_eq];omega
 have hfb:=zBM hn x.toNat (by omega)
 refine zAe Tryz.f38 ?_
 refine zAd 4<|zAa<|zAd 2<|S_a [(8,.ret (PV.tup [zDT n cs,I 0]) [])] (ap (f99_1 n cs (by omega)) an)<|zAc 5<|zAa<|zAh<|zAk 0<|zAd 3<|zAa<|zAH<|zAd 2<|S_a [(8,.ret (PV.bool (inB h 0 (n.h-1))) [])] (ap (f109 n h (by omega)) an)<|zAc 2<|zGh 32 (!inB h 0 (n.h-1)) (fun k0=>(zAc 6<|zAa<|zDW<|zAd 2<|zAa<|zAn<|E_a [] an (PV.tup [PV.own 1 [],I 1]) [] ?_ rfl)) (fun k0=>(zAc 2<|S_a [(8,.ret (PV.bool (inB x 0 ((↑n.n.length:Int)-1))) [])] (ap (f106 n x (by first | omega | (simp<;>omega))) an)<|zAc 3<|zAa<|zGb (!inB x 0 ((↑n.n.length:Int)-1)) (fun k1=>(zAd 2<|zAa<|zAn<|E_a [] an (PV.tup [PV.own 1 [],I 1]) [] ?_ rfl)) (fun k1=>(zAm<|zAd 4<|S_a [(0,.ob),(1,.ob),(0,.v ((I ((zAi n).getD x.toNat 0)).ref))] (ap ((by exact zAq (by omega)):decide (0≤x)=true)<|ap ((by exact zAq (by omega)):decide (x.toNat<8)=true)<|ap (zGq (F:=zAi n) (m:=8) (j:=x.toNat) (by omega):zCo (PV.agg (zAX (zAi n) 8)).ref (x.toNat*(fun x=>x.size) Tryz.prog.types[3]) none=some (I ((zAi n).getD x.toNat 0)).ref) an)<|zAc 3<|zAa<|zAd 1<|S_a [(5,.ret (hdV (zLN n cs)) [])] (ap (f100 n cs (by omega)) an)<|zAc 3<|zAa<|zAh<|zAk 1 ?_))))
 ·exact absurd (by assumption:(!inB h 0 (n.h-1))=true) (by rw [hih];simp)
 ·exact absurd (by assumption:(!inB x 0 (n.n.length-1))=true) (by rw [hin];simp)
 ·generalize hc:((zAi n).getD x.toNat 0)=c at *
  refine zAy (fun (j,S)=>j≤12∧S=zRm n cs (j+1)) (fun (j,S)=>[(13,zUu S)]) (fun (j,_)=>12-j) ((0:Nat),[zLN n cs]) ⟨by omega,rfl⟩ fun (j,S) ⟨hj,hS⟩=>?_
  have vC:S.length=j+1:=by rw [hS];simp [zRm]
  have qU:S.getD (S.length-1) []=zBc n cs j:=by rw [vC,hS];exact zLI (by omega)
  have hwl:(S.getD (S.length-1) []).length=80:=by rw [qU];exact zBH j
  have hI:=hm j hj
  rw [← qU] at hI
  have hSS:S++[zCs n (S.getD (S.length-1) [])]=zRm n cs (j+1+1):=by rw [zL2 (k:=j+1),← hS,qU];rfl
  by_cases hjk:j<12
  ·refine zAh<|zAh<|zAg<|S_a [(1,.v (PV.bor 13 [(0,0)] 80 0 S.length))] (ap ((by simp):PV.bor 13 [(0,0)] 80 0 (List.map hdV S).length=PV.bor 13 [(0,0)] 80 0 S.length) an)<|S_a [(1,.v (PV.bor 13 [(0,0)] 80 0 S.length))] (ap ((by simp):PV.bor 13 [(0,0)] 80 0 (List.map hdV S).length=PV.bor 13 [(0,0)] 80 0 S.length) an)<|zAc 1<|S_a [(1,.v (I (↑(S.length-1):Int)))] (ap ((zCr (by omega) (by omega)):I (IntKind.i64.wrap ((↑S.length:Int)-1))=I (↑(S.length-1):Int)) an)<|zAc 2<|S_a [(2,.ob),(1,.n (S.length-1))] (ap ((by exact zAq (by omega)):decide (S.length-1<S.length)=true)<|ap ((by simp):some (0+(S.length-1))=some (S.length-1)) an)<|S_a [(0,.ob),(1,.ob)] (ap ((by exact zAq (by omega)):decide (0≤h)=true)<|ap ((by exact zAq (by omega)):decide (h.toNat<10)=true) an)<|S_a [(0,.ob),(1,.ob)] (ap ((by exact zAq (by omega)):decide (0≤c)=true)<|ap ((by exact zAq (by omega)):decide (c.toNat<8)=true) an)<|S_a [(0,.cs true ([I ((S.getD (S.length-1) []).getD (h.toNat*8+c.toNat) 0)]))] (ap (zCu (q:=PV.own 80 (List.map hdV S)) (xs:=List.map hdV S) (x:=PV.agg (zAX (S.getD (S.length-1) []) 80)) (zIc (xs:=[PV.own 80 (List.map hdV S)]) (x:=PV.own 80 (List.map hdV S)) (y:=PV.own 80 (List.map hdV S)) rfl rfl) (zCh [] (by omega)) (zFg (F:=S.getD (S.length-1) []) (m:=80) (j:=h.toNat*8+c.toNat) (by first | rfl | exact zB9 (by kernel_rfl) | exact zB6 (by kernel_rfl) | exact zDN (by kernel_rfl) (by kernel_rfl) | exact zDE (by kernel_rfl) | exact zDU (by kernel_rfl) (by kernel_rfl) | exact zDG (by kernel_rfl) | (simp;done)) (by omega)):zAr 13 (PV.own 80 (List.map hdV S)).box [(0,0)] (S.length-1) (0+h.toNat*(fun x=>x.size) Tryz.prog.types[128]+c.toNat*(fun x=>x.size) Tryz.prog.types[3]) 1=some (true,[I ((S.getD (S.length-1) []).getD (h.toNat*8+c.toNat) 0)])) an)<|zAc 2<|zAa<|zJT ((S.getD (S.length-1) []).getD (h.toNat*8+c.toNat) 0=x) (by omega)<|zAm<|zAk 2<|zAh<|zAh<|zAg<|S_a [(1,.v (PV.bor 13 [(0,0)] 80 0 S.length))] (ap ((by simp):PV.bor 13 [(0,0)] 80 0 (List.map hdV S).length=PV.bor 13 [(0,0)] 80 0 S.length) an)<|zAc 2<|zAa<|zBd ((↑S.length:Int)>12) (by omega)<|zAm<|zAg<|S_a [(1,.v (PV.bor 13 [(0,0)] 80 0 S.length))] (ap ((by simp):PV.bor 13 [(0,0)] 80 0 (List.map hdV S).length=PV.bor 13 [(0,0)] 80 0 S.length) an)<|zAc 1<|S_a [(1,.v (PV.bor 13 [(0,0)] 80 0 S.length))] (ap ((by simp):PV.bor 13 [(0,0)] 80 0 (List.map hdV S).length=PV.bor 13 [(0,0)] 80 0 S.length) an)<|S_a [(1,.v (PV.bor 13 [(0,0)] 80 0 S.length))] (ap ((by simp):PV.bor 13 [(0,0)] 80 0 (List.map hdV S).length=PV.bor 13 [(0,0)] 80 0 S.length) an)<|zAc 1<|S_a [(1,.v (I (↑(S.length-1):Int)))] (ap ((zCr (by omega) (by omega)):I (IntKind.i64.wrap ((↑S.length:Int)-1))=I (↑(S.length-1):Int)) an)<|S_a [(2,.ob),(1,.n (S.length-1))] (ap ((by exact zAq (by omega)):decide (S.length-1<S.length)=true)<|ap ((by simp):some (0+(S.length-1))=some (S.length-1)) an)<|S_a [(0,.cs true (zAX (S.getD (S.length-1) []) 80))] (ap (zCu (q:=PV.own 80 (List.map hdV S)) (xs:=List.map hdV S) (x:=PV.agg (zAX (S.getD (S.length-1) []) 80)) (zIc (xs:=[PV.own 80 (List.map hdV S)]) (x:=PV.own 80 (List.map hdV S)) (y:=PV.own 80 (List.map hdV S)) rfl rfl) (zCh [] (by omega)):zAr 13 (PV.own 80 (List.map hdV S)).box [(0,0)] (S.length-1) 0 Tryz.prog.types[130].size=some (true,zAX (S.getD (S.length-1) []) 80)) an)<|S_a [(7,.ret (hdV (zCs n (S.getD (S.length-1) []))) [])] (ap (f101 n cs (S.getD (S.length-1) []) (by omega) (by omega)) an)<|zAc 1<|S_a [(4,.ob),(0,.ob),(0,.yes),(2,.v (PV.own 80 (List.map hdV (S++[zCs n (S.getD (S.length-1) [])]))))] (ap ((by exact zA4 (by simp only [List.length_map,zzLn,zAS]<;>omega)):(0+S.length).ble (List.map hdV S).length=true)<|ap ((by exact zA4 (by simp only [List.length_map,zzLn,zAS]<;>omega)):((List.map hdV S).length + [PV.agg (zAX (zCs n (S.getD (S.length-1) [])) 80)].length).ble zAS=true)<|ap ((by exact zBB (by simp<;>omega)):(0+S.length).beq (List.map hdV S).length=true)<|ap ((zAZ (zBI (by kernel_rfl))):PV.own 80 (List.map hdV S++[PV.agg (zAX (zCs n (S.getD (S.length-1) [])) 80)])=PV.own 80 (List.map hdV (S++[zCs n (S.getD (S.length-1) [])]))) an)<|zAc 1<|zAa ?_
   exact ⟨(j+1,S++[zCs n (S.getD (S.length-1) [])]),⟨by omega,hSS⟩,by simp only;omega,by kernel_rfl,by kernel_rfl⟩
  ·refine zAh<|zAh<|zAg<|S_a [(1,.v (PV.bor 13 [(0,0)] 80 0 S.length))] (ap ((by simp):PV.bor 13 [(0,0)] 80 0 (List.map hdV S).length=PV.bor 13 [(0,0)] 80 0 S.length) an)<|S_a [(1,.v (PV.bor 13 [(0,0)] 80 0 S.length))] (ap ((by simp):PV.bor 13 [(0,0)] 80 0 (List.map hdV S).length=PV.bor 13 [(0,0)] 80 0 S.length) an)<|zAc 1<|S_a [(1,.v (I (↑(S.length-1):Int)))] (ap ((zCr (by omega) (by omega)):I (IntKind.i64.wrap ((↑S.length:Int)-1))=I (↑(S.length-1):Int)) an)<|zAc 2<|S_a [(2,.ob),(1,.n (S.length-1))] (ap ((by exact zAq (by omega)):decide (S.length-1<S.length)=true)<|ap ((by simp):some (0+(S.length-1))=some (S.length-1)) an)<|S_a [(0,.ob),(1,.ob)] (ap ((by exact zAq (by omega)):decide (0≤h)=true)<|ap ((by exact zAq (by omega)):decide (h.toNat<10)=true) an)<|S_a [(0,.ob),(1,.ob)] (ap ((by exact zAq (by omega)):decide (0≤c)=true)<|ap ((by exact zAq (by omega)):decide (c.toNat<8)=true) an)<|S_a [(0,.cs true ([I ((S.getD (S.length-1) []).getD (h.toNat*8+c.toNat) 0)]))] (ap (zCu (q:=PV.own 80 (List.map hdV S)) (xs:=List.map hdV S) (x:=PV.agg (zAX (S.getD (S.length-1) []) 80)) (zIc (xs:=[PV.own 80 (List.map hdV S)]) (x:=PV.own 80 (List.map hdV S)) (y:=PV.own 80 (List.map hdV S)) rfl rfl) (zCh [] (by omega)) (zFg (F:=S.getD (S.length-1) []) (m:=80) (j:=h.toNat*8+c.toNat) (by first | rfl | exact zB9 (by kernel_rfl) | exact zB6 (by kernel_rfl) | exact zDN (by kernel_rfl) (by kernel_rfl) | exact zDE (by kernel_rfl) | exact zDU (by kernel_rfl) (by kernel_rfl) | exact zDG (by kernel_rfl) | (simp;done)) (by omega)):zAr 13 (PV.own 80 (List.map hdV S)).box [(0,0)] (S.length-1) (0+h.toNat*(fun x=>x.size) Tryz.prog.types[128]+c.toNat*(fun x=>x.size) Tryz.prog.types[3]) 1=some (true,[I ((S.getD (S.length-1) []).getD (h.toNat*8+c.toNat) 0)])) an)<|zAc 2<|zAa<|zJT ((S.getD (S.length-1) []).getD (h.toNat*8+c.toNat) 0=x) (by omega)<|zAm<|zAk 2<|zAh<|zAh<|zAg<|S_a [(1,.v (PV.bor 13 [(0,0)] 80 0 S.length))] (ap ((by simp):PV.bor 13 [(0,0)] 80 0 (List.map hdV S).length=PV.bor 13 [(0,0)] 80 0 S.length) an)<|zAc 2<|zAa<|zA3 ((↑S.length:Int)>12) (by omega)<|zAd 2<|zAa<|zAn<|E_a [] an (PV.tup [PV.own 1 [],I 6]) [] rfl rfl
end Go.Eng
set_option maxRecDepth 100000
set_option maxHeartbeats 4000000
namespace Go.Eng
open Go Go.Proofs
theorem zV0:FG 83 [] (.tup [nwO zDV,.own 2 (zFl.map prV)]):=zAo.closed 20
theorem zS0:FG 22 [nwV zDV,prs zFl,I 1] (.tup [.own 2 [.agg [I 2,I 0],.agg [I 3,I 0]],I 0]):=by
 have:=f22_1 zDV zFl 1 (zSR (by decide +kernel))
 rw [zOA] at this;exact this
theorem zNp:FG 29 [nwV zDV,prs zFl] (.tup [I 3,I 0]):=f29_1 zDV zFl 3 zKe (by decide) (by decide +kernel) (by decide +kernel)
theorem zTe:FG 38 [nwV zDV,prs zFl,I 2,I 0] (.tup [.own 1 [I 3,I 2],I 0]):=by
 have:=f38_1 zDV zFl 2 0 1 zKe (by decide) (by decide) (by decide) (by decide +kernel) (by decide +kernel)
 rw [show bkL zDV zFl ((zAi zDV).getD (0:Int).toNat 0).toNat 0 1 [2]=[3,2] from by decide +kernel] at this;exact this
theorem zWy:FG 38 [nwV zDV,prs zFl,I 1,I 0] (.tup [.own 1 [],I 6]):=f38_2 zDV zFl 1 0 zKe (by decide) (by decide) (by decide +kernel)
theorem zRr:FG 31 [nwV zDV,prs zFl] (.tup [I 3,I 0]):=by
 have:=f31_1 zDV zFl zKe
 rw [if_pos (show zB2 zDV (zBc zDV zFl 12)=[] from by decide +kernel),if_pos (show zB2 zDV (zBc zDV zFl 12)=[] from by decide +kernel),show zVp zDV zFl 12=3 from by decide +kernel] at this;exact this
theorem zPi:FG 26 [nwV zDV,prs zFl,I 0] (.tup [.own 1 [I 3],I 0]):=by
 have:=f26_1 zDV zFl 0 (zSR (by decide +kernel))
 rw [show zGM (msl zDV (zB2 zDV (zBc zDV zFl (0:Int).toNat)))=[3] from by decide +kernel] at this;exact this
theorem zQ0:FG 86 [nwV zDV] (.tup [.own 1 [],I 0]):=by
 have:=f86_1 zDV zUj
 rw [show zCZ (zTS zDV) zDV.n.length=[] from by decide +kernel] at this;exact this
theorem f17:FG 17 [] (.bool true):=by
 have h1:=zV0
 have h2:=zS0
 have h3:=zNp
 have h4:=zTe
 have h5:=zWy
 have h6:=zPw
 have h7:=zRr
 have h8:=zPi
 have h9:=zQ0
 have l1:FG 78 [.sl [.agg [I 2,I 0],.agg [I 3,I 0]],.sl [.agg [I 2,I 0],.agg [I 3,I 0]]] (.bool true):=f78 [(2,0),(3,0)] [(2,0),(3,0)] (by decide)
 have l2:FG 28 [.sl [I 3,I 2],.sl [I 3,I 2]] (.bool true):=f28 [3,2] [3,2] (by decide)
 have l3:FG 34 [.sl [.agg [I 1,I 1]],.sl [.agg [I 1,I 1]]] (.bool true):=f34 [(1,1)] [(1,1)] (by decide)
 have l4:FG 28 [.sl [I 3],.sl [I 3]] (.bool true):=f28 [3] [3] (by decide)
 refine zAe Tryz.f17 ?_
 refine zAd 1<|zAa<|zAh<|zAg<|S_a [(4,.ret (PV.tup [nwO zDV,PV.own 2 (List.map prV zFl)]) [])] (ap h1 an)<|zAc 6<|zAa<|zAd 2<|S_a [(21,.ret (PV.tup [PV.own 2 [PV.agg [I 2,I 0],PV.agg [I 3,I 0]],I 0]) [])] (ap h2 an)<|zAc 5<|zAa<|zAd 2<|S_a [(19,.ret (PV.tup [I 3,I 0]) [])] (ap h3 an)<|zAc 5<|zAa<|zAd 2<|S_a [(23,.ret (PV.tup [PV.own 1 [I 3,I 2],I 0]) [])] (ap h4 an)<|zAc 5<|zAa<|zAd 2<|S_a [(23,.ret (PV.tup [PV.own 1 [],I 6]) [])] (ap h5 an)<|zAc 5<|zAa<|zAh<|zAd 19<|S_a [(10,.ret (PV.bool true) [])] (ap l1 an)<|zAc 9<|S_a [(10,.ret (PV.bool true) [])] (ap l2 an)<|zAc 2<|zAa<|zAH<|zAm<|zAd 3<|S_a [(24,.ret (PV.tup [PV.own 2 [PV.agg [I 1,I 1]],I 0]) [])] (ap h6 an)<|zAc 5<|zAa<|zAd 2<|S_a [(19,.ret (PV.tup [I 3,I 0]) [])] (ap h7 an)<|zAc 5<|zAa<|zAd 2<|S_a [(21,.ret (PV.tup [PV.own 1 [I 3],I 0]) [])] (ap h8 an)<|zAc 5<|zAa<|zAd 1<|S_a [(16,.ret (PV.tup [PV.own 1 [],I 0]) [])] (ap h9 an)<|zAc 5<|zAa<|zAd 18<|S_a [(10,.ret (PV.bool true) [])] (ap l3 an)<|zAc 8<|S_a [(10,.ret (PV.bool true) [])] (ap l4 an)<|zAc 3<|zAc 4<|zAa<|zAn<|E_a [] an (PV.bool true) [] rfl rfl
end Go.Eng
set_option maxRecDepth 10000
set_option maxHeartbeats 4000000
namespace Go.Eng
open Go Go.Proofs
theorem zWU {n:Nw} {cs:List (Int×Int)} (h:zGA n=0) (hl:cs.length≤16) (hc:∀ c∈cs,(0≤c.1∧c.1<n.n.length)∧(0≤c.2∧c.2<n.s.length)):CrOk n cs:=by
 refine zWh ?_
 have ha:(cs.all fun c=>zIn n c)=true:=List.all_eq_true.2 fun c hm=>by
  have:=hc c hm
  simp only [zIn,inB,Bool.and_eq_true,decide_eq_true_eq];omega
 have qM:¬ (cs.length:Int)>16:=by omega
 simp only [zPj,h,qM,ha,if_true,if_false];rfl
theorem zXx {n:Nw} {cs:List (Int×Int)} {e:Int} (h:CrOk n cs) (he:0≤e∧e≤12):EvOk n cs e:=by
 refine zSR ?_
 have hi:inB e 0 12=true:=by simp only [inB,Bool.and_eq_true,decide_eq_true_eq];omega
 simp only [zP5,h.err,hi,if_true]
end Go.Eng
set_option maxRecDepth 10000
set_option maxHeartbeats 4000000
namespace Go.Eng
open Go Go.Proofs
section
variable [Yo]
theorem f54 (n:Nw) (x:Int) (ho:NwOk n) (hx:0≤x∧x<n.n.length):FG 54 [nwV n,I x] (I ((zAi n).getD x.toNat 0)):=by
 have vD:=ho.nl
 refine zAe Tryz.f54 ?_
 refine zAd 2<|zAa<|zAh<|zAk 0 ?_
 refine zAy (fun (y:Int)=>∃ m:Nat,y=m∧m<n.n.length∧(zAi n).getD m 0=(zAi n).getD x.toNat 0) (fun y=>[(1,I y)]) (fun y=>y.toNat) x ⟨x.toNat,by omega,by omega,rfl⟩ fun y ⟨m,hy,hm,hc⟩=>?_
 subst hy
 have ham:=ho.na m hm
 have vY:=zQV ho hm
 by_cases hge:(n.n.getD m default).1 = -1
 ·rw [if_pos hge] at vY
  rw [← hc,vY]
  refine zAh<|zAd 3<|S_a [(2,.v (PV.agg [I (n.n.getD m default).fst,PV.bool (n.n.getD m default).snd]))] (ap (zCh default (by omega):(List.map ntV n.n)[m]? = some (PV.agg [I (n.n.getD m default).fst,PV.bool (n.n.getD m default).snd])) an)<|zAc 3<|zAa<|zLt ((n.n.getD m default).fst = -1) (by omega)<|zAM 0<|zAd 2<|zAa<|zAn<|E_a [] an (I (↑m:Int)) [] rfl rfl
 ·rw [if_neg hge] at vY
  refine zAh<|zAd 3<|S_a [(2,.v (PV.agg [I (n.n.getD m default).fst,PV.bool (n.n.getD m default).snd]))] (ap (zCh default (by omega):(List.map ntV n.n)[m]? = some (PV.agg [I (n.n.getD m default).fst,PV.bool (n.n.getD m default).snd])) an)<|zAc 3<|zAa<|zJT ((n.n.getD m default).fst = -1) (by omega)<|zAm<|zAk 1<|zAg<|zAc 3<|S_a [(2,.v (PV.agg [I (n.n.getD m default).fst,PV.bool (n.n.getD m default).snd]))] (ap (zCh default (by omega):(List.map ntV n.n)[m]? = some (PV.agg [I (n.n.getD m default).fst,PV.bool (n.n.getD m default).snd])) an)<|zAc 3<|zAa ?_
  exact ⟨(n.n.getD m default).1,⟨(n.n.getD m default).1.toNat,by omega,by omega,by rw [← vY];exact hc⟩,by omega,by kernel_rfl,by kernel_rfl⟩
end
end Go.Eng
set_option maxRecDepth 10000
set_option maxHeartbeats 4000000
namespace Go.Eng
open Go Go.Proofs
section
variable [Yo]
theorem f137 (n:Nw) (l:List Int) (x:Int) (ho:NwOk n) (hx:0≤x∧x<n.n.length) (hl:∀ y∈l,0≤y∧y<n.n.length) (qT:l.length≤1000):FG 137 [.own 1 (l.map I),I x,.ref (nwV n)] (.own 1 ((zGL n l x).map I)):=by
 refine zAe Tryz.f137 ?_
 refine zAd 1<|zAa<|zAh<|zAd 1<|S_a [(0,.n l.length)] (ap (lnS I l) an)<|zAc 1<|zAa<|zAk 0 ?_
 refine zAy (fun i=>i≤l.length∧∀ j,j<i→zGd n x (l.getD j 0)=false) (fun (i:Nat)=>[(10,I (i:Nat))]) (fun i=>l.length-i) (0:Nat) ⟨Nat.zero_le _,fun j hj=>absurd hj (Nat.not_lt_zero j)⟩ fun i ⟨hi,ha⟩=>?_
 by_cases yP:i<l.length
 ·have hy:=zBU (d:=0) hl i yP
  by_cases hs:zGd n x (l.getD i 0)=true
  ·have hp:=zVT yP ha hs
   have yt:(zAi n).getD (l.getD i 0).toNat 0=(zAi n).getD x.toNat 0:=of_decide_eq_true hs
   rw [hp,show max (l.getD i 0) x=if x>l.getD i 0 then x else l.getD i 0 by split<;>omega]
   clear ha hl hp hs
   refine zAd 1<|zAa<|zAh<|zA3 ((↑i:Int)<(↑l.length:Int)) (by omega)<|zAm<|zAh<|zAk 1<|zAd 1<|S_a [(2,.ob),(1,.n i)] (ap ((by exact zAq (by simp only [List.length_map,zzLn]<;>omega)):decide (i<(List.map I l).length)=true)<|ap ((by simp):some (0+i)=some i) an)<|S_a [(0,.cs false ([I (l.getD i 0)]))] (ap (zCu (q:=PV.own 1 (List.map I l)) (xs:=List.map I l) (x:=I (l.getD i 0)) rfl (zCh (0) (by omega)):zAr 0 (PV.own 1 (List.map I l)) [] i 0 1=some (false,[I (l.getD i 0)])) an)<|zAc 2<|zAa<|zAd 2<|S_a [(8,.ret (I ((zAi n).getD (l.getD i 0).toNat 0)) [])] (ap (f54 n (l.getD i 0) (by omega) (by omega)) an)<|zAc 2<|S_a [(8,.ret (I ((zAi n).getD x.toNat 0)) [])] (ap (f54 n x (by omega) (by omega)) an)<|zAc 1<|zAa<|zA3 ((zAi n).getD (l.getD i 0).toNat 0=(zAi n).getD x.toNat 0) (by omega)<|zAd 5<|S_a [(2,.ob),(1,.n i)] (ap ((by exact zAq (by simp only [List.length_map,zzLn]<;>omega)):decide (i<(List.map I l).length)=true)<|ap ((by simp):some (0+i)=some i) an)<|S_a [(8,.root (PV.own 1 (List.map I (l.set i (if x>l.getD i 0 then x else l.getD i 0)))) true)] (ap (zPG (zCh (0) (by omega)) zG1:zBF (PV.own 1 (List.map I l)) [] i 0 (I (if x>l.getD i 0 then x else l.getD i 0)).cells=some (PV.own 1 (List.map I (l.set i (if x>l.getD i 0 then x else l.getD i 0))))∧zAD (PV.own 1 (List.map I l)) (PV.own 1 (List.map I (l.set i (if x>l.getD i 0 then x else l.getD i 0)))) []=true) an)<|zAa<|zAd 1<|S_a [(2,.yes)] (ap ((by exact zBB (by simp<;>omega)):(Nat.beq 0 0&&(List.map I (l.set i (if x>l.getD i 0 then x else l.getD i 0))).length.beq (List.map I (l.set i (if x>l.getD i 0 then x else l.getD i 0))).length)=true) an)<|zAa<|zAn<|E_a [(1,.yes),(1,.v (PV.own 1 (List.map I (l.set i (if x>l.getD i 0 then x else l.getD i 0)))))] (ap (blz (List.map I (l.set i (if x>l.getD i 0 then x else l.getD i 0))))<|ap ((zAZ zBe):PV.own 1 (List.take (List.map I (l.set i (if x>l.getD i 0 then x else l.getD i 0))).length (List.drop 0 (List.map I (l.set i (if x>l.getD i 0 then x else l.getD i 0)))))=PV.own 1 (List.map I (l.set i (if x>l.getD i 0 then x else l.getD i 0)))) an) (PV.own 1 (List.map I (l.set i (if x>l.getD i 0 then x else l.getD i 0)))) [] rfl rfl
  ·have hon:zGd n x (l.getD i 0)=false→∀ j,j<i+1→zGd n x (l.getD j 0)=false:=fun h j hj=>by
    rcases Nat.lt_succ_iff_lt_or_eq.1 hj with h2 | rfl
    ·exact ha j h2
    ·exact h
   have yt:¬ (zAi n).getD (l.getD i 0).toNat 0=(zAi n).getD x.toNat 0:=fun h=>hs (decide_eq_true h)
   rw [Bool.not_eq_true] at hs
   clear ha hl
   refine zAd 1<|zAa<|zAh<|zA3 ((↑i:Int)<(↑l.length:Int)) (by omega)<|zAm<|zAh<|zAk 1<|zAd 1<|S_a [(2,.ob),(1,.n i)] (ap ((by exact zAq (by simp only [List.length_map,zzLn]<;>omega)):decide (i<(List.map I l).length)=true)<|ap ((by simp):some (0+i)=some i) an)<|S_a [(0,.cs false ([I (l.getD i 0)]))] (ap (zCu (q:=PV.own 1 (List.map I l)) (xs:=List.map I l) (x:=I (l.getD i 0)) rfl (zCh (0) (by omega)):zAr 0 (PV.own 1 (List.map I l)) [] i 0 1=some (false,[I (l.getD i 0)])) an)<|zAc 2<|zAa<|zAd 2<|S_a [(8,.ret (I ((zAi n).getD (l.getD i 0).toNat 0)) [])] (ap (f54 n (l.getD i 0) (by omega) (by omega)) an)<|zAc 2<|S_a [(8,.ret (I ((zAi n).getD x.toNat 0)) [])] (ap (f54 n x (by omega) (by omega)) an)<|zAc 1<|zAa<|zBd ((zAi n).getD (l.getD i 0).toNat 0=(zAi n).getD x.toNat 0) (by omega)<|zAm<|zAg<|S_a [(1,.v (I (↑(i+1):Int)))] (ap (wrN i) an)<|zAc 1<|zAa ?_
   exact ⟨i+1,⟨by omega,hon hs⟩,by omega,by kernel_rfl,by kernel_rfl⟩
 ·rw [zTv fun j hj=>ha j (by omega)]
  clear ha hl
  refine zAd 1<|zAa<|zAh<|zBd ((↑i:Int)<(↑l.length:Int)) (by omega)<|zAM 0<|zAd 3<|S_a [(4,.ob),(0,.ob),(0,.yes),(2,.v (PV.own 1 (List.map I (l++[x]))))] (ap (blz (List.map I l))<|ap ((by exact zA4 (by simp only [List.length_map,zzLn,zAS]<;>omega)):((List.map I l).length + [I x].length).ble zAS=true)<|ap ((by exact zBB (by simp<;>omega)):(0+(List.map I l).length).beq (List.map I l).length=true)<|ap ((zAZ (zBI (by kernel_rfl))):PV.own 1 (List.map I l++[I x])=PV.own 1 (List.map I (l++[x]))) an)<|zAc 1<|zAa<|zAn<|E_a [(1,.yes),(1,.v (PV.own 1 (List.map I (l++[x]))))] (ap (blz (List.map I (l++[x])))<|ap ((zAZ zBe):PV.own 1 (List.take (List.map I (l++[x])).length (List.drop 0 (List.map I (l++[x]))))=PV.own 1 (List.map I (l++[x]))) an) (PV.own 1 (List.map I (l++[x]))) [] rfl rfl
end
theorem f56a (l:List (List Int)) (i:Nat) (hi:i<l.length) (hl:(l.getD i []).length≤4294967296):zAo Tryz.prog zCD 56 [.bor 50000000 [(i,0)] 1 0 (l.getD i []).length] [.own 1 (l.map zBl)] (.tup []) [.own 1 ((l.set i (zDo (l.getD i []))).map zBl)]:=zNx (fn:=Tryz.f56) l i hi hl
theorem zTg {rows:List (List Int)} {i:Nat} (hi:i<rows.length):((rows.take i).map zDo++rows.drop i).getD i []=rows.getD i []∧((rows.take i).map zDo++rows.drop i).set i (zDo (rows.getD i []))=(rows.take (i+1)).map zDo++rows.drop (i+1):=by
 have hl:((rows.take i).map zDo).length=i:=by simp;omega
 have hd:rows.drop i=rows.getD i []::rows.drop (i+1):=by rw [zAB hi];exact List.drop_eq_getElem_cons hi
 constructor
 ·rw [List.getD_eq_getElem?_getD,List.getElem?_append_right (by omega),hl,Nat.sub_self,hd];rfl
 ·rw [List.set_append_right _ _ (by omega),hl,Nat.sub_self,hd,List.set_cons_zero,zBX (d:=[]) hi,List.map_append,List.append_assoc];rfl
theorem zFr (rows:List (List Int)):(PV.own 1 (rows.map zBl)).free=true:=by
 show zFk (rows.map zBl)=true
 exact zDO rows fun x=>zDO x
theorem zO5 {n:Nw} (ho:NwOk n) {S:Nat→Nat→Int→Prop} {rows:List (List Int)} (hr:TR n S rows):∀ r∈rows,r.length≤8:=fun r hm=>by
 obtain ⟨h,hh,rfl⟩:=List.getElem_of_mem hm
 have:=zK6 ho (hr.row h (by rw [← hr.len];exact hh))
 rwa [zAB hh] at this
theorem f59 (n:Nw) (cs:List (Int×Int)) (e:Int) (ho:CrW n cs) (yO:cs.length≤16) (he:0≤e∧e≤12):FG 59 [nwV n,prs cs,I e] (.own 1 ((zEk n cs e.toNat).map zBl)):=by
 have hn:=ho.nw
 have hH:=hn.h
 have vD:=hn.nl
 have hs6:=hn.sl
 have hl20:=hn.ll
 refine zAe Tryz.f59 ?_
 refine zAd 2<|zAa<|zAd 2<|S_a [(0,.ob),(1,.ob),(1,.ob),(0,.ob),(1,.v (PV.own 1 (List.map (fun l=>PV.own 1 (List.map I l)) (List.replicate n.h.toNat []))))] (ap ((by exact zAq (by omega)):decide (0≤n.h)=true)<|ap ((by exact zAq (by omega)):decide (0≤n.h)=true)<|ap ((by exact zAq (by omega)):decide (n.h.toNat≤n.h.toNat)=true)<|ap ((by exact zAq (by simp [zAS]<;>omega)):decide (n.h.toNat≤zAS)=true)<|ap ((by simp):PV.own 1 (List.replicate n.h.toNat (PV.own 1 []))=PV.own 1 (List.map (fun l=>PV.own 1 (List.map I l)) (List.replicate n.h.toNat []))) an)<|zAc 1<|zAa<|zAd 2<|zAa<|zAh<|zAd 1<|S_a [(0,.n cs.length)] (ap (lnS prV cs) an)<|zAc 1<|zAa<|zAk 0 ?_
 refine zAy (fun (i,rows)=>i≤cs.length∧TR n (crS n cs i 0) rows) (fun ((i:Nat),(rows:List (List Int)))=>[(7,.own 1 (rows.map zBl)),(26,I (i:Nat))]) (fun (i,_)=>cs.length-i) ((0:Nat),List.replicate n.h.toNat []) ⟨Nat.zero_le _,(zSH hn).same fun a _ c _ v=>zTk.symm⟩ (hs:=by exact Eq.trans (by kernel_rfl:_=([(1,prs cs),(2,I e),(3,(PV.agg [I n.h,prs n.l,PV.sl (List.map ntV n.n),PV.sl (List.map zA5 n.s)]).box),(7,PV.own 1 (List.map (fun l=>PV.own 1 (List.map I l)) (List.replicate n.h.toNat []))),(8,PV.func 137 [] [PV.addr 3 [] 0 0 (some 4)]),(23,PV.func 137 [] [PV.addr 3 [] 0 0 (some 4)]),(24,prs cs),(25,I (↑cs.length:Int)),(26,I 0)])) (Eq.trans (by simp only [zQw,zQ7]:_=([(1,prs cs),(2,I e),(3,(PV.agg [I n.h,prs n.l,PV.sl (List.map ntV n.n),PV.sl (List.map zA5 n.s)]).box),(7,PV.own 1 (List.map zBl (List.replicate n.h.toNat []))),(8,PV.func 137 [] [PV.addr 3 [] 0 0 (some 4)]),(23,PV.func 137 [] [PV.addr 3 [] 0 0 (some 4)]),(24,prs cs),(25,I (↑cs.length:Int)),(26,I (↑0:Int))])) (by kernel_rfl))) fun (i,rows) ⟨hi,hr⟩=>?_
 have hrl:=hr.len
 by_cases yP:i<cs.length
 ·have qn:=zBU (d:=default) ho.cs i yP
  have yJ:=zBU (d:=[]) hn.sr (cs.getD i default).2.toNat (by omega)
  have jP:=zBU (d:=[]) hn.rows (cs.getD i default).2.toNat (by omega)
  have jE:=qn.2
  refine zAd 1<|zAa<|zAh<|zA3 ((↑i:Int)<(↑cs.length:Int)) (by omega)<|zAm<|zAh<|zAk 1<|zAh<|zAg<|S_a [(2,.v (PV.agg [I (cs.getD i default).fst,I (cs.getD i default).snd]))] (ap (zCh default (by omega):(List.map prV cs)[i]? = some (PV.agg [I (cs.getD i default).fst,I (cs.getD i default).snd])) an)<|zAc 3<|zAa<|zAd 4<|S_a [(0,.ob),(1,.v (zA5 (n.s.getD (cs.getD i default).snd.toNat [])))] (ap ((by exact zAq (by omega)):decide (0≤(cs.getD i default).snd)=true)<|ap (zCh [] (by omega):(List.map zA5 n.s)[(cs.getD i default).snd.toNat]? = some (zA5 (n.s.getD (cs.getD i default).snd.toNat []))) an)<|zAc 1<|S_a [(0,.n ((n.s.getD (cs.getD i default).snd.toNat []).length))] (ap (lnS I (n.s.getD (cs.getD i default).snd.toNat [])) an)<|zAc 1<|zAa<|zAk 2 ?_
  refine zAy (fun (j,rows)=>j≤(n.s.getD (cs.getD i default).2.toNat []).length∧TR n (crS n cs i j) rows) (fun ((j:Nat),(rows:List (List Int)))=>[(7,.own 1 (rows.map zBl)),(37,I (j:Nat))]) (fun (j,_)=>(n.s.getD (cs.getD i default).2.toNat []).length-j) ((0:Nat),rows) ⟨Nat.zero_le _,hr⟩ fun (j,rows) ⟨hj,hr⟩=>?_
  have hrl:=hr.len
  by_cases jQ:j<(n.s.getD (cs.getD i default).2.toNat []).length
  ·have hx:=zBU (d:=0) yJ j jQ
   have ha:(n.s.getD (cs.getD i default).2.toNat []).getD j 0=(((n.s.getD (cs.getD i default).2.toNat []).getD j 0).toNat:Nat):=(Int.toNat_of_nonneg hx.1).symm
   have hah:((n.s.getD (cs.getD i default).2.toNat []).getD j 0).toNat<n.h.toNat:=by omega
   have yU:=(hr.put hah qn.1).same fun b _ c _ v=>zWM jQ ha
   have y5:=(hr.row _ hah).el
   have hr8:=zK6 hn (hr.row _ hah)
   have jV:=qn.1
   clear hr yJ ha
   refine zAd 1<|zAa<|zAh<|zA3 ((↑j:Int)<(↑(n.s.getD (cs.getD i default).snd.toNat []).length:Int)) (by omega)<|zAm<|zAh<|zAk 3<|zAh<|zAg<|S_a [(2,.v (I ((n.s.getD (cs.getD i default).snd.toNat []).getD j 0)))] (ap (zCh (0) (by omega):(List.map I (n.s.getD (cs.getD i default).snd.toNat []))[j]? = some (I ((n.s.getD (cs.getD i default).snd.toNat []).getD j 0))) an)<|zAc 2<|zAa<|zAg<|zAc 5<|S_a [(0,.ob),(1,.ob),(1,.n (((n.s.getD (cs.getD i default).snd.toNat []).getD j 0).toNat))] (ap ((by exact zAq (by omega)):decide (0≤(n.s.getD (cs.getD i default).snd.toNat []).getD j 0)=true)<|ap ((by exact zAq (by simp only [List.length_map,zzLn]<;>omega)):decide (((n.s.getD (cs.getD i default).snd.toNat []).getD j 0).toNat<(List.map zBl rows).length)=true)<|ap ((by simp):some (0+((n.s.getD (cs.getD i default).snd.toNat []).getD j 0).toNat)=some ((n.s.getD (cs.getD i default).snd.toNat []).getD j 0).toNat) an)<|S_a [(0,.cs false ([PV.bor 7 [(((n.s.getD (cs.getD i default).snd.toNat []).getD j 0).toNat,0)] 1 0 (List.map I (rows.getD ((n.s.getD (cs.getD i default).snd.toNat []).getD j 0).toNat [])).length])),(0,.v (PV.bor 7 [(((n.s.getD (cs.getD i default).snd.toNat []).getD j 0).toNat,0)] 1 0 (rows.getD ((n.s.getD (cs.getD i default).snd.toNat []).getD j 0).toNat []).length))] (ap (zCu (q:=PV.own 1 (List.map zBl rows)) (xs:=List.map zBl rows) (x:=PV.own 1 (List.map I (rows.getD ((n.s.getD (cs.getD i default).snd.toNat []).getD j 0).toNat []))) rfl (zCh [] (by omega)):zAr 7 (PV.own 1 (List.map zBl rows)) [] ((n.s.getD (cs.getD i default).snd.toNat []).getD j 0).toNat 0 1=some (false,[PV.bor 7 [(((n.s.getD (cs.getD i default).snd.toNat []).getD j 0).toNat,0)] 1 0 (List.map I (rows.getD ((n.s.getD (cs.getD i default).snd.toNat []).getD j 0).toNat [])).length]))<|ap ((by simp):PV.bor 7 [(((n.s.getD (cs.getD i default).snd.toNat []).getD j 0).toNat,0)] 1 0 (List.map I (rows.getD ((n.s.getD (cs.getD i default).snd.toNat []).getD j 0).toNat [])).length=PV.bor 7 [(((n.s.getD (cs.getD i default).snd.toNat []).getD j 0).toNat,0)] 1 0 (rows.getD ((n.s.getD (cs.getD i default).snd.toNat []).getD j 0).toNat []).length) an)<|zAc 2<|S_a [(2,.v (PV.own 1 (List.map I (rows.getD ((n.s.getD (cs.getD i default).snd.toNat []).getD j 0).toNat [])))),(0,.ob),(0,.root (PV.own 1 ((List.map zBl rows).set ((n.s.getD (cs.getD i default).snd.toNat []).getD j 0).toNat PV.bad)) true),(0,.v (PV.own 1 (List.map I (rows.getD ((n.s.getD (cs.getD i default).snd.toNat []).getD j 0).toNat [])))),(10,.ret (PV.own 1 (List.map I (zGL n (rows.getD ((n.s.getD (cs.getD i default).snd.toNat []).getD j 0).toNat []) (cs.getD i default).fst))) []),(1,.yes)] (ap ((zIc (xs:=List.map zBl rows) (x:=PV.own 1 (List.map I (rows.getD ((n.s.getD (cs.getD i default).snd.toNat []).getD j 0).toNat []))) (y:=PV.own 1 (List.map I (rows.getD ((n.s.getD (cs.getD i default).snd.toNat []).getD j 0).toNat []))) (zCh [] (by omega)) rfl):zAz (PV.own 1 (List.map zBl rows)) [(((n.s.getD (cs.getD i default).snd.toNat []).getD j 0).toNat,0)]=some (PV.own 1 (List.map I (rows.getD ((n.s.getD (cs.getD i default).snd.toNat []).getD j 0).toNat []))))<|ap ((by exact zA4 (by simp only [List.length_map,zzLn,zAS]<;>omega)):(rows.getD ((n.s.getD (cs.getD i default).snd.toNat []).getD j 0).toNat []).length.ble (List.map I (rows.getD ((n.s.getD (cs.getD i default).snd.toNat []).getD j 0).toNat [])).length=true)<|ap (⟨(zXm (p:=PV.own 1 (List.map zBl rows)) (xs:=List.map zBl rows) (x:=PV.own 1 (List.map I (rows.getD ((n.s.getD (cs.getD i default).snd.toNat []).getD j 0).toNat []))) (q:=PV.own 1 (List.map I (rows.getD ((n.s.getD (cs.getD i default).snd.toNat []).getD j 0).toNat []))) (q':=PV.bad) (y:=PV.bad) (p':=PV.own 1 ((List.map zBl rows).set ((n.s.getD (cs.getD i default).snd.toNat []).getD j 0).toNat PV.bad)) (zCh [] (by omega)) rfl rfl rfl),(by first | exact zUs | exact zUH (w:=0) (p2:=(0,[])))⟩:zAu (fun x=>some PV.bad) (PV.own 1 (List.map zBl rows)) [(((n.s.getD (cs.getD i default).snd.toNat []).getD j 0).toNat,0)]=some (PV.own 1 ((List.map zBl rows).set ((n.s.getD (cs.getD i default).snd.toNat []).getD j 0).toNat PV.bad))∧zAD (PV.own 1 (List.map zBl rows)) (PV.own 1 ((List.map zBl rows).set ((n.s.getD (cs.getD i default).snd.toNat []).getD j 0).toNat PV.bad)) [(((n.s.getD (cs.getD i default).snd.toNat []).getD j 0).toNat,0)]=true)<|ap ((by simp [zBE]):PV.own 1 (List.take (rows.getD ((n.s.getD (cs.getD i default).snd.toNat []).getD j 0).toNat []).length (List.drop 0 (List.map I (rows.getD ((n.s.getD (cs.getD i default).snd.toNat []).getD j 0).toNat []))))=PV.own 1 (List.map I (rows.getD ((n.s.getD (cs.getD i default).snd.toNat []).getD j 0).toNat [])))<|ap (f137 n (rows.getD ((n.s.getD (cs.getD i default).snd.toNat []).getD j 0).toNat []) ((cs.getD i default).fst) (by omega) (by omega) (by omega) (by omega))<|ap ((by exact zDO _):(PV.own 1 (List.map I (zGL n (rows.getD ((n.s.getD (cs.getD i default).snd.toNat []).getD j 0).toNat []) (cs.getD i default).fst))).free=true) an)<|S_a [(0,.ob),(1,.ob),(1,.n (((n.s.getD (cs.getD i default).snd.toNat []).getD j 0).toNat))] (ap ((by exact zAq (by omega)):decide (0≤(n.s.getD (cs.getD i default).snd.toNat []).getD j 0)=true)<|ap ((by exact zAq (by simp only [List.length_map,zzLn]<;>omega)):decide (((n.s.getD (cs.getD i default).snd.toNat []).getD j 0).toNat<(List.map zBl rows).length)=true)<|ap ((by simp):some (0+((n.s.getD (cs.getD i default).snd.toNat []).getD j 0).toNat)=some ((n.s.getD (cs.getD i default).snd.toNat []).getD j 0).toNat) an)<|S_a [(8,.root (PV.own 1 (List.map zBl (rows.set ((n.s.getD (cs.getD i default).snd.toNat []).getD j 0).toNat (zGL n (rows.getD ((n.s.getD (cs.getD i default).snd.toNat []).getD j 0).toNat []) (cs.getD i default).fst)))) true)] (ap (zPG (zWE (by omega)) (zOX (u:=zGL n (rows.getD ((n.s.getD (cs.getD i default).snd.toNat []).getD j 0).toNat []) (cs.getD i default).fst)):zBF (PV.own 1 ((List.map zBl rows).set ((n.s.getD (cs.getD i default).snd.toNat []).getD j 0).toNat PV.bad)) [] ((n.s.getD (cs.getD i default).snd.toNat []).getD j 0).toNat 0 (PV.own 1 (List.map I (zGL n (rows.getD ((n.s.getD (cs.getD i default).snd.toNat []).getD j 0).toNat []) (cs.getD i default).fst))).cells=some (PV.own 1 (List.map zBl (rows.set ((n.s.getD (cs.getD i default).snd.toNat []).getD j 0).toNat (zGL n (rows.getD ((n.s.getD (cs.getD i default).snd.toNat []).getD j 0).toNat []) (cs.getD i default).fst))))∧zAD (PV.own 1 ((List.map zBl rows).set ((n.s.getD (cs.getD i default).snd.toNat []).getD j 0).toNat PV.bad)) (PV.own 1 (List.map zBl (rows.set ((n.s.getD (cs.getD i default).snd.toNat []).getD j 0).toNat (zGL n (rows.getD ((n.s.getD (cs.getD i default).snd.toNat []).getD j 0).toNat []) (cs.getD i default).fst)))) []=true) an)<|zAa<|zAg<|S_a [(1,.v (I (↑(j+1):Int)))] (ap (wrN j) an)<|zAc 1<|zAa ?_
   exact ⟨(j+1,rows.set ((n.s.getD (cs.getD i default).2.toNat []).getD j 0).toNat (zGL n (rows.getD ((n.s.getD (cs.getD i default).2.toNat []).getD j 0).toNat []) (cs.getD i default).1)),⟨by omega,yU⟩,by simp only;omega,by kernel_rfl,by kernel_rfl⟩
  ·have e1:j=(n.s.getD (cs.getD i default).2.toNat []).length:=by omega
   subst e1
   have yU:=hr.same fun b _ c _ v=>zTm yP
   clear hr yJ
   refine zAd 1<|zAa<|zAh<|zBd ((↑(n.s.getD (cs.getD i default).snd.toNat []).length:Int)<(↑(n.s.getD (cs.getD i default).snd.toNat []).length:Int)) (by omega)<|zAM 2<|zAg<|S_a [(1,.v (I (↑(i+1):Int)))] (ap (wrN i) an)<|zAc 1<|zAa ?_
   exact ⟨(i+1,rows),⟨by omega,yU⟩,by simp only;omega,by kernel_rfl,by kernel_rfl⟩
 ·have e1 : i=cs.length:=by omega
  subst e1
  have u3:=hr.same fun b hb c hc v=>zUO ho hb hc
  clear hr
  refine zAd 1<|zAa<|zAh<|zBd ((↑cs.length:Int)<(↑cs.length:Int)) (by omega)<|zAM 0<|zAh<|zAd 2<|zAa<|zAk 4 ?_
  refine zAy (fun (k,rows)=>k≤e.toNat∧TR n (fun h c v=>v≤(zBc n cs k).getD (h*8+c) 0) rows) (fun ((k:Nat),(rows:List (List Int)))=>[(7,.own 1 (rows.map zBl)),(55,I (k:Nat))]) (fun (k,_)=>e.toNat-k) ((0:Nat),rows) ⟨Nat.zero_le _,u3⟩ fun (k,rows) ⟨hk,hr⟩=>?_
  clear u3
  have hrl:=hr.len
  by_cases wD:(k:Int)<e
  ·have hr8:=zO5 hn hr
   have hr6:∀ r∈rows,r.length<1000000:=fun r hm=>by have:=hr8 r hm;omega
   have yJ:=hr.same fun a _ c _ v=>zRu (n:=n) (row:=[])
   refine zAd 1<|zAa<|zAh<|zA3 ((↑k:Int)<e) (by omega)<|zAm<|zAh<|zAk 5<|zAd 1<|S_a [(3,.ob),(0,.v (PV.sl (List.map zA5 rows))),(2,.ret (PV.own 1 (List.map zBl rows)) []),(1,.yes)] (ap (blz (List.map zBl rows))<|ap (frC zBl zA5 rows)<|ap (f89 rows (by omega) (by omega))<|ap (?_:(PV.own 1 (List.map zBl rows)).free=true) an)<|zAc 1<|zAa<|zAh<|zAd 1<|S_a [(0,.n rows.length)] (ap (lnS zBl rows) an)<|zAc 1<|zAa<|zAk 6 ?_
   ·exact zFr rows
   refine zAy (fun (h,nxt)=>h≤n.h.toNat∧TR n (evS n (zBc n cs k) [] h 0 0) nxt) (fun ((h:Nat),(nxt:List (List Int)))=>[(13,.own 1 (nxt.map zBl)),(61,I (h:Nat))]) (fun (h,_)=>n.h.toNat-h) ((0:Nat),rows) ⟨Nat.zero_le _,yJ⟩ fun (h,nxt) ⟨hh,hx⟩=>?_
   clear yJ
   have qB:=hx.len
   by_cases vU:h<n.h.toNat
   ·refine zAd 1<|zAa<|zAh<|zA3 ((↑h:Int)<(↑rows.length:Int)) (by omega)<|zAm<|zAh<|zAk 7<|zAd 2<|zAa<|zAd 1<|S_a [(0,.n rows.length)] (ap (lnS zBl rows) an)<|zAc 1<|zAa<|zAk 8 ?_
    refine zAy (fun (o,nxt)=>o≤n.h.toNat∧TR n (evS n (zBc n cs k) [] h o 0) nxt) (fun ((o:Nat),(nxt:List (List Int)))=>[(13,.own 1 (nxt.map zBl)),(66,I (o:Nat))]) (fun (o,_)=>n.h.toNat-o) ((0:Nat),nxt) ⟨Nat.zero_le _,hx⟩ fun (o,nxt) ⟨ho2,hx⟩=>?_
    have qB:=hx.len
    by_cases hol:o<n.h.toNat
    ·have yC:=hr.row o hol
     have gY:=hx.same fun a _ c _ v=>zTN (row':=rows.getD o [])
     have hlv:∀ a,a<n.h.toNat→∀ c,c<8→∀ v,evS n (zBc n cs k) (rows.getD o []) h o (rows.getD o []).length a c v↔evS n (zBc n cs k) [] h (o+1) 0 a c v:=fun a _ c hc v=>zTP (hr.lv o hol c hc v) ((hr.lv h vU c hc (-1)).1 (.inl (Int.le_refl _)))
     have y5:=yC.el
     have hrl8:=zK6 hn yC
     clear hr hx yC
     refine zAd 1<|zAa<|zAh<|zA3 ((↑o:Int)<(↑rows.length:Int)) (by omega)<|zAm<|zAh<|zAk 9<|zAd 2<|zAa<|zAd 2<|S_a [(2,.ob),(1,.n o)] (ap ((by exact zAq (by simp only [List.length_map,zzLn]<;>omega)):decide (o<(List.map zBl rows).length)=true)<|ap ((by simp):some (0+o)=some o) an)<|S_a [(0,.cs false ([PV.bor 7 [(o,0)] 1 0 (List.map I (rows.getD o [])).length])),(0,.v (PV.bor 7 [(o,0)] 1 0 (rows.getD o []).length))] (ap (zCu (q:=PV.own 1 (List.map zBl rows)) (xs:=List.map zBl rows) (x:=PV.own 1 (List.map I (rows.getD o []))) rfl (zCh [] (by omega)):zAr 7 (PV.own 1 (List.map zBl rows)) [] o 0 1=some (false,[PV.bor 7 [(o,0)] 1 0 (List.map I (rows.getD o [])).length]))<|ap ((by simp):PV.bor 7 [(o,0)] 1 0 (List.map I (rows.getD o [])).length=PV.bor 7 [(o,0)] 1 0 (rows.getD o []).length) an)<|zAc 2<|zAa<|zAk 10 ?_
     refine zAy (fun (j,nxt)=>j≤(rows.getD o []).length∧TR n (evS n (zBc n cs k) (rows.getD o []) h o j) nxt) (fun ((j:Nat),(nxt:List (List Int)))=>[(13,.own 1 (nxt.map zBl)),(74,I (j:Nat))]) (fun (j,_)=>(rows.getD o []).length-j) ((0:Nat),nxt) ⟨Nat.zero_le _,gY⟩ fun (j,nxt) ⟨hj,hx⟩=>?_
     clear gY
     have qB:=hx.len
     by_cases jQ:j<(rows.getD o []).length
     ·have hxe:=zBU (d:=0) y5 j jQ
      have hI:=(hx.row h vU).el
      have hn8':=zK6 hn (hx.row h vU)
      by_cases qH:zEw n h o=true
      ·have yU:=(hx.put vU hxe).same fun a _ c _ v=>zWK jQ qH
       have hnc:=f77 n h o (by omega)
       rw [qH] at hnc
       clear hx hlv y5
       refine zAd 1<|zAa<|zAh<|zA3 ((↑j:Int)<(↑(rows.getD o []).length:Int)) (by omega)<|zAm<|zAh<|zAk 11<|zAh<|zAg<|S_a [(2,.ob),(1,.n j)] (ap ((by exact zAq (by omega)):decide (j<(rows.getD o []).length)=true)<|ap ((by simp):some (0+j)=some j) an)<|S_a [(0,.cs false ([I ((rows.getD o []).getD j 0)]))] (ap (zCu (q:=PV.own 1 (List.map I (rows.getD o []))) (xs:=List.map I (rows.getD o [])) (x:=I ((rows.getD o []).getD j 0)) (zIc (xs:=List.map zBl rows) (x:=PV.own 1 (List.map I (rows.getD o []))) (y:=PV.own 1 (List.map I (rows.getD o []))) (zCh [] (by omega)) rfl) (zCh (0) (by omega)):zAr 7 (PV.own 1 (List.map zBl rows)) [(o,0)] j 0 1=some (false,[I ((rows.getD o []).getD j 0)])) an)<|zAc 1<|zAa<|zAd 3<|S_a [(10,.ret (PV.bool true) [])] (ap hnc an)<|zAa<|zDW<|zAg<|zAc 5<|S_a [(2,.ob),(1,.n h)] (ap ((by exact zAq (by simp only [List.length_map,zzLn]<;>omega)):decide (h<(List.map zBl nxt).length)=true)<|ap ((by simp):some (0+h)=some h) an)<|S_a [(0,.cs false ([PV.bor 13 [(h,0)] 1 0 (List.map I (nxt.getD h [])).length])),(0,.v (PV.bor 13 [(h,0)] 1 0 (nxt.getD h []).length))] (ap (zCu (q:=PV.own 1 (List.map zBl nxt)) (xs:=List.map zBl nxt) (x:=PV.own 1 (List.map I (nxt.getD h []))) rfl (zCh [] (by omega)):zAr 13 (PV.own 1 (List.map zBl nxt)) [] h 0 1=some (false,[PV.bor 13 [(h,0)] 1 0 (List.map I (nxt.getD h [])).length]))<|ap ((by simp):PV.bor 13 [(h,0)] 1 0 (List.map I (nxt.getD h [])).length=PV.bor 13 [(h,0)] 1 0 (nxt.getD h []).length) an)<|zAc 1<|S_a [(2,.v (PV.own 1 (List.map I (nxt.getD h [])))),(0,.ob),(0,.root (PV.own 1 ((List.map zBl nxt).set h PV.bad)) true),(0,.v (PV.own 1 (List.map I (nxt.getD h [])))),(10,.ret (PV.own 1 (List.map I (zGL n (nxt.getD h []) ((rows.getD o []).getD j 0)))) []),(1,.yes)] (ap ((zIc (xs:=List.map zBl nxt) (x:=PV.own 1 (List.map I (nxt.getD h []))) (y:=PV.own 1 (List.map I (nxt.getD h []))) (zCh [] (by omega)) rfl):zAz (PV.own 1 (List.map zBl nxt)) [(h,0)]=some (PV.own 1 (List.map I (nxt.getD h []))))<|ap ((by exact zA4 (by simp only [List.length_map,zzLn,zAS]<;>omega)):(nxt.getD h []).length.ble (List.map I (nxt.getD h [])).length=true)<|ap (⟨(zXm (p:=PV.own 1 (List.map zBl nxt)) (xs:=List.map zBl nxt) (x:=PV.own 1 (List.map I (nxt.getD h []))) (q:=PV.own 1 (List.map I (nxt.getD h []))) (q':=PV.bad) (y:=PV.bad) (p':=PV.own 1 ((List.map zBl nxt).set h PV.bad)) (zCh [] (by omega)) rfl rfl rfl),(by first | exact zUs | exact zUH (w:=0) (p2:=(0,[])))⟩:zAu (fun x=>some PV.bad) (PV.own 1 (List.map zBl nxt)) [(h,0)]=some (PV.own 1 ((List.map zBl nxt).set h PV.bad))∧zAD (PV.own 1 (List.map zBl nxt)) (PV.own 1 ((List.map zBl nxt).set h PV.bad)) [(h,0)]=true)<|ap ((by simp [zBE]):PV.own 1 (List.take (nxt.getD h []).length (List.drop 0 (List.map I (nxt.getD h []))))=PV.own 1 (List.map I (nxt.getD h [])))<|ap (f137 n (nxt.getD h []) ((rows.getD o []).getD j 0) (by omega) (by omega) (by omega) (by omega))<|ap ((by exact zDO _):(PV.own 1 (List.map I (zGL n (nxt.getD h []) ((rows.getD o []).getD j 0)))).free=true) an)<|S_a [(2,.ob),(1,.n h)] (ap ((by exact zAq (by simp only [List.length_map,zzLn]<;>omega)):decide (h<(List.map zBl nxt).length)=true)<|ap ((by simp):some (0+h)=some h) an)<|S_a [(8,.root (PV.own 1 (List.map zBl (nxt.set h (zGL n (nxt.getD h []) ((rows.getD o []).getD j 0))))) true)] (ap (zPG (zWE (by omega)) (zOX (u:=zGL n (nxt.getD h []) ((rows.getD o []).getD j 0))):zBF (PV.own 1 ((List.map zBl nxt).set h PV.bad)) [] h 0 (PV.own 1 (List.map I (zGL n (nxt.getD h []) ((rows.getD o []).getD j 0)))).cells=some (PV.own 1 (List.map zBl (nxt.set h (zGL n (nxt.getD h []) ((rows.getD o []).getD j 0)))))∧zAD (PV.own 1 ((List.map zBl nxt).set h PV.bad)) (PV.own 1 (List.map zBl (nxt.set h (zGL n (nxt.getD h []) ((rows.getD o []).getD j 0))))) []=true) an)<|zAa<|zAg<|S_a [(1,.v (I (↑(j+1):Int)))] (ap (wrN j) an)<|zAc 1<|zAa ?_
       exact ⟨(j+1,nxt.set h (zGL n (nxt.getD h []) ((rows.getD o []).getD j 0))),⟨by omega,yU⟩,by simp only;omega,by kernel_rfl,by kernel_rfl⟩
      ·rw [Bool.not_eq_true] at qH
       have yU:=hx.same fun a _ c _ v=>zVB (row':=rows.getD o []) (j':=j+1) qH
       have hnc:=f77 n h o (by omega)
       rw [qH] at hnc
       clear hx hlv y5
       refine zAd 1<|zAa<|zAh<|zA3 ((↑j:Int)<(↑(rows.getD o []).length:Int)) (by omega)<|zAm<|zAh<|zAk 11<|zAh<|zAg<|S_a [(2,.ob),(1,.n j)] (ap ((by exact zAq (by omega)):decide (j<(rows.getD o []).length)=true)<|ap ((by simp):some (0+j)=some j) an)<|S_a [(0,.cs false ([I ((rows.getD o []).getD j 0)]))] (ap (zCu (q:=PV.own 1 (List.map I (rows.getD o []))) (xs:=List.map I (rows.getD o [])) (x:=I ((rows.getD o []).getD j 0)) (zIc (xs:=List.map zBl rows) (x:=PV.own 1 (List.map I (rows.getD o []))) (y:=PV.own 1 (List.map I (rows.getD o []))) (zCh [] (by omega)) rfl) (zCh (0) (by omega)):zAr 7 (PV.own 1 (List.map zBl rows)) [(o,0)] j 0 1=some (false,[I ((rows.getD o []).getD j 0)])) an)<|zAc 1<|zAa<|zAd 3<|S_a [(10,.ret (PV.bool false) [])] (ap hnc an)<|zAa<|zAH<|zAm<|zAg<|S_a [(1,.v (I (↑(j+1):Int)))] (ap (wrN j) an)<|zAc 1<|zAa ?_
       exact ⟨(j+1,nxt),⟨by omega,yU⟩,by simp only;omega,by kernel_rfl,by kernel_rfl⟩
     ·have e1:j=(rows.getD o []).length:=by omega
      have yU:=(e1▸hx).same hlv
      clear hx hlv y5
      refine zAd 1<|zAa<|zAh<|zBd ((↑j:Int)<(↑(rows.getD o []).length:Int)) (by omega)<|zAM 10<|zAg<|S_a [(1,.v (I (↑(o+1):Int)))] (ap (wrN o) an)<|zAc 1<|zAa ?_
      exact ⟨(o+1,nxt),⟨by omega,yU⟩,by simp only;omega,by kernel_rfl,by kernel_rfl⟩
    ·have e1:o=n.h.toNat:=by omega
     have yU:=(e1▸hx).same fun a _ c hc v=>zSN hn (row':=[]) (zBH k) vU hc
     clear hx
     refine zAd 1<|zAa<|zAh<|zBd ((↑o:Int)<(↑rows.length:Int)) (by omega)<|zAM 8<|zAg<|S_a [(1,.v (I (↑(h+1):Int)))] (ap (wrN h) an)<|zAc 1<|zAa ?_
     exact ⟨(h+1,nxt),⟨by omega,yU⟩,by simp only;omega,by kernel_rfl,by kernel_rfl⟩
   ·have e1:h=n.h.toNat:=by omega
    have yU:TR n (fun h c v=>v≤(zBc n cs (k+1)).getD (h*8+c) 0) nxt:=(e1▸hx).same fun a ha c _ v=>zV1 ha
    clear hx
    refine zAd 1<|zAa<|zAh<|zBd ((↑h:Int)<(↑rows.length:Int)) (by omega)<|zAM 6<|zAg<|zAc 1<|S_a [(2,.yes)] (ap ((by exact zBB (by simp<;>omega)):(Nat.beq 0 0&&(List.map zBl nxt).length.beq (List.map zBl nxt).length)=true) an)<|zAa<|zAg<|S_a [(1,.v (I (↑(k+1):Int)))] (ap (wrN k) an)<|zAc 1<|zAa ?_
    exact ⟨(k+1,nxt),⟨by omega,yU⟩,by simp only;omega,by kernel_rfl,by kernel_rfl⟩
  ·have e1:k=e.toNat:=by omega
   subst e1
   have hr8:=zO5 hn hr
   rw [← zSx hn hr]
   clear hr
   refine zAd 1<|zAa<|zAh<|zBd ((↑e.toNat:Int)<e) (by omega)<|zAM 4<|zAh<|zAd 1<|S_a [(0,.n rows.length)] (ap (lnS zBl rows) an)<|zAc 1<|zAa<|zAk 12 ?_
   refine zAy (fun (i,q)=>i≤n.h.toNat∧q=(rows.take i).map zDo++rows.drop i) (fun ((i:Nat),(q:List (List Int)))=>[(7,.own 1 (q.map zBl)),(99,I (i:Nat))]) (fun (i,_)=>n.h.toNat-i) ((0:Nat),rows) ⟨Nat.zero_le _,by simp⟩ fun (i,q) ⟨hi,hq⟩=>?_
   have wh:q.length=n.h.toNat:=by rw [hq];simp;omega
   by_cases yP:i<n.h.toNat
   ·obtain ⟨g1,g2⟩:=zTg (rows:=rows) (i:=i) (by omega)
    rw [← hq] at g1 g2
    rw [← g1] at g2
    have hqe:(q.getD i []).length≤8:=by rw [g1,zAB (show i<rows.length by omega)];exact hr8 _ (List.getElem_mem _)
    clear hq hr8
    refine zAd 1<|zAa<|zAh<|zA3 ((↑i:Int)<(↑rows.length:Int)) (by omega)<|zAm<|zAh<|zAk 13<|zAh<|zAg<|S_a [(2,.ob),(1,.n i)] (ap ((by exact zAq (by simp only [List.length_map,zzLn]<;>omega)):decide (i<(List.map zBl rows).length)=true)<|ap ((by simp):some (0+i)=some i) an)<|S_a [(0,.cs false ([PV.bor 7 [(i,0)] 1 0 (List.map I (q.getD i [])).length])),(0,.v (PV.bor 7 [(i,0)] 1 0 (q.getD i []).length))] (ap (zCu (q:=PV.own 1 (List.map zBl q)) (xs:=List.map zBl q) (x:=PV.own 1 (List.map I (q.getD i []))) rfl (zCh [] (by omega)):zAr 7 (PV.own 1 (List.map zBl q)) [] i 0 1=some (false,[PV.bor 7 [(i,0)] 1 0 (List.map I (q.getD i [])).length]))<|ap ((by simp):PV.bor 7 [(i,0)] 1 0 (List.map I (q.getD i [])).length=PV.bor 7 [(i,0)] 1 0 (q.getD i []).length) an)<|zAc 1<|zAa<|zAg<|zAc 1<|S_a [(4,.ret (PV.tup []) ([PV.own 1 (List.map zBl (q.set i (zDo (q.getD i []))))]))] (ap (f56a q i (by omega) (by omega)) an)<|zAa<|zAg<|S_a [(1,.v (I (↑(i+1):Int)))] (ap (wrN i) an)<|zAc 1<|zAa ?_
    exact ⟨(i+1,q.set i (zDo (q.getD i []))),⟨by omega,g2⟩,by simp only;omega,by kernel_rfl,by kernel_rfl⟩
   ·rw [show i=n.h.toNat by omega,← hrl,List.take_length,List.drop_length,List.append_nil] at hq
    rw [← hq]
    clear hq hr8
    refine zAd 1<|zAa<|zAh<|zBd ((↑i:Int)<(↑rows.length:Int)) (by omega)<|zAM 12<|zAd 1<|S_a [(2,.yes)] (ap ((by exact zBB (by simp<;>omega)):(Nat.beq 0 0&&(List.map zBl q).length.beq (List.map zBl q).length)=true) an)<|zAa<|zAn<|E_a [(1,.yes),(1,.v (PV.own 1 (List.map zBl q)))] (ap (blz (List.map zBl q))<|ap ((zAZ zBe):PV.own 1 (List.take (List.map zBl q).length (List.drop 0 (List.map zBl q)))=PV.own 1 (List.map zBl q)) an) (PV.own 1 (List.map zBl q)) [] rfl rfl
end Go.Eng
set_option maxHeartbeats 1000000
namespace Go.Eng
open Go
theorem zIZ {p:Nat→Bool} {k i:Nat} (hi:i<k):has (zCZ p k) (i:Int)=p i:=by
 cases h:p i
 ·refine List.any_eq_false.2 fun y hy=>?_
  obtain ⟨j,h1,h2,h3⟩:=zMw.1 hy
  rw [decide_eq_true_eq]
  intro e
  have:j=i:=by omega
  rw [this,h] at h2;cases h2
 ·exact List.any_eq_true.2 ⟨(i:Int),zMw.2 ⟨i,hi,h,rfl⟩,decide_eq_true rfl⟩
theorem zRW {n:Nw} {a b:List (Int×Int)} (ho:NwOk n) {c:Nat} (hc:c<8) (h0:∀ h,h<n.h.toNat→∀ v,v≤(zLN n a).getD (h*8+c) 0↔v≤(zLN n b).getD (h*8+c) 0) :
  ∀ e h,h<n.h.toNat→∀ v,v≤(zBc n a e).getD (h*8+c) 0↔v≤(zBc n b e).getD (h*8+c) 0
 | 0=>h0
 | e+1=>fun h hh v=>by
  have ih:=zRW ho hc h0 e
  show v≤(zCs n (zBc n a e)).getD (h*8+c) 0↔v≤(zCs n (zBc n b e)).getD (h*8+c) 0
  rw [zNZ ho (zBH e) hh hc,zNZ ho (zBH e) hh hc,ih h hh]
  refine or_congr Iff.rfl ⟨fun ⟨o,h1,h2⟩=>⟨o,h1,(ih o (zLh h1) v).1 h2⟩,fun ⟨o,h1,h2⟩=>⟨o,h1,(ih o (zLh h1) v).2 h2⟩⟩
end Go.Eng
set_option maxHeartbeats 1000000
namespace Go.Eng
open Go
theorem zJd {n:Nw} {cs:List (Int×Int)} {e:Nat}:∀ r∈zEk n cs e,r.length≤n.n.length:=fun r hr=>by
 obtain ⟨h,_,rfl⟩:=List.mem_map.1 hr
 exact zVI
theorem zOj {n:Nw} {cs:List (Int×Int)} {e:Nat}:(zEk n cs e).length=n.h.toNat:=by simp [zEk]
theorem zQ9 {p q:Nat→Bool} {k:Nat} (h:zCZ p k=zCZ q k):∀ i,i<k→p i=q i:=fun i hi=>by
 rw [← zIZ (p:=p) hi,h,zIZ hi]
theorem zV6 {n:Nw} {a b:List (Int×Int)} (ha:CrW n a) (hb:CrW n b) (e:Nat):decide (zEk n a e=zEk n b e)=decide (zBc n a e=zBc n b e):=by
 rw [decide_eq_decide]
 constructor
 ·intro h
  have h2:zXN n (zVd n a e) (zVd n b e)=true:=by
   simp only [zXN,zZI,List.all_eq_true,List.mem_range,beq_iff_eq]
   intro x hx i hi
   rw [zNL ha.nw (zJb ha e) hx hi,zNL hb.nw (zJb hb e) hx hi]
   have h3:hoL n a e x=hoL n b e x:=by
    have h4:(zEk n a e)[x]? = (zEk n b e)[x]?:=by rw [h]
    simp only [zEk,List.getElem?_map,List.getElem?_range hx,Option.map_some,Option.some.injEq] at h4
    exact h4
   exact zQ9 h3 i hi
  rw [zXt ha hb,decide_eq_true_eq] at h2
  exact h2
 ·intro h
  unfold zEk
  refine List.map_congr_left fun x _=>?_
  unfold hoL;rw [h]
theorem zRO {n:Nw} {cs:List (Int×Int)} {x:Int×Int} (ho:CrW n cs) (hd:CrW n (cs++[x])) (hx:x∈cs) (e:Nat):zBc n (cs++[x]) e=zBc n cs e:=by
 have hh:∀ h i:Int,zJ8 n (cs++[x]) h i=zJ8 n cs h i:=by
  intro h i
  unfold zJ8
  rw [List.any_append,Bool.eq_iff_iff,Bool.or_eq_true]
  constructor
  ·rintro (h1 | h1)
   ·exact h1
   ·obtain ⟨y,h2,h3⟩:=List.any_eq_true.1 h1
    rw [List.mem_singleton.1 h2] at h3
    exact List.any_eq_true.2 ⟨x,hx,h3⟩
  ·exact .inl
 refine zQY (by rw [zBH,zBH]) fun j hj=>?_
 rw [zBH] at hj
 by_cases qI:n.h.toNat*8≤j
 ·rw [zHq hd.nw qI,zHq ho.nw qI e]
  show (begN n _ n.h.toNat).getD j 0=(begN n _ n.h.toNat).getD j 0
  rw [zFB hd _ qI,zFB ho _ qI]
 obtain ⟨h,c,vU,hc,rfl⟩:∃ h c,h<n.h.toNat∧c<8∧j=h*8+c:=⟨j / 8,j % 8,by omega,by omega,by omega⟩
 have:=zRW (a:=cs++[x]) (b:=cs) ho.nw hc (fun h hh' v=>by
  rw [(zQl hd).ge hh' hc,(zQl ho).ge hh' hc]
  simp only [hh]) e h vU
 have h1:=(this _).1 (Int.le_refl _)
 have h2:=(this _).2 (Int.le_refl _)
 omega
end Go.Eng
set_option maxRecDepth 10000
set_option maxHeartbeats 4000000
namespace Go.Eng
open Go Go.Proofs
section
variable [Yo]
theorem f60 (l:List (Int×Int)) (i:Nat) (h:i<l.length) (hl:l.length≤16):zAo Tryz.prog zCD 60 [.bor 50000000 [] 2 0 l.length,I (i:Nat),I ((i:Nat)+1:Int)] [.own 2 (l.map prV)] (.bor 50000000 [] 2 0 (l.length-1)) [.own 2 ((l.eraseIdx i++[(0,0)]).map prV)]:=by
 rcases l with _ | ⟨p0,_ | ⟨p1,_ | ⟨p2,_ | ⟨p3,_ | ⟨p4,_ | ⟨p5,_ | ⟨p6,_ | ⟨p7,_ | ⟨p8,_ | ⟨p9,_ | ⟨p10,_ | ⟨p11,_ | ⟨p12,_ | ⟨p13,_ | ⟨p14,_ | ⟨p15,_ | ⟨p16,l⟩⟩⟩⟩⟩⟩⟩⟩⟩⟩⟩⟩⟩⟩⟩⟩⟩
 ·exact absurd h (Nat.not_lt_zero _)
 ·obtain rfl:i=0:=by simp at h;omega
  ·exact zAo.closed 9
 ·obtain rfl | rfl:i=0∨i=1:=by simp at h;omega
  ·exact zAo.closed 9
  ·exact zAo.closed 9
 ·obtain rfl | rfl | rfl:i=0∨i=1∨i=2:=by simp at h;omega
  ·exact zAo.closed 9
  ·exact zAo.closed 9
  ·exact zAo.closed 9
 ·obtain rfl | rfl | rfl | rfl:i=0∨i=1∨i=2∨i=3:=by simp at h;omega
  ·exact zAo.closed 9
  ·exact zAo.closed 9
  ·exact zAo.closed 9
  ·exact zAo.closed 9
 ·obtain rfl | rfl | rfl | rfl | rfl:i=0∨i=1∨i=2∨i=3∨i=4:=by simp at h;omega
  ·exact zAo.closed 9
  ·exact zAo.closed 9
  ·exact zAo.closed 9
  ·exact zAo.closed 9
  ·exact zAo.closed 9
 ·obtain rfl | rfl | rfl | rfl | rfl | rfl:i=0∨i=1∨i=2∨i=3∨i=4∨i=5:=by simp at h;omega
  ·exact zAo.closed 9
  ·exact zAo.closed 9
  ·exact zAo.closed 9
  ·exact zAo.closed 9
  ·exact zAo.closed 9
  ·exact zAo.closed 9
 ·obtain rfl | rfl | rfl | rfl | rfl | rfl | rfl:i=0∨i=1∨i=2∨i=3∨i=4∨i=5∨i=6:=by simp at h;omega
  ·exact zAo.closed 9
  ·exact zAo.closed 9
  ·exact zAo.closed 9
  ·exact zAo.closed 9
  ·exact zAo.closed 9
  ·exact zAo.closed 9
  ·exact zAo.closed 9
 ·obtain rfl | rfl | rfl | rfl | rfl | rfl | rfl | rfl:i=0∨i=1∨i=2∨i=3∨i=4∨i=5∨i=6∨i=7:=by simp at h;omega
  ·exact zAo.closed 9
  ·exact zAo.closed 9
  ·exact zAo.closed 9
  ·exact zAo.closed 9
  ·exact zAo.closed 9
  ·exact zAo.closed 9
  ·exact zAo.closed 9
  ·exact zAo.closed 9
 ·obtain rfl | rfl | rfl | rfl | rfl | rfl | rfl | rfl | rfl:i=0∨i=1∨i=2∨i=3∨i=4∨i=5∨i=6∨i=7∨i=8:=by simp at h;omega
  ·exact zAo.closed 9
  ·exact zAo.closed 9
  ·exact zAo.closed 9
  ·exact zAo.closed 9
  ·exact zAo.closed 9
  ·exact zAo.closed 9
  ·exact zAo.closed 9
  ·exact zAo.closed 9
  ·exact zAo.closed 9
 ·obtain rfl | rfl | rfl | rfl | rfl | rfl | rfl | rfl | rfl | rfl:i=0∨i=1∨i=2∨i=3∨i=4∨i=5∨i=6∨i=7∨i=8∨i=9:=by simp at h;omega
  ·exact zAo.closed 9
  ·exact zAo.closed 9
  ·exact zAo.closed 9
  ·exact zAo.closed 9
  ·exact zAo.closed 9
  ·exact zAo.closed 9
  ·exact zAo.closed 9
  ·exact zAo.closed 9
  ·exact zAo.closed 9
  ·exact zAo.closed 9
 ·obtain rfl | rfl | rfl | rfl | rfl | rfl | rfl | rfl | rfl | rfl | rfl:i=0∨i=1∨i=2∨i=3∨i=4∨i=5∨i=6∨i=7∨i=8∨i=9∨i=10:=by simp at h;omega
  ·exact zAo.closed 9
  ·exact zAo.closed 9
  ·exact zAo.closed 9
  ·exact zAo.closed 9
  ·exact zAo.closed 9
  ·exact zAo.closed 9
  ·exact zAo.closed 9
  ·exact zAo.closed 9
  ·exact zAo.closed 9
  ·exact zAo.closed 9
  ·exact zAo.closed 9
 ·obtain rfl | rfl | rfl | rfl | rfl | rfl | rfl | rfl | rfl | rfl | rfl | rfl:i=0∨i=1∨i=2∨i=3∨i=4∨i=5∨i=6∨i=7∨i=8∨i=9∨i=10∨i=11:=by simp at h;omega
  ·exact zAo.closed 9
  ·exact zAo.closed 9
  ·exact zAo.closed 9
  ·exact zAo.closed 9
  ·exact zAo.closed 9
  ·exact zAo.closed 9
  ·exact zAo.closed 9
  ·exact zAo.closed 9
  ·exact zAo.closed 9
  ·exact zAo.closed 9
  ·exact zAo.closed 9
  ·exact zAo.closed 9
 ·obtain rfl | rfl | rfl | rfl | rfl | rfl | rfl | rfl | rfl | rfl | rfl | rfl | rfl:i=0∨i=1∨i=2∨i=3∨i=4∨i=5∨i=6∨i=7∨i=8∨i=9∨i=10∨i=11∨i=12:=by simp at h;omega
  ·exact zAo.closed 9
  ·exact zAo.closed 9
  ·exact zAo.closed 9
  ·exact zAo.closed 9
  ·exact zAo.closed 9
  ·exact zAo.closed 9
  ·exact zAo.closed 9
  ·exact zAo.closed 9
  ·exact zAo.closed 9
  ·exact zAo.closed 9
  ·exact zAo.closed 9
  ·exact zAo.closed 9
  ·exact zAo.closed 9
 ·obtain rfl | rfl | rfl | rfl | rfl | rfl | rfl | rfl | rfl | rfl | rfl | rfl | rfl | rfl:i=0∨i=1∨i=2∨i=3∨i=4∨i=5∨i=6∨i=7∨i=8∨i=9∨i=10∨i=11∨i=12∨i=13:=by simp at h;omega
  ·exact zAo.closed 9
  ·exact zAo.closed 9
  ·exact zAo.closed 9
  ·exact zAo.closed 9
  ·exact zAo.closed 9
  ·exact zAo.closed 9
  ·exact zAo.closed 9
  ·exact zAo.closed 9
  ·exact zAo.closed 9
  ·exact zAo.closed 9
  ·exact zAo.closed 9
  ·exact zAo.closed 9
  ·exact zAo.closed 9
  ·exact zAo.closed 9
 ·obtain rfl | rfl | rfl | rfl | rfl | rfl | rfl | rfl | rfl | rfl | rfl | rfl | rfl | rfl | rfl:i=0∨i=1∨i=2∨i=3∨i=4∨i=5∨i=6∨i=7∨i=8∨i=9∨i=10∨i=11∨i=12∨i=13∨i=14:=by simp at h;omega
  ·exact zAo.closed 9
  ·exact zAo.closed 9
  ·exact zAo.closed 9
  ·exact zAo.closed 9
  ·exact zAo.closed 9
  ·exact zAo.closed 9
  ·exact zAo.closed 9
  ·exact zAo.closed 9
  ·exact zAo.closed 9
  ·exact zAo.closed 9
  ·exact zAo.closed 9
  ·exact zAo.closed 9
  ·exact zAo.closed 9
  ·exact zAo.closed 9
  ·exact zAo.closed 9
 ·obtain rfl | rfl | rfl | rfl | rfl | rfl | rfl | rfl | rfl | rfl | rfl | rfl | rfl | rfl | rfl | rfl:i=0∨i=1∨i=2∨i=3∨i=4∨i=5∨i=6∨i=7∨i=8∨i=9∨i=10∨i=11∨i=12∨i=13∨i=14∨i=15:=by simp at h;omega
  ·exact zAo.closed 9
  ·exact zAo.closed 9
  ·exact zAo.closed 9
  ·exact zAo.closed 9
  ·exact zAo.closed 9
  ·exact zAo.closed 9
  ·exact zAo.closed 9
  ·exact zAo.closed 9
  ·exact zAo.closed 9
  ·exact zAo.closed 9
  ·exact zAo.closed 9
  ·exact zAo.closed 9
  ·exact zAo.closed 9
  ·exact zAo.closed 9
  ·exact zAo.closed 9
  ·exact zAo.closed 9
 ·simp at hl
end
end Go.Eng
set_option maxRecDepth 10000
set_option maxHeartbeats 4000000
namespace Go.Eng
open Go Go.Proofs
def zPB (n:Nw) (cs:List (Int×Int)) (e i:Nat):Bool:=decide (zBc n (cs.eraseIdx i) e=zBc n cs e)
theorem zSu {n:Nw} {cs:List (Int×Int)} (ho:CrW n cs) (i:Nat):CrW n (cs.eraseIdx i) :=
 ⟨ho.nw,Nat.le_trans (List.length_eraseIdx_le _ _) ho.len,fun c hc=>ho.cs c (List.mem_of_mem_eraseIdx hc)⟩
theorem f46_1 (n:Nw) (cs:List (Int×Int)) (e:Int) (ho:EvOk n cs e):FG 46 [nwV n,prs cs,I e] (.tup [.own 1 ((zCZ (zPB n cs e.toNat) cs.length).map I),I 0]):=by
 have hc:=ho.cr
 have uj:=hc.w
 have hn:=hc.nw
 have yO:=hc.len
 have he:=ho.ev
 have hwl:=zBH (n:=n) (cs:=cs) e.toNat
 refine zAe Tryz.f46 ?_
 refine zAd 3<|zAa<|zAd 3<|S_a [(10,.ret (PV.tup [zDT n cs,I 0]) [])] (ap (f90_1 n cs e (by omega)) an)<|zAc 5<|zAa<|zAh<|zAd 2<|zAa<|zAH<|zAm<|zAd 2<|S_a [(7,.ret (hdV (zBc n cs e.toNat)) [])] (ap (f92 n cs e (by omega) (by omega)) an)<|zAc 2<|zAa<|zAd 1<|zAa<|zAh<|zAd 1<|S_a [(0,.n cs.length)] (ap (lnS prV cs) an)<|zAc 1<|zAa<|zAk 0 ?_
 refine zAy (fun (i,l)=>i≤cs.length∧l=zCZ (zPB n cs e.toNat) i) (fun ((i:Nat),(l:List Int))=>[(11,.own 1 (l.map I)),(29,I (i:Nat))]) (fun (i,_)=>cs.length-i) ((0:Nat),([]:List Int)) ⟨Nat.zero_le _,by simp [zCZ]⟩ fun (i,l) ⟨hi,hl⟩=>?_
 have qT:l.length≤i:=by rw [hl];exact zGS
 by_cases yP:i<cs.length
 ·have y5:(cs.eraseIdx i).length=cs.length-1:=List.length_eraseIdx_of_lt yP
  have hte:(cs.eraseIdx i++[((0:Int),(0:Int))]).take (cs.length-1)=cs.eraseIdx i:=by rw [← y5,List.take_left]
  have hlw:CrW n ((cs.eraseIdx i++[((0:Int),(0:Int))]).take (cs.length-1)):=by rw [hte];exact zSu uj i
  have hwl2:(zBc n ((cs.eraseIdx i++[((0:Int),(0:Int))]).take (cs.length-1)) e.toNat).length=80:=zBH _
  have yU:=zHH (p:=zPB n cs e.toNat) (k:=i)
  rw [← hl,show zPB n cs e.toNat i=decide (zBc n ((cs.eraseIdx i++[((0:Int),(0:Int))]).take (cs.length-1)) e.toNat=zBc n cs e.toNat) by rw [hte];rfl] at yU
  clear hl hte
  refine zAd 1<|zAa<|zAh<|zA3 ((↑i:Int)<(↑cs.length:Int)) (by omega)<|zAm<|zAh<|zAk 1<|zAd 2<|zAa<|zAd 5<|zAa<|zAd 1<|S_a [(6,.ret (PV.own 2 (List.map prV cs)) [])] (ap (f61 cs (by omega)) an)<|zAc 2<|S_a [(1,.v (I (↑(i+1):Int)))] (ap (wrN i) an)<|S_a [(7,.vs ([PV.bor 50000000 [] 2 0 cs.length,I (↑i:Int),I (↑(i+1):Int)])),(0,.ret (PV.bor 50000000 [] 2 0 (cs.length-1)) ([PV.own 2 (List.map prV (cs.eraseIdx i++[(0,0)]))]))] (ap ((by simp) : [PV.bor 50000000 [] 2 0 (List.map prV cs).length,I (↑i:Int),I (↑(i+1):Int)]=[PV.bor 50000000 [] 2 0 cs.length,I (↑i:Int),I (↑(i+1):Int)])<|ap (f60 cs i (by omega) (by omega)) an)<|zAc 2<|zAa<|zAd 1<|S_a [(16,.ob),(0,.v (prs (List.take (cs.length-1) (cs.eraseIdx i++[(0,0)])))),(38,.ret (hdV (zBc n (List.take (cs.length-1) (cs.eraseIdx i++[(0,0)])) e.toNat)) [])] (ap ((by exact zA4 (by simp only [List.length_map,zzLn,zAS]<;>omega)):(0+(cs.length-1)).ble (List.map prV (cs.eraseIdx i++[(0,0)])).length=true)<|ap ((zKo (zB4 (by simp [zBE]) (zAG _))):PV.sl (zAv (List.take (cs.length-1) (List.drop 0 (List.map prV (cs.eraseIdx i++[(0,0)])))))=prs (List.take (cs.length-1) (cs.eraseIdx i++[(0,0)])))<|ap (f92 n (List.take (cs.length-1) (cs.eraseIdx i++[(0,0)])) e (by omega) (by omega)) an)<|zAc 1<|S_a [(0,.v (PV.bool (decide (zBc n (List.take (cs.length-1) (cs.eraseIdx i++[(0,0)])) e.toNat=zBc n cs e.toNat))))] (ap (zVV 80 (by omega) (by omega):zHt Tryz.prog BinOp.eql 130 (PV.agg (zAX (zBc n (List.take (cs.length-1) (cs.eraseIdx i++[(0,0)])) e.toNat) 80)) (PV.agg (zAX (zBc n cs e.toNat) 80))=some (PV.bool (decide (zBc n (List.take (cs.length-1) (cs.eraseIdx i++[(0,0)])) e.toNat=zBc n cs e.toNat)))) an)<|zAa<|zDn (zBc n (List.take (cs.length-1) (cs.eraseIdx i++[(0,0)])) e.toNat=zBc n cs e.toNat) (fun k0=>(zAg<|zAc 3<|S_a [(4,.ob),(0,.ob),(0,.yes),(2,.v (PV.own 1 (List.map I (l++[(↑i:Int)]))))] (ap (blz (List.map I l))<|ap ((by exact zA4 (by simp only [List.length_map,zzLn,zAS]<;>omega)):((List.map I l).length + [I (↑i:Int)].length).ble zAS=true)<|ap ((by exact zBB (by simp<;>omega)):(0+(List.map I l).length).beq (List.map I l).length=true)<|ap ((zAZ (zBI (by kernel_rfl))):PV.own 1 (List.map I l++[I (↑i:Int)])=PV.own 1 (List.map I (l++[(↑i:Int)]))) an)<|zAc 1<|zAa<|zAg<|S_a [(1,.v (I (↑(i+1):Int)))] (ap (wrN i) an)<|zAc 1<|zAa ?_)) (fun k0=>(zAm<|zAg<|S_a [(1,.v (I (↑(i+1):Int)))] (ap (wrN i) an)<|zAc 1<|zAa ?_))
  ·rw [if_pos (decide_eq_true k0)] at yU
   exact ⟨(i+1,l++[(i:Int)]),⟨by omega,yU.symm⟩,by simp only;omega,by kernel_rfl,by kernel_rfl⟩
  ·rw [if_neg (by rw [decide_eq_true_eq];exact k0)] at yU
   exact ⟨(i+1,l),⟨by omega,yU.symm⟩,by simp only;omega,by kernel_rfl,by kernel_rfl⟩
 ·have e1:i=cs.length:=by omega
  subst e1
  rw [← hl]
  clear hl
  refine zAd 1<|zAa<|zAh<|zBd ((↑cs.length:Int)<(↑cs.length:Int)) (by omega)<|zAM 0<|zAd 1<|S_a [(2,.yes)] (ap ((by exact zBB (by simp<;>omega)):(Nat.beq 0 0&&(List.map I l).length.beq (List.map I l).length)=true) an)<|zAc 1<|zAa<|zAn<|E_a [(1,.yes),(1,.v (PV.own 1 (List.map I l)))] (ap (blz (List.map I l))<|ap ((zAZ zBe):PV.own 1 (List.take (List.map I l).length (List.drop 0 (List.map I l)))=PV.own 1 (List.map I l)) an) (PV.tup [PV.own 1 (List.map I l),I 0]) [] rfl rfl
end Go.Eng
