/- For all numbers, cries and when the law NewsMisled ends in true: who is misled is left, and in linked towns nobody is left in the end; without conditions. -/
import Derived.Test.YtppbomajegnkeaaPg
import Derived.Test.YtppbomajegnkeaaPd
set_option linter.unusedVariables false
set_option linter.unusedSimpArgs false
set_option linter.unusedSectionVars false
set_option maxRecDepth 10000
set_option maxHeartbeats 4000000
namespace Go.Eng
open Go Go.Proofs
section
variable [Yo]
theorem f6_ex (l:List Int) (a:Nat) (t hs ns ss:Int) (h:zDS l a) (hh:2≤hs∧hs≤8) (hn:2≤ns∧ns≤6) (yH:1≤ss∧ss≤4):∃ v h',zBD Try.prog zBO 6 [zPU,I hs,I ns,I ss] [zB3 l a t] v h'∧∃ (n:Nw) (a':Nat) (t':Int),v=nwO n∧h'=[zB3 l a' t']∧zGF n=0∧n.h≤hs∧(n.n.length:Int)≤ns∧(n.s.length:Int)≤ss∧zDS l a':=by
 refine zMp Try.f6 _ ?_
 have g1:=zCE h
 have s1:=zCF l a t (hs-2)
 refine zAd 1<|zAa<|zAd 2<|S_a [(8,.ret (I (2+zAq l a t (hs-2))) ([zB3 l (zAD l a) (zAI l a t)]))] (ap (f36 l a t (2) hs (by omega) (by omega) (by omega)) an)<|zAc 3<|zAa<|zAh<|zAd 1<|zAa<|zAk 0 ?_
 have hH1:2≤2+zAq l a t (hs-2)∧2+zAq l a t (hs-2)≤hs:=by omega
 generalize 2+zAq l a t (hs-2)=H at *
 clear s1
 generalize zAI l a t=T0 at *
 generalize zAD l a=A0 at *
 refine zAz (fun (h,q,a,_)=>1≤h∧(h:Int)≤H∧LkOk q h∧zDS l a) (fun ((h:Nat),(q:List (Int×Int)),(a:Nat),(t:Int))=>[(9,.box (.agg [I H,.own 2 (q.map prV),.own 2 [],.own 1 []])),(10,I (h:Nat)),(50000000,zB3 l a t)]) (fun (h,_,_,_)=>H.toNat-h) ((1:Nat),([]:List (Int×Int)),A0,T0) ⟨Nat.le_refl _,by omega,⟨fun x hx=>absurd hx List.not_mem_nil,List.nodup_nil,by simp only [List.length_nil];omega⟩,g1⟩ fun (h,q,a,t) ⟨qm,hhH,hq,ha⟩=>?_
 have qc:=hq.len
 by_cases gw:(h:Int)<H
 ·have g2:=zCE ha
  have g3:=zCE g2
  have s2:=zCF l (zAD l a) (zAI l a t) ((h-1:Nat):Int)
  have kU:=hq.skip
  have kF:LkOk (q++[((h:Int),zAq l (zAD l a) (zAI l a t) ((h-1:Nat):Int))]) ((h:Int)+1):=hq.snoc (by omega) (by omega)
  clear hq
  refine zAh<|zAd 4<|zAa<|zA5 ((↑h:Int)<H) (by omega)<|zAl<|zAh<|zAk 1<|zAd 1<|S_a [(6,.ret (PV.bool (decide (zAq l a t (5-1)=0))) ([zB3 l (zAD l a) (zAI l a t)]))] (ap (f37 l a t (5) (by omega) (by omega)) an)<|zAc 1<|zAa<|zD9 (zAq l a t (5-1)=0) (fun k0=>(zAg<|zAc 1<|S_a [(1,.v (PV.bor 9 [(0,1)] 2 0 q.length))] (ap ((by simp):PV.bor 9 [(0,1)] 2 0 (List.map prV q).length=PV.bor 9 [(0,1)] 2 0 q.length) an)<|zAc 3<|S_a [(1,.v (I (↑(h-1):Int)))] (ap ((zCq (by omega) (by omega)):I (IntKind.i64.wrap ((↑h:Int)-1))=I (↑(h-1):Int)) an)<|S_a [(6,.ret (I (zAq l (zAD l a) (zAI l a t) (↑(h-1):Int))) ([zB3 l (zAD l (zAD l a)) (zAI l (zAD l a) (zAI l a t))]))] (ap (f38 l (zAD l a) (zAI l a t) ((↑(h-1):Int)) (by omega) (by omega)) an)<|zAc 2<|S_a [(4,.ob),(0,.ob),(0,.yes),(2,.v (PV.own 2 (List.map prV (q++[((↑h:Int),zAq l (zAD l a) (zAI l a t) (↑(h-1):Int))]))))] (ap ((by exact zBb (by simp only [List.length_map,zzLn,zAY]<;>omega)):(0+q.length).ble (List.map prV q).length=true)<|ap ((by exact zBb (by simp only [List.length_map,zzLn,zAY]<;>omega)):((List.map prV q).length + [PV.agg [I (↑h:Int),I (zAq l (zAD l a) (zAI l a t) (↑(h-1):Int))]].length).ble zAY=true)<|ap ((by exact zBR (by simp<;>omega)):(0+q.length).beq (List.map prV q).length=true)<|ap ((zA8 (zBV (by kernel_rfl))):PV.own 2 (List.map prV q++[PV.agg [I (↑h:Int),I (zAq l (zAD l a) (zAI l a t) (↑(h-1):Int))]])=PV.own 2 (List.map prV (q++[((↑h:Int),zAq l (zAD l a) (zAI l a t) (↑(h-1):Int))]))) an)<|zAc 2<|zAa<|zAg<|zAc 1<|S_a [(1,.v (I (↑(h+1):Int)))] (ap (wrN h) an)<|zAc 1<|zAa ?_)) (fun k0=>(zAl<|zAg<|zAc 1<|S_a [(1,.v (I (↑(h+1):Int)))] (ap (wrN h) an)<|zAc 1<|zAa ?_))
  ·exact ⟨(h+1,q++[((h:Int),zAq l (zAD l a) (zAI l a t) ((h-1:Nat):Int))],zAD l (zAD l a),zAI l (zAD l a) (zAI l a t)),⟨by omega,by omega,kF,g3⟩,by simp only;omega,by kernel_rfl,by kernel_rfl⟩
  ·exact ⟨(h+1,q,zAD l a,zAI l a t),⟨by omega,by omega,kU,g2⟩,by simp only;omega,by kernel_rfl,by kernel_rfl⟩
 have wW:(h:Int)=H:=by omega
 rw [wW] at hq
 have g2:=zCE ha
 refine zAh<|zAd 4<|zAa ?_
 refine zBd ((h:Int)<H) (by omega)<|zAO 0 ?_
 refine zWp (fun (q,a,_,_)=>LkEnd q H∧zDS l a) (fun ((q:List (Int×Int)),(a:Nat),(t:Int),(x:Bool))=>[(9,.box (.agg [I H,.own 2 (q.map prV),.own 2 [],.own 1 []])),(55,.bool x),(50000000,zB3 l a t)]) [] ?_ fun (q2,a2,t2,x2) ⟨kF,ji⟩=>?_
 ·have hnr:FG 39 [.agg [I H,.sl (q.map prV),.sl [],.sl []],I 0,I (H-1)] (.bool (zDP ⟨H,q,[],[]⟩ 0 (H-1))):=f39 ⟨H,q,[],[]⟩ 0 (H-1) (by simp only;omega)
  have yK:=hq.fin
  have hfar:=fun hb=>LkOk.far (n:=⟨H,q,[],[]⟩) hq (by simp only;omega) hb
  simp only at hfar
  clear hq
  refine zAd 4<|zIR 44 (H>3) (fun k0=>(zAc 1<|S_a [(6,.ret (PV.bool (decide (zAq l a t (2-1)=0))) ([zB3 l (zAD l a) (zAI l a t)]))] (ap (f37 l a t (2) (by omega) (by omega)) an)<|zAc 2<|zIR 48 (zAq l a t (2-1)=0) (fun k1=>(zAc 3<|S_a [(1,.v (I (H-1)))] (ap ((zCq rfl (by omega)):I (IntKind.i64.wrap (H-1))=I (H-1)) an)<|S_a [(6,.ob),(0,.v (prs q)),(12,.ret (PV.bool (zDP {h:=H,l:=q,n:=[],s:=[]} 0 (H-1))) [])] (ap (blz (List.map prV q))<|ap (frT prV q)<|ap hnr an)<|zAc 2<|zAa<|zED (!zDP {h:=H,l:=q,n:=[],s:=[]} 0 (H-1)) (fun k2=>(zAg<|zAc 1<|S_a [(1,.v (PV.bor 9 [(0,1)] 2 0 q.length))] (ap ((by simp):PV.bor 9 [(0,1)] 2 0 (List.map prV q).length=PV.bor 9 [(0,1)] 2 0 q.length) an)<|zAc 2<|S_a [(1,.v (I (H-1)))] (ap ((zCq rfl (by omega)):I (IntKind.i64.wrap (H-1))=I (H-1)) an)<|zAc 2<|S_a [(4,.ob),(0,.ob),(0,.yes),(2,.v (PV.own 2 (List.map prV (q++[(0,H-1)]))))] (ap ((by exact zBb (by simp only [List.length_map,zzLn,zAY]<;>omega)):(0+q.length).ble (List.map prV q).length=true)<|ap ((by exact zBb (by simp only [List.length_map,zzLn,zAY]<;>omega)):((List.map prV q).length + [PV.agg [I 0,I (H-1)]].length).ble zAY=true)<|ap ((by exact zBR (by simp<;>omega)):(0+q.length).beq (List.map prV q).length=true)<|ap ((zA8 (zBV (by kernel_rfl))):PV.own 2 (List.map prV q++[PV.agg [I 0,I (H-1)]])=PV.own 2 (List.map prV (q++[(0,H-1)]))) an)<|zAc 2<|zAa ?_)) (fun k2=>(zAl ?_)))) (fun k1=>(zAc 7<|zAa<|zAN<|zAl ?_)))) (fun k0=>(zAc 11<|zAa<|zAN<|zAl ?_))
  ·exact ⟨(q++[(0,H-1)],zAD l a,zAI l a t,!zDP ⟨H,q,[],[]⟩ 0 (H-1)),⟨hfar (by simpa using k2),g2⟩,by kernel_rfl,by kernel_rfl⟩
  ·exact ⟨(q,zAD l a,zAI l a t,!zDP ⟨H,q,[],[]⟩ 0 (H-1)),⟨yK,g2⟩,by kernel_rfl,by kernel_rfl⟩
  ·exact ⟨(q,zAD l a,zAI l a t,false),⟨yK,g2⟩,by kernel_rfl,by kernel_rfl⟩
  ·exact ⟨(q,a,t,false),⟨yK,ha⟩,by kernel_rfl,by kernel_rfl⟩
 have h1:=kF.len
 have g3:=zCE ji
 have s1:=zCF l a2 t2 (ns-2)
 clear hq
 refine zAd 1<|zAa<|zAh<|zAd 2<|S_a [(8,.ret (I (2+zAq l a2 t2 (ns-2))) ([zB3 l (zAD l a2) (zAI l a2 t2)]))] (ap (f36 l a2 t2 (2) ns (by omega) (by omega) (by omega)) an)<|zAc 1<|zAa<|zAk 2 ?_
 have hm1:2≤2+zAq l a2 t2 (ns-2)∧2+zAq l a2 t2 (ns-2)≤ns:=by omega
 generalize 2+zAq l a2 t2 (ns-2)=m at *
 clear s1
 generalize zAI l a2 t2=T1 at *
 generalize zAD l a2=A1 at *
 refine zAz (fun (i,F,N,a,_)=>(i:Int)≤m∧NtOk F N i∧zDS l a) (fun ((i:Nat),(F:List Int),(N:List (Int×Bool)),(a:Nat),(t:Int))=>[(9,.box (.agg [I H,.own 2 (q2.map prV),.own 2 (N.map ntV),.own 1 []])),(11,.own 1 (F.map I)),(68,I (i:Nat)),(50000000,zB3 l a t)]) (fun (i,_,_,_,_)=>m.toNat-i) ((0:Nat),([]:List Int),([]:List (Int×Bool)),A1,T1) ⟨by omega,⟨rfl,Nat.le_refl _,fun f hf=>absurd hf List.not_mem_nil,List.nodup_nil,fun j hj=>absurd hj (Nat.not_lt_zero j),fun j k LB hj=>absurd hj (Nat.not_lt_zero j),fun f hf=>absurd hf List.not_mem_nil⟩,g3⟩ fun (i,F,N,a,t) ⟨him,hN,ha⟩=>?_
 have hNl:=hN.len
 have hFl:=hN.fl
 by_cases yR:(i:Int)<m
 ·have g4:=zCE ha
  have g5:=zCE g4
  have g6:=zCE g5
  have s2:=zCF l (zAD l a) (zAI l a t) ((F.length-1:Nat):Int)
  have yM:=fun b=>hN.one (b:=b)
  by_cases hF:0<F.length
  ·have hstk:=f38 l (zAD l a) (zAI l a t) ((F.length-1:Nat):Int) g4 (by omega)
   generalize zAq l (zAD l a) (zAI l a t) ((F.length-1:Nat):Int)=s at hstk s2
   obtain ⟨k,rfl⟩:∃ k:Nat,s=k:=⟨s.toNat,by omega⟩
   have hdel:=f40g F k (by omega) (by omega)
   have hmore:=fun b=>hN.more (b:=b) (k:=k) (by omega)
   have htk:(F.eraseIdx k++[0]).take (F.length-1)=F.eraseIdx k:=by
    rw [List.take_append_of_le_length (by rw [List.length_eraseIdx_of_lt (by omega)];exact Nat.le_refl _),List.take_of_length_le (by rw [List.length_eraseIdx_of_lt (by omega)];exact Nat.le_refl _)]
   have yz:(F.eraseIdx k).length=F.length-1:=List.length_eraseIdx_of_lt (by omega)
   have vS:∀ b,NtOk ((F.eraseIdx k++[0]).take (F.length-1)++[(i:Int)]) (N++[(F.getD k 0,b)]) (i+1):=fun b=>by rw [htk];exact hmore b
   clear hN
   refine zAd 1<|zAa<|zAh<|zA5 ((↑i:Int)<m) (by omega)<|zAl<|zAh<|zAk 3<|zAd 2<|zAa<|zAd 1<|zAa<|zAh<|zAd 1<|S_a [(0,.n F.length)] (ap (lnS I F) an)<|zAc 2<|zRh 74 ((↑F.length:Int)>0) (by omega) (zAc 1<|S_a [(6,.ret (PV.bool (decide (zAq l a t (3-1)=0))) ([zB3 l (zAD l a) (zAI l a t)]))] (ap (f37 l a t (3) (by omega) (by omega)) an)<|zAc 2<|zAa<|zD9 (zAq l a t (3-1)=0) (fun k1=>(zAd 2<|S_a [(0,.n F.length)] (ap (lnS I F) an)<|S_a [(1,.v (I (↑(F.length-1):Int)))] (ap ((zCq (by omega) (by omega)):I (IntKind.i64.wrap ((↑F.length:Int)-1))=I (↑(F.length-1):Int)) an)<|S_a [(6,.ret (I (↑k:Int)) ([zB3 l (zAD l (zAD l a)) (zAI l (zAD l a) (zAI l a t))]))] (ap hstk an)<|zAc 1<|zAa<|zAd 2<|S_a [(2,.ob),(1,.n k)] (ap ((by exact zAp (by simp only [List.length_map,zzLn]<;>omega)):decide (k<(List.map I F).length)=true)<|ap ((by simp):some (0+k)=some k) an)<|S_a [(0,.cs false ([I (F.getD k 0)]))] (ap (zC8 (q:=PV.own 1 (List.map I F)) (xs:=List.map I F) (x:=I (F.getD k 0)) rfl (zCG (0) (by omega)):zAs 11 (PV.own 1 (List.map I F)) [] k 0 1=some (false,[I (F.getD k 0)])) an)<|zAc 1<|zAa<|zAg<|zAc 3<|S_a [(1,.v (I (↑(k+1):Int)))] (ap (wrN k) an)<|S_a [(7,.vs ([PV.bor 50000000 [] 1 0 F.length,I (↑k:Int),I (↑(k+1):Int)])),(0,.ret (PV.bor 50000000 [] 1 0 (F.length-1)) ([PV.own 1 (List.map I (F.eraseIdx k++[0]))]))] (ap ((by simp) : [PV.bor 50000000 [] 1 0 (List.map I F).length,I (↑k:Int),I (↑(k+1):Int)]=[PV.bor 50000000 [] 1 0 F.length,I (↑k:Int),I (↑(k+1):Int)])<|ap hdel an)<|S_a [(1,.ob),(0,.v (PV.own 1 (List.map I (List.take (F.length-1) (F.eraseIdx k++[0])))))] (ap ((by exact zBb (by simp only [List.length_map,zzLn,zAY]<;>omega)):(0+(F.length-1)).ble (List.map I (F.eraseIdx k++[0])).length=true)<|ap ((by simp):PV.own 1 (List.take (F.length-1) (List.drop 0 (List.map I (F.eraseIdx k++[0]))))=PV.own 1 (List.map I (List.take (F.length-1) (F.eraseIdx k++[0])))) an)<|zAa<|zAd 3<|S_a [(4,.ob),(0,.ob),(0,.yes),(2,.v (PV.own 1 (List.map I (List.take (F.length-1) (F.eraseIdx k++[0])++[(↑i:Int)]))))] (ap (blz (List.map I (List.take (F.length-1) (F.eraseIdx k++[0]))))<|ap ((by exact zBb (by simp [zAY]<;>omega)):((List.map I (List.take (F.length-1) (F.eraseIdx k++[0]))).length + [I (↑i:Int)].length).ble zAY=true)<|ap ((by exact zBR (by simp<;>omega)):(0+(List.map I (List.take (F.length-1) (F.eraseIdx k++[0]))).length).beq (List.map I (List.take (F.length-1) (F.eraseIdx k++[0]))).length=true)<|ap ((zA8 (zBV (by kernel_rfl))):PV.own 1 (List.map I (List.take (F.length-1) (F.eraseIdx k++[0]))++[I (↑i:Int)])=PV.own 1 (List.map I (List.take (F.length-1) (F.eraseIdx k++[0])++[(↑i:Int)]))) an)<|zAc 1<|zAa<|zAg<|zAc 1<|S_a [(1,.v (PV.bor 9 [(0,2)] 2 0 N.length))] (ap ((by simp):PV.bor 9 [(0,2)] 2 0 (List.map ntV N).length=PV.bor 9 [(0,2)] 2 0 N.length) an)<|zAc 2<|S_a [(6,.ret (PV.bool (decide (zAq l (zAD l (zAD l a)) (zAI l (zAD l a) (zAI l a t)) (3-1)=0))) ([zB3 l (zAD l (zAD l (zAD l a))) (zAI l (zAD l (zAD l a)) (zAI l (zAD l a) (zAI l a t)))]))] (ap (f37 l (zAD l (zAD l a)) (zAI l (zAD l a) (zAI l a t)) (3) (by omega) (by omega)) an)<|zAc 2<|S_a [(4,.ob),(0,.ob),(0,.yes),(2,.v (PV.own 2 (List.map ntV (N++[(F.getD k 0,decide (zAq l (zAD l (zAD l a)) (zAI l (zAD l a) (zAI l a t)) (3-1)=0))]))))] (ap ((by exact zBb (by simp only [List.length_map,zzLn,zAY]<;>omega)):(0+N.length).ble (List.map ntV N).length=true)<|ap ((by exact zBb (by simp only [List.length_map,zzLn,zAY]<;>omega)):((List.map ntV N).length + [PV.agg [I (F.getD k 0),PV.bool (decide (zAq l (zAD l (zAD l a)) (zAI l (zAD l a) (zAI l a t)) (3-1)=0))]].length).ble zAY=true)<|ap ((by exact zBR (by simp<;>omega)):(0+N.length).beq (List.map ntV N).length=true)<|ap ((zA8 (zBV (by kernel_rfl))):PV.own 2 (List.map ntV N++[PV.agg [I (F.getD k 0),PV.bool (decide (zAq l (zAD l (zAD l a)) (zAI l (zAD l a) (zAI l a t)) (3-1)=0))]])=PV.own 2 (List.map ntV (N++[(F.getD k 0,decide (zAq l (zAD l (zAD l a)) (zAI l (zAD l a) (zAI l a t)) (3-1)=0))]))) an)<|zAc 2<|zAa<|zAg<|S_a [(1,.v (I (↑(i+1):Int)))] (ap (wrN i) an)<|zAc 1<|zAa ?_)) (fun k1=>(zAl<|zAd 3<|S_a [(4,.ob),(0,.ob),(0,.yes),(2,.v (PV.own 1 (List.map I (F++[(↑i:Int)]))))] (ap (blz (List.map I F))<|ap ((by exact zBb (by simp only [List.length_map,zzLn,zAY]<;>omega)):((List.map I F).length + [I (↑i:Int)].length).ble zAY=true)<|ap ((by exact zBR (by simp<;>omega)):(0+(List.map I F).length).beq (List.map I F).length=true)<|ap ((zA8 (zBV (by kernel_rfl))):PV.own 1 (List.map I F++[I (↑i:Int)])=PV.own 1 (List.map I (F++[(↑i:Int)]))) an)<|zAc 1<|zAa<|zAg<|zAc 1<|S_a [(1,.v (PV.bor 9 [(0,2)] 2 0 N.length))] (ap ((by simp):PV.bor 9 [(0,2)] 2 0 (List.map ntV N).length=PV.bor 9 [(0,2)] 2 0 N.length) an)<|zAc 2<|S_a [(6,.ret (PV.bool (decide (zAq l (zAD l a) (zAI l a t) (3-1)=0))) ([zB3 l (zAD l (zAD l a)) (zAI l (zAD l a) (zAI l a t))]))] (ap (f37 l (zAD l a) (zAI l a t) (3) (by omega) (by omega)) an)<|zAc 2<|S_a [(4,.ob),(0,.ob),(0,.yes),(2,.v (PV.own 2 (List.map ntV (N++[(-1,decide (zAq l (zAD l a) (zAI l a t) (3-1)=0))]))))] (ap ((by exact zBb (by simp only [List.length_map,zzLn,zAY]<;>omega)):(0+N.length).ble (List.map ntV N).length=true)<|ap ((by exact zBb (by simp only [List.length_map,zzLn,zAY]<;>omega)):((List.map ntV N).length + [PV.agg [I (-1),PV.bool (decide (zAq l (zAD l a) (zAI l a t) (3-1)=0))]].length).ble zAY=true)<|ap ((by exact zBR (by simp<;>omega)):(0+N.length).beq (List.map ntV N).length=true)<|ap ((zA8 (zBV (by kernel_rfl))):PV.own 2 (List.map ntV N++[PV.agg [I (-1),PV.bool (decide (zAq l (zAD l a) (zAI l a t) (3-1)=0))]])=PV.own 2 (List.map ntV (N++[(-1,decide (zAq l (zAD l a) (zAI l a t) (3-1)=0))]))) an)<|zAc 2<|zAa<|zAg<|S_a [(1,.v (I (↑(i+1):Int)))] (ap (wrN i) an)<|zAc 1<|zAa ?_)))
   ·exact ⟨(i+1,(F.eraseIdx k++[0]).take (F.length-1)++[(i:Int)],N++[(F.getD k 0,decide (zAq l (zAD l (zAD l a)) (zAI l (zAD l a) (zAI l a t)) (3-1)=0))],zAD l (zAD l (zAD l a)),zAI l (zAD l (zAD l a)) (zAI l (zAD l a) (zAI l a t))),⟨by omega,vS _,g6⟩,by simp only;omega,by kernel_rfl,by kernel_rfl⟩
   ·exact ⟨(i+1,F++[(i:Int)],N++[(-1,decide (zAq l (zAD l a) (zAI l a t) (3-1)=0))],zAD l (zAD l a),zAI l (zAD l a) (zAI l a t)),⟨by omega,yM _,g5⟩,by simp only;omega,by kernel_rfl,by kernel_rfl⟩
  ·clear hN
   refine zAd 1<|zAa<|zAh<|zA5 ((↑i:Int)<m) (by omega)<|zAl<|zAh<|zAk 3<|zAd 2<|zAa<|zAd 1<|zAa<|zAh<|zAd 1<|S_a [(0,.n F.length)] (ap (lnS I F) an)<|zAc 2<|zWZ 74 ((↑F.length:Int)>0) (by omega) (zAc 4<|zAa<|zAN<|zAl<|zAd 3<|S_a [(4,.ob),(0,.ob),(0,.yes),(2,.v (PV.own 1 (List.map I (F++[(↑i:Int)]))))] (ap (blz (List.map I F))<|ap ((by exact zBb (by simp only [List.length_map,zzLn,zAY]<;>omega)):((List.map I F).length + [I (↑i:Int)].length).ble zAY=true)<|ap ((by exact zBR (by simp<;>omega)):(0+(List.map I F).length).beq (List.map I F).length=true)<|ap ((zA8 (zBV (by kernel_rfl))):PV.own 1 (List.map I F++[I (↑i:Int)])=PV.own 1 (List.map I (F++[(↑i:Int)]))) an)<|zAc 1<|zAa<|zAg<|zAc 1<|S_a [(1,.v (PV.bor 9 [(0,2)] 2 0 N.length))] (ap ((by simp):PV.bor 9 [(0,2)] 2 0 (List.map ntV N).length=PV.bor 9 [(0,2)] 2 0 N.length) an)<|zAc 2<|S_a [(6,.ret (PV.bool (decide (zAq l a t (3-1)=0))) ([zB3 l (zAD l a) (zAI l a t)]))] (ap (f37 l a t (3) (by omega) (by omega)) an)<|zAc 2<|S_a [(4,.ob),(0,.ob),(0,.yes),(2,.v (PV.own 2 (List.map ntV (N++[(-1,decide (zAq l a t (3-1)=0))]))))] (ap ((by exact zBb (by simp only [List.length_map,zzLn,zAY]<;>omega)):(0+N.length).ble (List.map ntV N).length=true)<|ap ((by exact zBb (by simp only [List.length_map,zzLn,zAY]<;>omega)):((List.map ntV N).length + [PV.agg [I (-1),PV.bool (decide (zAq l a t (3-1)=0))]].length).ble zAY=true)<|ap ((by exact zBR (by simp<;>omega)):(0+N.length).beq (List.map ntV N).length=true)<|ap ((zA8 (zBV (by kernel_rfl))):PV.own 2 (List.map ntV N++[PV.agg [I (-1),PV.bool (decide (zAq l a t (3-1)=0))]])=PV.own 2 (List.map ntV (N++[(-1,decide (zAq l a t (3-1)=0))]))) an)<|zAc 2<|zAa<|zAg<|S_a [(1,.v (I (↑(i+1):Int)))] (ap (wrN i) an)<|zAc 1<|zAa ?_)
   exact ⟨(i+1,F++[(i:Int)],N++[(-1,decide (zAq l a t (3-1)=0))],zAD l a,zAI l a t),⟨by omega,yM _,g4⟩,by simp only;omega,by kernel_rfl,by kernel_rfl⟩
 have him2:(i:Int)=m:=by omega
 have g4:=zCE ha
 have s1:=zCF l a t (ss-1)
 refine zAd 1<|zAa<|zAh<|zBd ((↑i:Int)<m) (by omega)<|zAO 2<|zAh<|zAd 2<|S_a [(8,.ret (I (1+zAq l a t (ss-1))) ([zB3 l (zAD l a) (zAI l a t)]))] (ap (f36 l a t (1) ss (by omega) (by omega) (by omega)) an)<|zAc 1<|zAa<|zAk 4 ?_
 have gH:1≤1+zAq l a t (ss-1)∧1+zAq l a t (ss-1)≤ss:=by omega
 generalize 1+zAq l a t (ss-1)=M at *
 clear s1
 generalize zAI l a t=T2 at *
 generalize zAD l a=A2 at *
 refine zAz (fun (s,S,a,_)=>(s:Int)≤M∧S.length=s∧(∀ r∈S,RwOk r H.toNat)∧zDS l a) (fun ((s:Nat),(S:List (List Int)),(a:Nat),(t:Int))=>[(9,.box (.agg [I H,.own 2 (q2.map prV),.own 2 (N.map ntV),.own 1 (S.map zKs)])),(110,I (s:Nat)),(50000000,zB3 l a t)]) (fun (s,_,_,_)=>M.toNat-s) ((0:Nat),([]:List (List Int)),A2,T2) ⟨by omega,rfl,fun r hr=>absurd hr List.not_mem_nil,g4⟩ fun (s,S,a3,t3) ⟨hsM,gx,hS,ha3⟩=>?_
 by_cases jm:(s:Int)<M
 ·refine zAd 1<|zAa<|zAh<|zA5 ((↑s:Int)<M) (by omega)<|zAl<|zAh<|zAk 5<|zAd 1<|zAa<|zAh<|zAd 3<|zAa<|zAk 6 ?_
  refine zAz (fun (j,r,a,_)=>(j:Int)≤H∧RwOk r j∧zDS l a) (fun ((j:Nat),(r:List Int),(a:Nat),(t:Int))=>[(15,.own 1 (r.map I)),(114,I (j:Nat)),(50000000,zB3 l a t)]) (fun (j,_,_,_)=>H.toNat-j) ((0:Nat),([]:List Int),a3,t3) ⟨by omega,⟨fun x hx=>absurd hx List.not_mem_nil,rfl,Nat.le_refl _⟩,ha3⟩ fun (j,r,a4,t4) ⟨hjH,hr,ha4⟩=>?_
  have hrl:=hr.len
  by_cases jD:(j:Int)<H
  ·have g5:=zCE ha4
   have qr:=hr.skip
   have wU:=hr.snoc
   clear hr
   refine zAd 1<|zAa<|zAh<|zA5 ((↑j:Int)<H) (by omega)<|zAl<|zAh<|zAk 7<|zAd 2<|zAa<|zAd 1<|S_a [(6,.ret (PV.bool (decide (zAq l a4 t4 (3-1)=0))) ([zB3 l (zAD l a4) (zAI l a4 t4)]))] (ap (f37 l a4 t4 (3) (by omega) (by omega)) an)<|zAa<|zDa (zAq l a4 t4 (3-1)=0) (fun k0=>(zAg<|zAc 3<|S_a [(4,.ob),(0,.ob),(0,.yes),(2,.v (PV.own 1 (List.map I (r++[(↑j:Int)]))))] (ap (blz (List.map I r))<|ap ((by exact zBb (by simp only [List.length_map,zzLn,zAY]<;>omega)):((List.map I r).length + [I (↑j:Int)].length).ble zAY=true)<|ap ((by exact zBR (by simp<;>omega)):(0+(List.map I r).length).beq (List.map I r).length=true)<|ap ((zA8 (zBV (by kernel_rfl))):PV.own 1 (List.map I r++[I (↑j:Int)])=PV.own 1 (List.map I (r++[(↑j:Int)]))) an)<|zAc 1<|zAa<|zAg<|S_a [(1,.v (I (↑(j+1):Int)))] (ap (wrN j) an)<|zAc 1<|zAa ?_)) (fun k0=>(zAl<|zAg<|S_a [(1,.v (I (↑(j+1):Int)))] (ap (wrN j) an)<|zAc 1<|zAa ?_))
   ·exact ⟨(j+1,r++[(j:Int)],zAD l a4,zAI l a4 t4),⟨by omega,wU,g5⟩,by simp only;omega,by kernel_rfl,by kernel_rfl⟩
   ·exact ⟨(j+1,r,zAD l a4,zAI l a4 t4),⟨by omega,qr,g5⟩,by simp only;omega,by kernel_rfl,by kernel_rfl⟩
  ·have hje:j=H.toNat:=by omega
   rw [hje] at hr
   have hS2:∀ x∈S++[r],RwOk x H.toNat:=fun x hx=>by
    rcases List.mem_append.1 hx with hx | hx
    ·exact hS x hx
    ·rw [List.mem_singleton] at hx;subst hx;exact hr
   refine zAd 1<|zAa<|zAh<|zBd ((↑j:Int)<H) (by omega)<|zAO 6<|zAg<|zAc 1<|S_a [(1,.v (PV.bor 9 [(0,3)] 1 0 S.length))] (ap ((by simp):PV.bor 9 [(0,3)] 1 0 (List.map zKs S).length=PV.bor 9 [(0,3)] 1 0 S.length) an)<|zAc 1<|S_a [(2,.yes)] (ap ((by exact zBR (by simp<;>omega)):(Nat.beq 0 0&&(List.map I r).length.beq (List.map I r).length)=true) an)<|S_a [(4,.ob),(0,.ob),(0,.yes),(2,.v (PV.own 1 (List.map zKs (S++[r]))))] (ap ((by exact zBb (by simp only [List.length_map,zzLn,zAY]<;>omega)):(0+S.length).ble (List.map zKs S).length=true)<|ap ((by exact zBb (by simp only [List.length_map,zzLn,zAY]<;>omega)):((List.map zKs S).length + [PV.own 1 (List.map I r)].length).ble zAY=true)<|ap ((by exact zBR (by simp<;>omega)):(0+S.length).beq (List.map zKs S).length=true)<|ap ((zA8 (zBV (by kernel_rfl))):PV.own 1 (List.map zKs S++[PV.own 1 (List.map I r)])=PV.own 1 (List.map zKs (S++[r]))) an)<|zAc 2<|zAa<|zAg<|S_a [(1,.v (I (↑(s+1):Int)))] (ap (wrN s) an)<|zAc 1<|zAa ?_
   exact ⟨(s+1,S++[r],a4,t4),⟨by omega,by rw [List.length_append,gx];rfl,hS2,ha4⟩,by simp only;omega,by kernel_rfl,by kernel_rfl⟩
 ·have kw:=zVB (H:=H) (q:=q2) (F:=F) (N:=N) (S:=S) (m:=i) (by omega) kF hN (by omega) hS (by omega)
  refine zAd 1<|zAa<|zAh<|zBd ((↑s:Int)<M) (by omega)<|zAO 4<|zAd 1<|S_a [(4,.yes),(2,.yes),(2,.yes)] (ap ((by exact zBR (by simp<;>omega)):(Nat.beq 0 0&&(List.map prV q2).length.beq (List.map prV q2).length)=true)<|ap ((by exact zBR (by simp<;>omega)):(Nat.beq 0 0&&(List.map ntV N).length.beq (List.map ntV N).length)=true)<|ap ((by exact zBR (by simp<;>omega)):(Nat.beq 0 0&&(List.map zKs S).length.beq (List.map zKs S).length)=true) an)<|zAa<|zAn<|E_q [(4,.yes),(1,.v (PV.own 2 (List.map prV q2))),(1,.yes),(1,.v (PV.own 2 (List.map ntV N))),(1,.yes),(1,.v (PV.own 1 (List.map zKs S)))] (ap (blz (List.map prV q2))<|ap ((zA8 zBx):PV.own 2 (List.take (List.map prV q2).length (List.drop 0 (List.map prV q2)))=PV.own 2 (List.map prV q2))<|ap (blz (List.map ntV N))<|ap ((zA8 zBx):PV.own 2 (List.take (List.map ntV N).length (List.drop 0 (List.map ntV N)))=PV.own 2 (List.map ntV N))<|ap (blz (List.map zKs S))<|ap ((zA8 zBx):PV.own 1 (List.take (List.map zKs S).length (List.drop 0 (List.map zKs S)))=PV.own 1 (List.map zKs S)) an) (PV.agg [I H,PV.own 2 (List.map prV q2),PV.own 2 (List.map ntV N),PV.own 1 (List.map zKs S)]) ([(PV.agg [PV.sl (List.map u8 l),I (↑a3:Int),PV.int IntKind.u32 t3]).box]) ?_
  exact ⟨⟨H,q2,N,S⟩,a3,t3,rfl,rfl,kw,by simp only;omega,by simp only;omega,by simp only;omega,ha3⟩
end
end Go.Eng
set_option maxRecDepth 10000
set_option maxHeartbeats 4000000
namespace Go.Eng
open Go Go.Proofs
theorem zTs {n:Nw} {cs:List (Int×Int)} {c:Int×Int} (h:CrW n cs) (hl:cs.length<1000) (hc:(0≤c.1∧c.1<n.n.length)∧(0≤c.2∧c.2<n.s.length)):CrW n (cs++[c]) :=
 ⟨h.nw,by simp;omega,fun x hx=>by
  rcases List.mem_append.1 hx with h1 | h1
  ·exact h.cs x h1
  ·rw [List.mem_singleton] at h1;subst h1;exact hc⟩
theorem zXv (n:Nw) (c:Int×Int):FG 86 [zDT n [],prV c] (.box (zCN n (.own 2 (([]++[c]).map prV)) (mapM (n.l.map pr2)) (zAj n) (zAU n))):=by
 refine zAe Try.f86 ?_
 refine zAd 2<|zAa<|zAd 5<|zAa<|zAd 4<|zAc 1<|zAc 4<|zAc 1<|zAc 1<|zAc 3<|zAa<|zAd 1<|zAc 1<|zAc 4<|zAc 1<|zAa<|zAd 1<|zAc 1<|zAc 5<|zAa<|zAd 1<|zAa<|zAn<|E_a [] an ((PV.agg (I n.h::prs n.l::PV.sl (List.map ntV n.n)::PV.sl (List.map zBi n.s)::PV.own 2 [PV.agg [I c.fst,I c.snd]]::PV.map (List.map zBE (List.map pr2 n.l))::(zAt (zAj n) 8++zAt (zAU n) 8))).box) [] rfl rfl
theorem zXX (n:Nw) (c:Int×Int) (x0:Int×Int):FG 86 [zDT n [x0],prV c] (.box (zCN n (.own 2 (([x0]++[c]).map prV)) (mapM (n.l.map pr2)) (zAj n) (zAU n))):=by
 refine zAe Try.f86 ?_
 refine zAd 2<|zAa<|zAd 5<|zAa<|zAd 4<|zAc 1<|zAc 4<|zAc 1<|zAc 1<|zAc 3<|zAa<|zAd 1<|zAc 1<|zAc 4<|zAc 1<|zAa<|zAd 1<|zAc 1<|zAc 5<|zAa<|zAd 1<|zAa<|zAn<|E_a [] an ((PV.agg (I n.h::prs n.l::PV.sl (List.map ntV n.n)::PV.sl (List.map zBi n.s)::PV.own 2 [PV.agg [I x0.fst,I x0.snd],PV.agg [I c.fst,I c.snd]]::PV.map (List.map zBE (List.map pr2 n.l))::(zAt (zAj n) 8++zAt (zAU n) 8))).box) [] rfl rfl
theorem zXD (n:Nw) (c:Int×Int) (x0 x1:Int×Int):FG 86 [zDT n [x0,x1],prV c] (.box (zCN n (.own 2 (([x0,x1]++[c]).map prV)) (mapM (n.l.map pr2)) (zAj n) (zAU n))):=by
 refine zAe Try.f86 ?_
 refine zAd 2<|zAa<|zAd 5<|zAa<|zAd 4<|zAc 1<|zAc 4<|zAc 1<|zAc 1<|zAc 3<|zAa<|zAd 1<|zAc 1<|zAc 4<|zAc 1<|zAa<|zAd 1<|zAc 1<|zAc 5<|zAa<|zAd 1<|zAa<|zAn<|E_a [] an ((PV.agg (I n.h::prs n.l::PV.sl (List.map ntV n.n)::PV.sl (List.map zBi n.s)::PV.own 2 [PV.agg [I x0.fst,I x0.snd],PV.agg [I x1.fst,I x1.snd],PV.agg [I c.fst,I c.snd]]::PV.map (List.map zBE (List.map pr2 n.l))::(zAt (zAj n) 8++zAt (zAU n) 8))).box) [] rfl rfl
theorem zXf (n:Nw) (c:Int×Int) (x0 x1 x2:Int×Int):FG 86 [zDT n [x0,x1,x2],prV c] (.box (zCN n (.own 2 (([x0,x1,x2]++[c]).map prV)) (mapM (n.l.map pr2)) (zAj n) (zAU n))):=by
 refine zAe Try.f86 ?_
 refine zAd 2<|zAa<|zAd 5<|zAa<|zAd 4<|zAc 1<|zAc 4<|zAc 1<|zAc 1<|zAc 3<|zAa<|zAd 1<|zAc 1<|zAc 4<|zAc 1<|zAa<|zAd 1<|zAc 1<|zAc 5<|zAa<|zAd 1<|zAa<|zAn<|E_a [] an ((PV.agg (I n.h::prs n.l::PV.sl (List.map ntV n.n)::PV.sl (List.map zBi n.s)::PV.own 2 [PV.agg [I x0.fst,I x0.snd],PV.agg [I x1.fst,I x1.snd],PV.agg [I x2.fst,I x2.snd],PV.agg [I c.fst,I c.snd]]::PV.map (List.map zBE (List.map pr2 n.l))::(zAt (zAj n) 8++zAt (zAU n) 8))).box) [] rfl rfl
theorem zXo (n:Nw) (c:Int×Int) (x0 x1 x2 x3:Int×Int):FG 86 [zDT n [x0,x1,x2,x3],prV c] (.box (zCN n (.own 2 (([x0,x1,x2,x3]++[c]).map prV)) (mapM (n.l.map pr2)) (zAj n) (zAU n))):=by
 refine zAe Try.f86 ?_
 refine zAd 2<|zAa<|zAd 5<|zAa<|zAd 4<|zAc 1<|zAc 4<|zAc 1<|zAc 1<|zAc 3<|zAa<|zAd 1<|zAc 1<|zAc 4<|zAc 1<|zAa<|zAd 1<|zAc 1<|zAc 5<|zAa<|zAd 1<|zAa<|zAn<|E_a [] an ((PV.agg (I n.h::prs n.l::PV.sl (List.map ntV n.n)::PV.sl (List.map zBi n.s)::PV.own 2 [PV.agg [I x0.fst,I x0.snd],PV.agg [I x1.fst,I x1.snd],PV.agg [I x2.fst,I x2.snd],PV.agg [I x3.fst,I x3.snd],PV.agg [I c.fst,I c.snd]]::PV.map (List.map zBE (List.map pr2 n.l))::(zAt (zAj n) 8++zAt (zAU n) 8))).box) [] rfl rfl
theorem zXj (n:Nw) (c:Int×Int) (x0 x1 x2 x3 x4:Int×Int):FG 86 [zDT n [x0,x1,x2,x3,x4],prV c] (.box (zCN n (.own 2 (([x0,x1,x2,x3,x4]++[c]).map prV)) (mapM (n.l.map pr2)) (zAj n) (zAU n))):=by
 refine zAe Try.f86 ?_
 refine zAd 2<|zAa<|zAd 5<|zAa<|zAd 4<|zAc 1<|zAc 4<|zAc 1<|zAc 1<|zAc 3<|zAa<|zAd 1<|zAc 1<|zAc 4<|zAc 1<|zAa<|zAd 1<|zAc 1<|zAc 5<|zAa<|zAd 1<|zAa<|zAn<|E_a [] an ((PV.agg (I n.h::prs n.l::PV.sl (List.map ntV n.n)::PV.sl (List.map zBi n.s)::PV.own 2 [PV.agg [I x0.fst,I x0.snd],PV.agg [I x1.fst,I x1.snd],PV.agg [I x2.fst,I x2.snd],PV.agg [I x3.fst,I x3.snd],PV.agg [I x4.fst,I x4.snd],PV.agg [I c.fst,I c.snd]]::PV.map (List.map zBE (List.map pr2 n.l))::(zAt (zAj n) 8++zAt (zAU n) 8))).box) [] rfl rfl
theorem zXt (n:Nw) (c:Int×Int) (x0 x1 x2 x3 x4 x5:Int×Int):FG 86 [zDT n [x0,x1,x2,x3,x4,x5],prV c] (.box (zCN n (.own 2 (([x0,x1,x2,x3,x4,x5]++[c]).map prV)) (mapM (n.l.map pr2)) (zAj n) (zAU n))):=by
 refine zAe Try.f86 ?_
 refine zAd 2<|zAa<|zAd 5<|zAa<|zAd 4<|zAc 1<|zAc 4<|zAc 1<|zAc 1<|zAc 3<|zAa<|zAd 1<|zAc 1<|zAc 4<|zAc 1<|zAa<|zAd 1<|zAc 1<|zAc 5<|zAa<|zAd 1<|zAa<|zAn<|E_a [] an ((PV.agg (I n.h::prs n.l::PV.sl (List.map ntV n.n)::PV.sl (List.map zBi n.s)::PV.own 2 [PV.agg [I x0.fst,I x0.snd],PV.agg [I x1.fst,I x1.snd],PV.agg [I x2.fst,I x2.snd],PV.agg [I x3.fst,I x3.snd],PV.agg [I x4.fst,I x4.snd],PV.agg [I x5.fst,I x5.snd],PV.agg [I c.fst,I c.snd]]::PV.map (List.map zBE (List.map pr2 n.l))::(zAt (zAj n) 8++zAt (zAU n) 8))).box) [] rfl rfl
theorem zXr (n:Nw) (c:Int×Int) (x0 x1 x2 x3 x4 x5 x6:Int×Int):FG 86 [zDT n [x0,x1,x2,x3,x4,x5,x6],prV c] (.box (zCN n (.own 2 (([x0,x1,x2,x3,x4,x5,x6]++[c]).map prV)) (mapM (n.l.map pr2)) (zAj n) (zAU n))):=by
 refine zAe Try.f86 ?_
 refine zAd 2<|zAa<|zAd 5<|zAa<|zAd 4<|zAc 1<|zAc 4<|zAc 1<|zAc 1<|zAc 3<|zAa<|zAd 1<|zAc 1<|zAc 4<|zAc 1<|zAa<|zAd 1<|zAc 1<|zAc 5<|zAa<|zAd 1<|zAa<|zAn<|E_a [] an ((PV.agg (I n.h::prs n.l::PV.sl (List.map ntV n.n)::PV.sl (List.map zBi n.s)::PV.own 2 [PV.agg [I x0.fst,I x0.snd],PV.agg [I x1.fst,I x1.snd],PV.agg [I x2.fst,I x2.snd],PV.agg [I x3.fst,I x3.snd],PV.agg [I x4.fst,I x4.snd],PV.agg [I x5.fst,I x5.snd],PV.agg [I x6.fst,I x6.snd],PV.agg [I c.fst,I c.snd]]::PV.map (List.map zBE (List.map pr2 n.l))::(zAt (zAj n) 8++zAt (zAU n) 8))).box) [] rfl rfl
theorem zXm (n:Nw) (c:Int×Int) (x0 x1 x2 x3 x4 x5 x6 x7:Int×Int):FG 86 [zDT n [x0,x1,x2,x3,x4,x5,x6,x7],prV c] (.box (zCN n (.own 2 (([x0,x1,x2,x3,x4,x5,x6,x7]++[c]).map prV)) (mapM (n.l.map pr2)) (zAj n) (zAU n))):=by
 refine zAe Try.f86 ?_
 refine zAd 2<|zAa<|zAd 5<|zAa<|zAd 4<|zAc 1<|zAc 4<|zAc 1<|zAc 1<|zAc 3<|zAa<|zAd 1<|zAc 1<|zAc 4<|zAc 1<|zAa<|zAd 1<|zAc 1<|zAc 5<|zAa<|zAd 1<|zAa<|zAn<|E_a [] an ((PV.agg (I n.h::prs n.l::PV.sl (List.map ntV n.n)::PV.sl (List.map zBi n.s)::PV.own 2 [PV.agg [I x0.fst,I x0.snd],PV.agg [I x1.fst,I x1.snd],PV.agg [I x2.fst,I x2.snd],PV.agg [I x3.fst,I x3.snd],PV.agg [I x4.fst,I x4.snd],PV.agg [I x5.fst,I x5.snd],PV.agg [I x6.fst,I x6.snd],PV.agg [I x7.fst,I x7.snd],PV.agg [I c.fst,I c.snd]]::PV.map (List.map zBE (List.map pr2 n.l))::(zAt (zAj n) 8++zAt (zAU n) 8))).box) [] rfl rfl
theorem zXx (n:Nw) (c:Int×Int) (x0 x1 x2 x3 x4 x5 x6 x7 x8:Int×Int):FG 86 [zDT n [x0,x1,x2,x3,x4,x5,x6,x7,x8],prV c] (.box (zCN n (.own 2 (([x0,x1,x2,x3,x4,x5,x6,x7,x8]++[c]).map prV)) (mapM (n.l.map pr2)) (zAj n) (zAU n))):=by
 refine zAe Try.f86 ?_
 refine zAd 2<|zAa<|zAd 5<|zAa<|zAd 4<|zAc 1<|zAc 4<|zAc 1<|zAc 1<|zAc 3<|zAa<|zAd 1<|zAc 1<|zAc 4<|zAc 1<|zAa<|zAd 1<|zAc 1<|zAc 5<|zAa<|zAd 1<|zAa<|zAn<|E_a [] an ((PV.agg (I n.h::prs n.l::PV.sl (List.map ntV n.n)::PV.sl (List.map zBi n.s)::PV.own 2 [PV.agg [I x0.fst,I x0.snd],PV.agg [I x1.fst,I x1.snd],PV.agg [I x2.fst,I x2.snd],PV.agg [I x3.fst,I x3.snd],PV.agg [I x4.fst,I x4.snd],PV.agg [I x5.fst,I x5.snd],PV.agg [I x6.fst,I x6.snd],PV.agg [I x7.fst,I x7.snd],PV.agg [I x8.fst,I x8.snd],PV.agg [I c.fst,I c.snd]]::PV.map (List.map zBE (List.map pr2 n.l))::(zAt (zAj n) 8++zAt (zAU n) 8))).box) [] rfl rfl
theorem zV2 (n:Nw) (c:Int×Int) (x0 x1 x2 x3 x4 x5 x6 x7 x8 x9:Int×Int):FG 86 [zDT n [x0,x1,x2,x3,x4,x5,x6,x7,x8,x9],prV c] (.box (zCN n (.own 2 (([x0,x1,x2,x3,x4,x5,x6,x7,x8,x9]++[c]).map prV)) (mapM (n.l.map pr2)) (zAj n) (zAU n))):=by
 refine zAe Try.f86 ?_
 refine zAd 2<|zAa<|zAd 5<|zAa<|zAd 4<|zAc 1<|zAc 4<|zAc 1<|zAc 1<|zAc 3<|zAa<|zAd 1<|zAc 1<|zAc 4<|zAc 1<|zAa<|zAd 1<|zAc 1<|zAc 5<|zAa<|zAd 1<|zAa<|zAn<|E_a [] an ((PV.agg (I n.h::prs n.l::PV.sl (List.map ntV n.n)::PV.sl (List.map zBi n.s)::PV.own 2 [PV.agg [I x0.fst,I x0.snd],PV.agg [I x1.fst,I x1.snd],PV.agg [I x2.fst,I x2.snd],PV.agg [I x3.fst,I x3.snd],PV.agg [I x4.fst,I x4.snd],PV.agg [I x5.fst,I x5.snd],PV.agg [I x6.fst,I x6.snd],PV.agg [I x7.fst,I x7.snd],PV.agg [I x8.fst,I x8.snd],PV.agg [I x9.fst,I x9.snd],PV.agg [I c.fst,I c.snd]]::PV.map (List.map zBE (List.map pr2 n.l))::(zAt (zAj n) 8++zAt (zAU n) 8))).box) [] rfl rfl
theorem zWc (n:Nw) (c:Int×Int) (x0 x1 x2 x3 x4 x5 x6 x7 x8 x9 x10:Int×Int):FG 86 [zDT n [x0,x1,x2,x3,x4,x5,x6,x7,x8,x9,x10],prV c] (.box (zCN n (.own 2 (([x0,x1,x2,x3,x4,x5,x6,x7,x8,x9,x10]++[c]).map prV)) (mapM (n.l.map pr2)) (zAj n) (zAU n))):=by
 refine zAe Try.f86 ?_
 refine zAd 2<|zAa<|zAd 5<|zAa<|zAd 4<|zAc 1<|zAc 4<|zAc 1<|zAc 1<|zAc 3<|zAa<|zAd 1<|zAc 1<|zAc 4<|zAc 1<|zAa<|zAd 1<|zAc 1<|zAc 5<|zAa<|zAd 1<|zAa<|zAn<|E_a [] an ((PV.agg (I n.h::prs n.l::PV.sl (List.map ntV n.n)::PV.sl (List.map zBi n.s)::PV.own 2 [PV.agg [I x0.fst,I x0.snd],PV.agg [I x1.fst,I x1.snd],PV.agg [I x2.fst,I x2.snd],PV.agg [I x3.fst,I x3.snd],PV.agg [I x4.fst,I x4.snd],PV.agg [I x5.fst,I x5.snd],PV.agg [I x6.fst,I x6.snd],PV.agg [I x7.fst,I x7.snd],PV.agg [I x8.fst,I x8.snd],PV.agg [I x9.fst,I x9.snd],PV.agg [I x10.fst,I x10.snd],PV.agg [I c.fst,I c.snd]]::PV.map (List.map zBE (List.map pr2 n.l))::(zAt (zAj n) 8++zAt (zAU n) 8))).box) [] rfl rfl
theorem zW2 (n:Nw) (c:Int×Int) (x0 x1 x2 x3 x4 x5 x6 x7 x8 x9 x10 x11:Int×Int):FG 86 [zDT n [x0,x1,x2,x3,x4,x5,x6,x7,x8,x9,x10,x11],prV c] (.box (zCN n (.own 2 (([x0,x1,x2,x3,x4,x5,x6,x7,x8,x9,x10,x11]++[c]).map prV)) (mapM (n.l.map pr2)) (zAj n) (zAU n))):=by
 refine zAe Try.f86 ?_
 refine zAd 2<|zAa<|zAd 5<|zAa<|zAd 4<|zAc 1<|zAc 4<|zAc 1<|zAc 1<|zAc 3<|zAa<|zAd 1<|zAc 1<|zAc 4<|zAc 1<|zAa<|zAd 1<|zAc 1<|zAc 5<|zAa<|zAd 1<|zAa<|zAn<|E_a [] an ((PV.agg (I n.h::prs n.l::PV.sl (List.map ntV n.n)::PV.sl (List.map zBi n.s)::PV.own 2 [PV.agg [I x0.fst,I x0.snd],PV.agg [I x1.fst,I x1.snd],PV.agg [I x2.fst,I x2.snd],PV.agg [I x3.fst,I x3.snd],PV.agg [I x4.fst,I x4.snd],PV.agg [I x5.fst,I x5.snd],PV.agg [I x6.fst,I x6.snd],PV.agg [I x7.fst,I x7.snd],PV.agg [I x8.fst,I x8.snd],PV.agg [I x9.fst,I x9.snd],PV.agg [I x10.fst,I x10.snd],PV.agg [I x11.fst,I x11.snd],PV.agg [I c.fst,I c.snd]]::PV.map (List.map zBE (List.map pr2 n.l))::(zAt (zAj n) 8++zAt (zAU n) 8))).box) [] rfl rfl
theorem zWq (n:Nw) (c:Int×Int) (x0 x1 x2 x3 x4 x5 x6 x7 x8 x9 x10 x11 x12:Int×Int):FG 86 [zDT n [x0,x1,x2,x3,x4,x5,x6,x7,x8,x9,x10,x11,x12],prV c] (.box (zCN n (.own 2 (([x0,x1,x2,x3,x4,x5,x6,x7,x8,x9,x10,x11,x12]++[c]).map prV)) (mapM (n.l.map pr2)) (zAj n) (zAU n))):=by
 refine zAe Try.f86 ?_
 refine zAd 2<|zAa<|zAd 5<|zAa<|zAd 4<|zAc 1<|zAc 4<|zAc 1<|zAc 1<|zAc 3<|zAa<|zAd 1<|zAc 1<|zAc 4<|zAc 1<|zAa<|zAd 1<|zAc 1<|zAc 5<|zAa<|zAd 1<|zAa<|zAn<|E_a [] an ((PV.agg (I n.h::prs n.l::PV.sl (List.map ntV n.n)::PV.sl (List.map zBi n.s)::PV.own 2 [PV.agg [I x0.fst,I x0.snd],PV.agg [I x1.fst,I x1.snd],PV.agg [I x2.fst,I x2.snd],PV.agg [I x3.fst,I x3.snd],PV.agg [I x4.fst,I x4.snd],PV.agg [I x5.fst,I x5.snd],PV.agg [I x6.fst,I x6.snd],PV.agg [I x7.fst,I x7.snd],PV.agg [I x8.fst,I x8.snd],PV.agg [I x9.fst,I x9.snd],PV.agg [I x10.fst,I x10.snd],PV.agg [I x11.fst,I x11.snd],PV.agg [I x12.fst,I x12.snd],PV.agg [I c.fst,I c.snd]]::PV.map (List.map zBE (List.map pr2 n.l))::(zAt (zAj n) 8++zAt (zAU n) 8))).box) [] rfl rfl
theorem zWt (n:Nw) (c:Int×Int) (x0 x1 x2 x3 x4 x5 x6 x7 x8 x9 x10 x11 x12 x13:Int×Int):FG 86 [zDT n [x0,x1,x2,x3,x4,x5,x6,x7,x8,x9,x10,x11,x12,x13],prV c] (.box (zCN n (.own 2 (([x0,x1,x2,x3,x4,x5,x6,x7,x8,x9,x10,x11,x12,x13]++[c]).map prV)) (mapM (n.l.map pr2)) (zAj n) (zAU n))):=by
 refine zAe Try.f86 ?_
 refine zAd 2<|zAa<|zAd 5<|zAa<|zAd 4<|zAc 1<|zAc 4<|zAc 1<|zAc 1<|zAc 3<|zAa<|zAd 1<|zAc 1<|zAc 4<|zAc 1<|zAa<|zAd 1<|zAc 1<|zAc 5<|zAa<|zAd 1<|zAa<|zAn<|E_a [] an ((PV.agg (I n.h::prs n.l::PV.sl (List.map ntV n.n)::PV.sl (List.map zBi n.s)::PV.own 2 [PV.agg [I x0.fst,I x0.snd],PV.agg [I x1.fst,I x1.snd],PV.agg [I x2.fst,I x2.snd],PV.agg [I x3.fst,I x3.snd],PV.agg [I x4.fst,I x4.snd],PV.agg [I x5.fst,I x5.snd],PV.agg [I x6.fst,I x6.snd],PV.agg [I x7.fst,I x7.snd],PV.agg [I x8.fst,I x8.snd],PV.agg [I x9.fst,I x9.snd],PV.agg [I x10.fst,I x10.snd],PV.agg [I x11.fst,I x11.snd],PV.agg [I x12.fst,I x12.snd],PV.agg [I x13.fst,I x13.snd],PV.agg [I c.fst,I c.snd]]::PV.map (List.map zBE (List.map pr2 n.l))::(zAt (zAj n) 8++zAt (zAU n) 8))).box) [] rfl rfl
theorem zWX (n:Nw) (c:Int×Int) (x0 x1 x2 x3 x4 x5 x6 x7 x8 x9 x10 x11 x12 x13 x14:Int×Int):FG 86 [zDT n [x0,x1,x2,x3,x4,x5,x6,x7,x8,x9,x10,x11,x12,x13,x14],prV c] (.box (zCN n (.own 2 (([x0,x1,x2,x3,x4,x5,x6,x7,x8,x9,x10,x11,x12,x13,x14]++[c]).map prV)) (mapM (n.l.map pr2)) (zAj n) (zAU n))):=by
 refine zAe Try.f86 ?_
 refine zAd 2<|zAa<|zAd 5<|zAa<|zAd 4<|zAc 1<|zAc 4<|zAc 1<|zAc 1<|zAc 3<|zAa<|zAd 1<|zAc 1<|zAc 4<|zAc 1<|zAa<|zAd 1<|zAc 1<|zAc 5<|zAa<|zAd 1<|zAa<|zAn<|E_a [] an ((PV.agg (I n.h::prs n.l::PV.sl (List.map ntV n.n)::PV.sl (List.map zBi n.s)::PV.own 2 [PV.agg [I x0.fst,I x0.snd],PV.agg [I x1.fst,I x1.snd],PV.agg [I x2.fst,I x2.snd],PV.agg [I x3.fst,I x3.snd],PV.agg [I x4.fst,I x4.snd],PV.agg [I x5.fst,I x5.snd],PV.agg [I x6.fst,I x6.snd],PV.agg [I x7.fst,I x7.snd],PV.agg [I x8.fst,I x8.snd],PV.agg [I x9.fst,I x9.snd],PV.agg [I x10.fst,I x10.snd],PV.agg [I x11.fst,I x11.snd],PV.agg [I x12.fst,I x12.snd],PV.agg [I x13.fst,I x13.snd],PV.agg [I x14.fst,I x14.snd],PV.agg [I c.fst,I c.snd]]::PV.map (List.map zBE (List.map pr2 n.l))::(zAt (zAj n) 8++zAt (zAU n) 8))).box) [] rfl rfl
theorem zWf (n:Nw) (c:Int×Int) (x0 x1 x2 x3 x4 x5 x6 x7 x8 x9 x10 x11 x12 x13 x14 x15:Int×Int):FG 86 [zDT n [x0,x1,x2,x3,x4,x5,x6,x7,x8,x9,x10,x11,x12,x13,x14,x15],prV c] (.box (zCN n (.own 2 (([x0,x1,x2,x3,x4,x5,x6,x7,x8,x9,x10,x11,x12,x13,x14,x15]++[c]).map prV)) (mapM (n.l.map pr2)) (zAj n) (zAU n))):=by
 refine zAe Try.f86 ?_
 refine zAd 2<|zAa<|zAd 5<|zAa<|zAd 4<|zAc 1<|zAc 4<|zAc 1<|zAc 1<|zAc 3<|zAa<|zAd 1<|zAc 1<|zAc 4<|zAc 1<|zAa<|zAd 1<|zAc 1<|zAc 5<|zAa<|zAd 1<|zAa<|zAn<|E_a [] an ((PV.agg (I n.h::prs n.l::PV.sl (List.map ntV n.n)::PV.sl (List.map zBi n.s)::PV.own 2 [PV.agg [I x0.fst,I x0.snd],PV.agg [I x1.fst,I x1.snd],PV.agg [I x2.fst,I x2.snd],PV.agg [I x3.fst,I x3.snd],PV.agg [I x4.fst,I x4.snd],PV.agg [I x5.fst,I x5.snd],PV.agg [I x6.fst,I x6.snd],PV.agg [I x7.fst,I x7.snd],PV.agg [I x8.fst,I x8.snd],PV.agg [I x9.fst,I x9.snd],PV.agg [I x10.fst,I x10.snd],PV.agg [I x11.fst,I x11.snd],PV.agg [I x12.fst,I x12.snd],PV.agg [I x13.fst,I x13.snd],PV.agg [I x14.fst,I x14.snd],PV.agg [I x15.fst,I x15.snd],PV.agg [I c.fst,I c.snd]]::PV.map (List.map zBE (List.map pr2 n.l))::(zAt (zAj n) 8++zAt (zAU n) 8))).box) [] rfl rfl
theorem f86 (n:Nw) (cs:List (Int×Int)) (c:Int×Int) (hl:cs.length≤16):FG 86 [zDT n cs,prV c] (.box (zCN n (.own 2 ((cs++[c]).map prV)) (mapM (n.l.map pr2)) (zAj n) (zAU n))):=by
 match cs,hl with
 | [],_=>exact zXv n c 
 | [x0],_=>exact zXX n c x0
 | [x0,x1],_=>exact zXD n c x0 x1
 | [x0,x1,x2],_=>exact zXf n c x0 x1 x2
 | [x0,x1,x2,x3],_=>exact zXo n c x0 x1 x2 x3
 | [x0,x1,x2,x3,x4],_=>exact zXj n c x0 x1 x2 x3 x4
 | [x0,x1,x2,x3,x4,x5],_=>exact zXt n c x0 x1 x2 x3 x4 x5
 | [x0,x1,x2,x3,x4,x5,x6],_=>exact zXr n c x0 x1 x2 x3 x4 x5 x6
 | [x0,x1,x2,x3,x4,x5,x6,x7],_=>exact zXm n c x0 x1 x2 x3 x4 x5 x6 x7
 | [x0,x1,x2,x3,x4,x5,x6,x7,x8],_=>exact zXx n c x0 x1 x2 x3 x4 x5 x6 x7 x8
 | [x0,x1,x2,x3,x4,x5,x6,x7,x8,x9],_=>exact zV2 n c x0 x1 x2 x3 x4 x5 x6 x7 x8 x9
 | [x0,x1,x2,x3,x4,x5,x6,x7,x8,x9,x10],_=>exact zWc n c x0 x1 x2 x3 x4 x5 x6 x7 x8 x9 x10
 | [x0,x1,x2,x3,x4,x5,x6,x7,x8,x9,x10,x11],_=>exact zW2 n c x0 x1 x2 x3 x4 x5 x6 x7 x8 x9 x10 x11
 | [x0,x1,x2,x3,x4,x5,x6,x7,x8,x9,x10,x11,x12],_=>exact zWq n c x0 x1 x2 x3 x4 x5 x6 x7 x8 x9 x10 x11 x12
 | [x0,x1,x2,x3,x4,x5,x6,x7,x8,x9,x10,x11,x12,x13],_=>exact zWt n c x0 x1 x2 x3 x4 x5 x6 x7 x8 x9 x10 x11 x12 x13
 | [x0,x1,x2,x3,x4,x5,x6,x7,x8,x9,x10,x11,x12,x13,x14],_=>exact zWX n c x0 x1 x2 x3 x4 x5 x6 x7 x8 x9 x10 x11 x12 x13 x14
 | [x0,x1,x2,x3,x4,x5,x6,x7,x8,x9,x10,x11,x12,x13,x14,x15],_=>exact zWf n c x0 x1 x2 x3 x4 x5 x6 x7 x8 x9 x10 x11 x12 x13 x14 x15
 | _::_::_::_::_::_::_::_::_::_::_::_::_::_::_::_::_::_,h=>simp at h
def zVK (n:Nw) (w:List Int) (g:Int×Int):Bool:=decide (w.getD (g.1.toNat*8+((zAj n).getD g.2.toNat 0).toNat) 0≠g.2)
def zIe (n:Nw) (w:List Int) (l:List (Int×Int)):List (Int×Int):=l.filter (zVK n w)
theorem zS7 {n:Nw} {w:List Int} {l:List (Int×Int)} {i:Nat} (hi:i<l.length):zIe n w (l.take (i+1))=if zVK n w (l.getD i default)=true then zIe n w (l.take i)++[l.getD i default] else zIe n w (l.take i):=by
 unfold zIe;rw [zDm (d:=default) hi,List.filter_append]
 split
 ·rw [List.filter_cons_of_pos (by assumption)];rfl
 ·rw [List.filter_cons_of_neg (by assumption)];simp
theorem f45 (n:Nw) (cs l:List (Int×Int)) (e:Int) (c:Int×Int) (ho:CrW n cs) (hl:cs.length≤16) (he:0≤e∧e≤1000) (qd:l.length≤1000) (hm:∀ g∈l,(0≤g.1∧g.1<n.h)∧(0≤g.2∧g.2<n.n.length)) (hc:(0≤c.1∧c.1<n.n.length)∧(0≤c.2∧c.2<n.s.length)):FG 45 [zDT n cs,prs l,I e,prV c] (.own 2 ((zIe n (zBe n (cs++[c]) e.toNat) l).map prV)):=by
 have hw:=zTs ho (by omega) hc
 have hb:=ho.nw.h
 have hn:=ho.nw
 have wB:=hn.nl
 have hwl:=zBI (n:=n) (cs:=cs++[c]) e.toNat
 have ha:=f43 n (cs++[c]) e hw he
 generalize zBe n (cs++[c]) e.toNat=w at *
 refine zAe Try.f45 ?_
 refine zAd 2<|zAa<|zAd 2<|S_a [(7,.ret ((zCN n (PV.own 2 (List.map prV (cs++[c]))) (mapM (List.map pr2 n.l)) (zAj n) (zAU n)).box) [])] (ap (f86 n cs c (by omega)) an)<|zAc 1<|S_a [(7,.v (PV.agg (I n.h::prs n.l::PV.sl (List.map ntV n.n)::PV.sl (List.map zBi n.s)::prs (cs++[c])::PV.map (List.map zBE (List.map pr2 n.l))::(zAt (zAj n) 8++zAt (zAU n) 8)))),(4,.ret (hdV w) [])] (ap ((by simp only [show zAA (List.map prV (cs++[c]))=List.map prV (cs++[c]) from (by first | exact zA4 _ | exact zBB _ | exact zBn _ | exact zBF (zBB _) | exact zBF (zBn _) | exact zEC (by simp [zDg]) (zA4 _))]):PV.agg (I n.h::prs n.l::PV.sl (List.map ntV n.n)::PV.sl (List.map zBi n.s)::PV.sl (zAA (List.map prV (cs++[c])))::PV.map (List.map zBE (List.map pr2 n.l))::(zAt (zAj n) 8++zAt (zAU n) 8))=PV.agg (I n.h::prs n.l::PV.sl (List.map ntV n.n)::PV.sl (List.map zBi n.s)::prs (cs++[c])::PV.map (List.map zBE (List.map pr2 n.l))::(zAt (zAj n) 8++zAt (zAU n) 8)))<|ap ha an)<|zAc 2<|zAa<|zAd 1<|zAa<|zAh<|zAd 1<|S_a [(0,.n l.length)] (ap (lnS prV l) an)<|zAc 1<|zAa<|zAk 0 ?_
 refine zAz (fun (i,q)=>i≤l.length∧q=zIe n w (l.take i)) (fun (i,q)=>[(10,.own 2 (q.map prV)),(20,I (i:Nat))]) (fun (i,_)=>l.length-i) ((0:Nat),([]:List (Int×Int))) ⟨by omega,by simp [zIe]⟩ fun (i,q) ⟨hi,hq⟩=>?_
 have qc:q.length≤i:=by
  rw [hq,zIe];exact Nat.le_trans (List.length_filter_le _ _) (by rw [List.length_take];omega)
 by_cases yR:i<l.length
 ·have yw:=zS7 (n:=n) (w:=w) yR
  rw [← hq] at yw
  obtain ⟨kJ,v0⟩:=zCp (d:=default) hm i yR
  have hfb:=zCA hn (l.getD i default).2.toNat (by omega)
  clear hm ha hq
  refine zAd 1<|zAa<|zAh<|zA5 ((↑i:Int)<(↑l.length:Int)) (by omega)<|zAl<|zAh<|zAk 1<|zAh<|zAg<|S_a [(2,.v (PV.agg [I (l.getD i default).fst,I (l.getD i default).snd]))] (ap (zCG default (by omega):(List.map prV l)[i]? = some (PV.agg [I (l.getD i default).fst,I (l.getD i default).snd])) an)<|zAc 3<|zAa<|zAd 7<|S_a [(0,.ob),(1,.ob),(0,.v ((I ((zAj n).getD (l.getD i default).snd.toNat 0)).ref))] (ap ((by exact zAp (by omega)):decide (0≤(l.getD i default).snd)=true)<|ap ((by exact zAp (by omega)):decide ((l.getD i default).snd.toNat<8)=true)<|ap (zGt (F:=zAj n) (m:=8) (j:=(l.getD i default).snd.toNat) (by omega):zCl (PV.agg (zAt (zAj n) 8)).ref ((l.getD i default).snd.toNat*(fun x=>x.size) Try.prog.types[3]) none=some (I ((zAj n).getD (l.getD i default).snd.toNat 0)).ref) an)<|zAc 1<|S_a [(0,.ob),(1,.ob)] (ap ((by exact zAp (by omega)):decide (0≤(l.getD i default).fst)=true)<|ap ((by exact zAp (by omega)):decide ((l.getD i default).fst.toNat<10)=true) an)<|S_a [(0,.ob),(1,.ob)] (ap ((by exact zAp (by omega)):decide (0≤(zAj n).getD (l.getD i default).snd.toNat 0)=true)<|ap ((by exact zAp (by omega)):decide (((zAj n).getD (l.getD i default).snd.toNat 0).toNat<8)=true) an)<|S_a [(0,.cs true ([I (w.getD ((l.getD i default).fst.toNat*8+((zAj n).getD (l.getD i default).snd.toNat 0).toNat) 0)]))] (ap (zC8 (q:=(PV.agg (zAt w 80)).box) (xs:=[PV.agg (zAt w 80)]) (x:=PV.agg (zAt w 80)) rfl rfl (zEY (F:=w) (m:=80) (j:=(l.getD i default).fst.toNat*8+((zAj n).getD (l.getD i default).snd.toNat 0).toNat) (by first | rfl | exact zB1 (by kernel_rfl) | exact zB6 (by kernel_rfl) | exact zB0 (by kernel_rfl) (by kernel_rfl) | exact zB8 (by kernel_rfl) | exact zCa (by kernel_rfl) (by kernel_rfl) | exact zB5 (by kernel_rfl) | (simp;done)) (by omega)):zAs 9 (PV.agg (zAt w 80)).box [] 0 (0+(l.getD i default).fst.toNat*(fun x=>x.size) Try.prog.types[89]+((zAj n).getD (l.getD i default).snd.toNat 0).toNat*(fun x=>x.size) Try.prog.types[3]) 1=some (true,[I (w.getD ((l.getD i default).fst.toNat*8+((zAj n).getD (l.getD i default).snd.toNat 0).toNat) 0)])) an)<|zAc 3<|zAa<|zD9 (w.getD ((l.getD i default).fst.toNat*8+((zAj n).getD (l.getD i default).snd.toNat 0).toNat) 0=(l.getD i default).snd) (fun k0=>(zAg<|zAc 3<|S_a [(4,.ob),(0,.ob),(0,.yes),(2,.v (PV.own 2 (List.map prV (q++[l.getD i default]))))] (ap (blz (List.map prV q))<|ap ((by exact zBb (by simp only [List.length_map,zzLn,zAY]<;>omega)):((List.map prV q).length + [PV.agg [I (l.getD i default).fst,I (l.getD i default).snd]].length).ble zAY=true)<|ap ((by exact zBR (by simp<;>omega)):(0+(List.map prV q).length).beq (List.map prV q).length=true)<|ap ((zA8 (zBV (by kernel_rfl))):PV.own 2 (List.map prV q++[PV.agg [I (l.getD i default).fst,I (l.getD i default).snd]])=PV.own 2 (List.map prV (q++[l.getD i default]))) an)<|zAc 1<|zAa<|zAg<|S_a [(1,.v (I (↑(i+1):Int)))] (ap (wrN i) an)<|zAc 1<|zAa ?_)) (fun k0=>(zAl<|zAg<|S_a [(1,.v (I (↑(i+1):Int)))] (ap (wrN i) an)<|zAc 1<|zAa ?_))
  ·have hb:zVK n w (l.getD i default)=true:=by simp only [zVK,decide_eq_true_eq];exact k0
   rw [if_pos hb] at yw
   exact ⟨(i+1,q++[l.getD i default]),⟨by omega,yw.symm⟩,by simp only;omega,by kernel_rfl,by kernel_rfl⟩
  ·have hb:zVK n w (l.getD i default)=false:=by simp only [zVK,decide_eq_false_iff_not];exact fun h=>h k0
   rw [if_neg (by rw [hb];simp)] at yw
   exact ⟨(i+1,q),⟨by omega,yw.symm⟩,by simp only;omega,by kernel_rfl,by kernel_rfl⟩
 ·refine zAd 1<|zAa<|zAh<|zBd ((↑i:Int)<(↑l.length:Int)) (by omega)<|zAO 0<|zAd 1<|S_a [(2,.yes)] (ap ((by exact zBR (by simp<;>omega)):(Nat.beq 0 0&&(List.map prV q).length.beq (List.map prV q).length)=true) an)<|zAa<|zAn<|E_a [(1,.yes),(1,.v (PV.own 2 (List.map prV q)))] (ap (blz (List.map prV q))<|ap ((zA8 zBx):PV.own 2 (List.take (List.map prV q).length (List.drop 0 (List.map prV q)))=PV.own 2 (List.map prV q)) an) (PV.own 2 (List.map prV q)) [] ?_ rfl
  rw [List.take_of_length_le (by omega)] at hq
  rw [hq]
end Go.Eng
set_option maxRecDepth 10000
set_option maxHeartbeats 4000000
namespace Go.Eng
open Go Go.Proofs
theorem zSJ {α:Type} (φ:α→Bool) (l:List α):(zD4 φ l = -1→l.filter (fun x => !φ x)=l)∧(zD4 φ l≠-1→∃ i:Nat,zD4 φ l=i∧i<l.length∧l.take i=(l.take (i+1)).filter (fun x => !φ x)):=by
 constructor
 ·intro h
  have:l.any φ=false:=by rw [← zDB,h];rfl
  rw [List.filter_eq_self]
  intro x hx
  rw [List.any_eq_false] at this
  simpa using this x hx
 ·intro h
  unfold zD4 at h ⊢
  split
  ·rename_i yC
   refine ⟨_,rfl,yC,?_⟩
   have hp:=List.findIdx_getElem (w:=yC)
   rw [List.take_add_one,List.getElem?_eq_getElem yC,List.filter_append]
   simp only [Option.toList,List.filter_cons,hp,Bool.not_true,Bool.false_eq_true,if_false,List.filter_nil,List.append_nil]
   symm
   rw [List.filter_eq_self]
   intro x hx
   obtain ⟨j,hj,rfl⟩:=List.mem_take_iff_getElem.1 hx
   have:=List.not_of_lt_findIdx (show j<l.findIdx φ by omega)
   simpa using this
  ·rename_i hn;rw [if_neg hn] at h;exact absurd rfl h
theorem zKT {α:Type} {S:List α} {p:Nat} {x:α} (h:p<S.length):(S.set p x).take (p+1)=S.take p++[x]:=by
 rw [zDm (d:=x) (by simpa using h),List.take_set_of_le (Nat.le_refl p)]
 simp [List.getD_eq_getElem?_getD,h]
theorem zNI {α:Type} {S:List α} {i j:Nat} {x d:α} (h:i≠j):(S.set i x).getD j d=S.getD j d:=by
 simp [List.getD_eq_getElem?_getD,List.getElem?_set,h]
theorem zNK {α:Type} (p:α→Bool) (l:List α) (j:Nat) (d:α) (h:j<l.length):(l.take (j+1)).filter p=if p (l.getD j d)=true then (l.take j).filter p++[l.getD j d] else (l.take j).filter p:=by
 rw [zDm (d:=d) h,List.filter_append]
 split
 ·rw [List.filter_cons_of_pos (by assumption)];rfl
 ·rw [List.filter_cons_of_neg (by assumption)];simp
theorem f119 (n:Nw) (cs:List (Int×Int)) (f:Int) (ho:NwOk n) (g:Int×Int) (hg:0≤g.2∧g.2<n.n.length):FG 119 [prV g,.ref (zDT n cs),.ref (I f)] (.bool (decide ((zAj n).getD g.2.toNat 0≠f))):=by
 have wB:=ho.nl
 refine zAe Try.f119 ?_
 refine zAd 2<|zAa<|zAd 5<|S_a [(0,.ob),(1,.ob),(0,.v ((I ((zAj n).getD g.snd.toNat 0)).ref))] (ap ((by exact zAp (by omega)):decide (0≤g.snd)=true)<|ap ((by exact zAp (by omega)):decide (g.snd.toNat<8)=true)<|ap (zGt (F:=zAj n) (m:=8) (j:=g.snd.toNat) (by omega):zCl (PV.agg (zAt (zAj n) 8)).ref (g.snd.toNat*(fun x=>x.size) Try.prog.types[3]) none=some (I ((zAj n).getD g.snd.toNat 0)).ref) an)<|zAc 4<|zAa<|zAn<|E_a [] an (PV.bool ((zAj n).getD g.snd.toNat 0 != f)) [] ?_ rfl
 congr 1;rw [Bool.eq_iff_iff];simp
theorem f57_1 (n:Nw) (cs:List (Int×Int)) (f:Int) (ho:NwOk n) (l:List (Int×Int)) (hl:l.length<4294967296) (hr:∀ x∈l,(fun z:Int×Int=>0≤z.2∧z.2<n.n.length) x):FG 57 [.sl (l.map prV),.func 119 [] [.ref (zDT n cs),.ref (I f)]] (I (zD4 (fun x=>decide ((zAj n).getD x.2.toNat 0≠f)) l)):=by
 refine zAe Try.f57 ?_
 refine zAd 1<|zAa<|zAh<|zAd 1<|S_a [(0,.n l.length)] (ap (lnS prV l) an)<|zAc 1<|zAa<|zAk 0 ?_
 refine zAz (fun i=>i≤l.length∧∀ j,j<i→(fun x=>decide ((zAj n).getD x.2.toNat 0≠f)) (l.getD j default)=false) (fun i=>[(8,I (i:Nat))]) (fun i=>l.length-i) (0:Nat) (by simp) fun i ⟨hi,ha⟩=>?_
 by_cases yR:i<l.length
 ·have gv:=zCp (d:=default) hr i yR
  refine zAd 1<|zAa<|zAh<|zA5 ((↑i:Int)<(↑l.length:Int)) (by omega)<|zAl<|zAh<|zAk 1<|zAd 2<|zAa<|zAd 3<|S_a [(2,.v (PV.agg [I (l.getD i default).fst,I (l.getD i default).snd]))] (ap (zCG default (by omega):(List.map prV l)[i]? = some (PV.agg [I (l.getD i default).fst,I (l.getD i default).snd])) an)<|zAc 1<|S_a [(8,.ret (PV.bool (decide ((zAj n).getD (l.getD i default).snd.toNat 0≠f))) [])] (ap (f119 n cs f (by omega) (l.getD i default) (by omega)) an)<|zAa<|zDa ((zAj n).getD (l.getD i default).snd.toNat 0≠f) (fun k0=>(zAd 2<|zAa<|zAn<|E_a [] an (I (↑i:Int)) [] ?_ rfl)) (fun k0=>(zAl<|zAg<|S_a [(1,.v (I (↑(i+1):Int)))] (ap (wrN i) an)<|zAc 1<|zAa ?_))
  ·rw [zBN (i:=i) yR (fun j hj=>by rw [← zAB (d:=default)];exact ha j hj) (by rw [← zAB (d:=default)];first | assumption | exact decide_eq_true ‹_›)]
  ·refine ⟨i+1,⟨by omega,fun j hj=>?_⟩,by omega,by kernel_rfl,by kernel_rfl⟩
   rcases Nat.lt_succ_iff_lt_or_eq.1 hj with h | rfl
   ·exact ha j h
   ·first | assumption | exact decide_eq_false ‹_› | (simp only [Bool.not_eq_false',decide_eq_true_eq];assumption)
 ·refine zAd 1<|zAa<|zAh<|zBd ((↑i:Int)<(↑l.length:Int)) (by omega)<|zAO 0<|zAd 1<|zAa<|zAn<|E_a [] an (I (-1)) [] ?_ rfl
  rw [zB2 fun j hj=>by rw [← zAB (d:=default)];exact ha j (by omega)]
theorem f116_1 (n:Nw) (cs:List (Int×Int)) (f:Int) (ho:NwOk n) (l:List (Int×Int)) (hl:l.length<4294967296) (hr:∀ x∈l,(fun z:Int×Int=>0≤z.2∧z.2<n.n.length) x):FG 116 [.own 2 (l.map prV),.func 119 [] [.ref (zDT n cs),.ref (I f)]] (.own 2 ((l.filter fun x => !(decide ((zAj n).getD x.2.toNat 0≠f))).map prV)):=by
 have h1:=zSJ (fun x=>decide ((zAj n).getD x.2.toNat 0≠f)) l
 have uC:=f57_1 n cs f ho l hl hr
 by_cases hm:zD4 (fun x=>decide ((zAj n).getD x.2.toNat 0≠f)) l = -1
 ·rw [hm] at uC
  rw [h1.1 hm]
  refine zAe Try.f116 ?_
  refine zAd 1<|zAa<|zAd 2<|S_a [(3,.ob),(0,.v (prs l)),(3,.ret (I (-1)) [])] (ap (blz (List.map prV l))<|ap (frT prV l)<|ap uC an)<|zAc 1<|zAa<|zAh<|zAd 2<|zAa<|zEb<|zAd 1<|S_a [(2,.yes)] (ap ((by exact zBR (by simp<;>omega)):(Nat.beq 0 0&&(List.map prV l).length.beq (List.map prV l).length)=true) an)<|zAa<|zAn<|E_a [(1,.yes),(1,.v (PV.own 2 (List.map prV l)))] (ap (blz (List.map prV l))<|ap ((zA8 zBx):PV.own 2 (List.take (List.map prV l).length (List.drop 0 (List.map prV l)))=PV.own 2 (List.map prV l)) an) (PV.own 2 (List.map prV l)) [] rfl rfl
 ·obtain ⟨i0,jb,hil0,hf0⟩:=h1.2 hm
  rw [jb] at uC
  clear h1 hm
  refine zAe Try.f116 ?_
  refine zAd 1<|zAa<|zAd 2<|S_a [(3,.ob),(0,.v (prs l)),(3,.ret (I (↑i0:Int)) [])] (ap (blz (List.map prV l))<|ap (frT prV l)<|ap uC an)<|zAc 1<|zAa<|zAh<|zAd 2<|zAa<|zAN<|zAl<|zAh<|zAd 1<|S_a [(1,.v (I (↑(i0+1):Int)))] (ap (wrN i0) an)<|zAc 1<|zAa<|zAk 0 ?_
  refine zAz (fun (i,j,S)=>j≤l.length∧i<j∧S.length=l.length∧S.take i=(l.take j).filter (fun x => !(decide ((zAj n).getD x.2.toNat 0≠f)))∧∀ r,j≤r→S.getD r default=l.getD r default) (fun (i,j,S)=>[(0,.own 2 (S.map prV)),(5,I (i:Nat)),(6,I (j:Nat))]) (fun (_,j,_)=>l.length-j) (i0,i0+1,l) ⟨by omega,by omega,rfl,hf0,fun _ _=>rfl⟩ fun (i,j,S) ⟨hj,hij,hS,ht,hd⟩=>?_
  by_cases jD:j<l.length
  ·have gv:=zCp (d:=default) hr j jD
   have hx:=hd j (Nat.le_refl j)
   have yH:=zNK (fun x => !(decide ((zAj n).getD x.2.toNat 0≠f))) l j default jD
   rw [← hx] at yH gv
   clear uC
   have gI:=hd
   clear hd hx
   refine zAh<|zAd 2<|S_a [(0,.n S.length)] (ap (lnS prV S) an)<|zAc 1<|zAa<|zA5 ((↑j:Int)<(↑S.length:Int)) (by omega)<|zAl<|zAh<|zAk 1<|zAd 2<|S_a [(2,.ob),(1,.n j)] (ap ((by exact zAp (by simp only [List.length_map,zzLn]<;>omega)):decide (j<(List.map prV S).length)=true)<|ap ((by simp):some (0+j)=some j) an)<|S_a [(0,.cs true ([I (S.getD j default).fst,I (S.getD j default).snd]))] (ap (zC8 (q:=PV.own 2 (List.map prV S)) (xs:=List.map prV S) (x:=PV.agg [I (S.getD j default).fst,I (S.getD j default).snd]) rfl (zCG default (by omega)):zAs 0 (PV.own 2 (List.map prV S)) [] j 0 Try.prog.types[42].size=some (true,[I (S.getD j default).fst,I (S.getD j default).snd])) an)<|zAc 2<|zAa<|zAd 2<|S_a [(8,.ret (PV.bool (decide ((zAj n).getD (S.getD j default).snd.toNat 0≠f))) [])] (ap (f119 n cs f (by omega) (S.getD j default) (by omega)) an)<|zAc 1<|zAa<|zD9 ((zAj n).getD (S.getD j default).snd.toNat 0≠f) (fun k0=>(zAd 3<|S_a [(2,.ob),(1,.n i)] (ap ((by exact zAp (by simp only [List.length_map,zzLn]<;>omega)):decide (i<(List.map prV S).length)=true)<|ap ((by simp):some (0+i)=some i) an)<|S_a [(8,.root (PV.own 2 (List.map prV (S.set i (S.getD j default)))) true)] (ap (zMg (zCG default (by omega)) zEl:zBw (PV.own 2 (List.map prV S)) [] i 0 (PV.agg [I (S.getD j default).fst,I (S.getD j default).snd]).cells=some (PV.own 2 (List.map prV (S.set i (S.getD j default))))∧zAF (PV.own 2 (List.map prV S)) (PV.own 2 (List.map prV (S.set i (S.getD j default)))) []=true) an)<|zAa<|zAg<|zAc 1<|S_a [(1,.v (I (↑(i+1):Int)))] (ap (wrN i) an)<|zAc 1<|zAa<|zAg<|zAc 1<|S_a [(1,.v (I (↑(j+1):Int)))] (ap (wrN j) an)<|zAc 1<|zAa ?_)) (fun k0=>(zAl<|zAg<|zAc 1<|S_a [(1,.v (I (↑(j+1):Int)))] (ap (wrN j) an)<|zAc 1<|zAa ?_))
   ·have hb:((fun x => !(decide ((zAj n).getD x.2.toNat 0≠f))) (S.getD j default))=true:=by first | assumption | (simp only [Bool.not_eq_true',decide_eq_false_iff_not];assumption)
    rw [if_pos hb] at yH
    refine ⟨(i+1,j+1,S.set i (S.getD j default)),⟨by omega,by omega,by simpa using hS,?_,fun r wU=>?_⟩,by simp only;omega,by kernel_rfl,by kernel_rfl⟩
    ·rw [yH,← ht,zKT (by omega)]
    ·rw [zNI (by omega)];exact gI r (by omega)
   ·have hb:((fun x => !(decide ((zAj n).getD x.2.toNat 0≠f))) (S.getD j default))=false:=by first | assumption | (simp only [Bool.not_eq_false',decide_eq_true_eq];assumption)
    rw [if_neg (fun h=>Bool.noConfusion (hb.symm.trans h))] at yH
    exact ⟨(i,j+1,S),⟨by omega,by omega,hS,by rw [yH,ht],fun r wU=>gI r (by omega)⟩,by simp only;omega,by kernel_rfl,by kernel_rfl⟩
  ·refine zAh<|zAd 2<|S_a [(0,.n S.length)] (ap (lnS prV S) an)<|zAc 1<|zAa<|zBd ((↑j:Int)<(↑S.length:Int)) (by omega)<|zAO 0<|zAd 2<|S_a [(3,.ob),(0,.yes),(0,.yes),(0,.v (PV.bor 0 [] 2 i (S.length-i)))] (ap ((by exact zBb (by simp only [List.length_map,zzLn,zAY]<;>omega)):i.ble (List.map prV S).length=true)<|ap ((by exact zBb (by simp only [List.length_map,zzLn,zAY]<;>omega)):(List.map prV S).length.ble (List.map prV S).length=true)<|ap ((by simp<;>omega):(i.beq 0||i.blt (List.map prV S).length)=true)<|ap ((by simp):PV.bor 0 [] 2 (0+i) ((List.map prV S).length-i)=PV.bor 0 [] 2 i (S.length-i)) an)<|zRl (g:=prV) (fun q=>q) 0 2 i (S.length-i) S ((0,0)) (by first | omega | (simp<;>omega)) ⟨rfl,rfl⟩ (fun _=>(by first | exact zOj | exact ⟨rfl,rfl,rfl,rfl,Nat.le_refl _,rfl⟩)) zSx.nil (zAa<|zAd 2<|S_a [(4,.yes)] (ap ((by exact zBb (by simp<;>omega)):i.ble (List.map prV (List.take i S++List.replicate (S.length-i) (0,0)++List.drop (i+(S.length-i)) S)).length=true) an)<|zAc 1<|zAa<|zAn<|E_a [(1,.yes),(1,.v (PV.own 2 (List.map prV (List.take i (List.take i S++List.replicate (S.length-i) (0,0)++List.drop (i+(S.length-i)) S)))))] (ap ((by exact zBb (by simp<;>omega)):(0+((↑i:Int).toNat-0)).ble (List.map prV (List.take i S++List.replicate (S.length-i) (0,0)++List.drop (i+(S.length-i)) S)).length=true)<|ap ((by simp):PV.own 2 (List.take i (List.drop 0 (List.map prV (List.take i S++List.replicate (S.length-i) (0,0)++List.drop (i+(S.length-i)) S))))=PV.own 2 (List.map prV (List.take i (List.take i S++List.replicate (S.length-i) (0,0)++List.drop (i+(S.length-i)) S)))) an) (PV.own 2 (List.map prV (List.take i (List.take i S++List.replicate (S.length-i) (0,0)++List.drop (i+(S.length-i)) S)))) [] ?_ rfl)
   rw [List.take_of_length_le (Nat.le_of_not_lt jD)] at ht
   rw [← ht,List.append_assoc,List.take_append_of_le_length (by rw [List.length_take];omega),List.take_take,Nat.min_self]
def ofL (n:Nw) (f:Int) (l:List (Int×Int)):List (Int×Int):=l.filter fun x => !decide ((zAj n).getD x.2.toNat 0≠f)
theorem f91 (n:Nw) (cs l:List (Int×Int)) (f:Int) (ho:NwOk n) (hl:l.length≤1000) (hr:∀ g∈l,(0≤g.1∧g.1<n.h)∧(0≤g.2∧g.2<n.n.length)):FG 91 [zDT n cs,prs l,I f] (.own 2 ((ofL n f l).map prV)):=by
 have h1:=f116_1 n cs f ho l (by omega) fun x hx=>(hr x hx).2
 refine zAe Try.f91 ?_
 refine zAd 3<|zAa<|zAd 1<|S_a [(6,.ret (PV.own 2 (List.map prV l)) [])] (ap (f117 l (by omega)) an)<|zAc 1<|S_a [(3,.ob),(1,.v (PV.own 2 (List.map prV l))),(14,.ret (PV.own 2 (List.map prV (List.filter (fun x => !decide ((zAj n).getD x.snd.toNat 0≠f)) l))) []),(1,.yes)] (ap ((by exact zBb (by simp only [List.length_map,zzLn,zAY]<;>omega)):(List.map prV l).length.ble (List.map prV l).length=true)<|ap ((zA8 zBx):PV.own 2 (List.take (List.map prV l).length (List.drop 0 (List.map prV l)))=PV.own 2 (List.map prV l))<|ap h1<|ap ((by exact zLZ _):(PV.own 2 (List.map prV (List.filter (fun x => !decide ((zAj n).getD x.snd.toNat 0≠f)) l))).free=true) an)<|zAc 1<|zAa<|zAn<|E_a [(1,.yes),(1,.v (PV.own 2 (List.map prV (List.filter (fun x => !decide ((zAj n).getD x.snd.toNat 0≠f)) l))))] (ap (blz (List.map prV (List.filter (fun x => !decide ((zAj n).getD x.snd.toNat 0≠f)) l)))<|ap ((zA8 zBx):PV.own 2 (List.take (List.map prV (List.filter (fun x => !decide ((zAj n).getD x.snd.toNat 0≠f)) l)).length (List.drop 0 (List.map prV (List.filter (fun x => !decide ((zAj n).getD x.snd.toNat 0≠f)) l))))=PV.own 2 (List.map prV (List.filter (fun x => !decide ((zAj n).getD x.snd.toNat 0≠f)) l))) an) (PV.own 2 (List.map prV (List.filter (fun x => !decide ((zAj n).getD x.snd.toNat 0≠f)) l))) [] rfl rfl
end Go.Eng
set_option maxRecDepth 10000
set_option maxHeartbeats 4000000
namespace Go.Eng
open Go Go.Proofs
def zWl (n:Nw) (cs:List (Int×Int)) (e:Int) (st:List Int):Int:=if zPS n cs e=0 then if (!st.all fun x=>inB x 0 (n.s.length-1))=true then 1 else if st.Nodup then 0 else 5 else zPS n cs e
structure OffOk (n:Nw) (cs:List (Int×Int)) (e:Int) (st:List Int):Prop where
 err:zWl n cs e st=0
 ev:EvOk n cs e
 rng:∀ s∈st,0≤s∧s<n.s.length
 nd:st.Nodup
abbrev zXO (n:Nw) (cs:List (Int×Int)) (e:Int) (l:List (Int×Int)):PV := .func 113 [] [.ref (zDT n cs),.ref (prs l),.ref (I e)]
theorem f105_2 (n:Nw) (hb:n.s.length≤6) (x:Int):FG 105 [I x,.ref (.func 85 [nwV n] [])] (.bool (!(inB x 0 (n.s.length-1)))):=by
 refine zAe Try.f105 ?_
 refine zAd 1<|zAa<|zAd 2<|S_a [(8,.ret (PV.bool (inB x 0 ((↑n.s.length:Int)-1))) [])] (ap (f85 n x (by omega)) an)<|zAc 2<|zAa<|zAn<|E_a [] an (PV.bool !inB x 0 ((↑n.s.length:Int)-1)) [] rfl rfl
theorem f123_2 (n:Nw) (hb:n.s.length≤6) (l:List (Int)) (hl:l.length<4294967296):FG 123 [.sl (l.map I),.func 105 [] [.ref (.func 85 [nwV n] [])]] (I (zD4 (fun x => !(inB x 0 (n.s.length-1))) l)):=by
 refine zAe Try.f123 ?_
 refine zAd 1<|zAa<|zAh<|zAd 1<|S_a [(0,.n l.length)] (ap (lnS I l) an)<|zAc 1<|zAa<|zAk 0 ?_
 refine zAz (fun i=>i≤l.length∧∀ j,j<i→(fun x => !(inB x 0 (n.s.length-1))) (l.getD j 0)=false) (fun i=>[(8,I (i:Nat))]) (fun i=>l.length-i) (0:Nat) (by simp) fun i ⟨hi,ha⟩=>?_
 refine zAd 1<|zAa<|zAh<|zDa ((↑i:Int)<(↑l.length:Int)) (fun k0=>(zAl<|zAh<|zAk 1<|zAd 2<|zAa<|zAd 3<|S_a [(2,.v (I (l.getD i 0)))] (ap (zCG (0) (by omega):(List.map I l)[i]? = some (I (l.getD i 0))) an)<|zAc 1<|S_a [(7,.ret (PV.bool !inB (l.getD i 0) 0 ((↑n.s.length:Int)-1)) [])] (ap (f105_2 n (by omega) (l.getD i 0)) an)<|zAa<|zED (!inB (l.getD i 0) 0 ((↑n.s.length:Int)-1)) (fun k1=>(zAd 2<|zAa<|zAn<|E_a [] an (I (↑i:Int)) [] ?_ rfl)) (fun k1=>(zAl<|zAg<|S_a [(1,.v (I (↑(i+1):Int)))] (ap (wrN i) an)<|zAc 1<|zAa ?_)))) (fun k0=>(zAO 0<|zAd 1<|zAa<|zAn<|E_a [] an (I (-1)) [] ?_ rfl))
 ·rw [zBN (i:=i) (by omega) (fun j hj=>by rw [← zAB (d:=0)];exact ha j hj) (by rw [← zAB (d:=0)];first | assumption | exact decide_eq_true ‹_› | (simp only [Bool.not_eq_true',decide_eq_false_iff_not];assumption))]
 ·refine ⟨i+1,⟨by omega,fun j hj=>?_⟩,by omega,by kernel_rfl,by kernel_rfl⟩
  rcases Nat.lt_succ_iff_lt_or_eq.1 hj with h | rfl
  ·exact ha j h
  ·first | assumption | exact decide_eq_false ‹_› | (simp only [Bool.not_eq_false',decide_eq_true_eq];first | assumption | (apply Decidable.of_not_not;assumption))
 ·rw [zB2 fun j hj=>by rw [← zAB (d:=0)];exact ha j (by omega)]
theorem f104_2 (n:Nw) (hb:n.s.length≤6) (l:List (Int)) (hl:l.length<4294967296):FG 104 [.sl (l.map I),.func 105 [] [.ref (.func 85 [nwV n] [])]] (.bool (l.any (fun x => !(inB x 0 (n.s.length-1))))):=by
 refine zAe Try.f104 ?_
 refine zAd 1<|zAa<|zAd 2<|S_a [(7,.ret (I (zD4 (fun x => !inB x 0 ((↑n.s.length:Int)-1)) l)) [])] (ap (f123_2 n (by omega) l (by omega)) an)<|zAc 2<|zAa<|zAn<|E_a [] an (PV.bool (decide (zD4 (fun x => !inB x 0 ((↑n.s.length:Int)-1)) l≥0))) [] ?_ rfl
 rw [zDB]
theorem f68_2 (n:Nw) (hb:n.s.length≤6) (l:List (Int)) (hl:l.length<4294967296):FG 68 [.sl (l.map I),.func 85 [nwV n] []] (.bool (l.all (fun x=>inB x 0 (n.s.length-1)))):=by
 refine zAe Try.f68 ?_
 refine zAd 2<|zAa<|zAd 2<|S_a [(12,.ret (PV.bool (l.any fun x => !inB x 0 ((↑n.s.length:Int)-1))) [])] (ap (f104_2 n (by omega) l (by omega)) an)<|zAc 2<|zAa<|zAn<|E_a [] an (PV.bool !l.any fun x => !inB x 0 ((↑n.s.length:Int)-1)) [] ?_ rfl
 simp [List.not_any_eq_all_not]
theorem f89_1 (n:Nw) (cs:List (Int×Int)) (e:Int) (st:List Int) (ho:OffOk n cs e st) (yH:st.length<1000000):FG 89 [nwV n,prs cs,I e,zBi st] (.tup [zDT n cs,prs (zBy n (zBe n cs e.toNat)),.agg [zXO n cs e (zBy n (zBe n cs e.toNat))],I 0]):=by
 have uF:=ho.ev
 have gz:=uF.cr
 have wH:=gz.w
 have hn:=gz.nw
 have he:=uF.ev
 have hs6:=hn.sl.2
 have hwl:=zBI (n:=n) (cs:=cs) e.toNat
 have hgl:=zGS (w:=zBe n cs e.toNat) hn
 have hin:(!st.all fun x=>inB x 0 (n.s.length-1))=false:=by
  simp only [Bool.not_eq_false',List.all_eq_true]
  intro s hs;have:=ho.rng s hs
  simp only [inB,Bool.and_eq_true,decide_eq_true_eq];omega
 refine zAe Try.f89 ?_
 refine zAd 6<|zAa<|zAd 3<|S_a [(10,.ret (PV.tup [zDT n cs,I 0]) [])] (ap (f41_1 n cs e (by omega)) an)<|zAc 6<|zAa<|zAh<|zAk 0<|zAd 3<|zAa<|zAN<|zAd 3<|S_a [(7,.ret (PV.bool (st.all fun x=>inB x 0 ((↑n.s.length:Int)-1))) [])] (ap (f68_2 n (by omega) st (by omega)) an)<|zAc 2<|zAa<|zED (!st.all fun x=>inB x 0 ((↑n.s.length:Int)-1)) (fun k0=>(zAd 5<|zAa<|zAn<|E_a [] an (PV.tup [PV.nilp,PV.sl [],PV.agg [PV.nilf],I 1]) [] ?_ rfl)) (fun k0=>(zAl<|zAh<|zAd 1<|S_a [(0,.n st.length)] (ap (lnS I st) an)<|zAc 1<|zAa<|zAk 1 ?_))
 ·rw [hin] at k0;cases k0
 ·refine zAz (fun i=>i≤st.length) (fun (i:Nat)=>[(38,I (i:Nat))]) (fun i=>st.length-i) (0:Nat) (by omega) fun i hi=>?_
  by_cases yR:i<st.length
  ·have ju:has (st.take i) (st.getD i 0)=false:=by
    rw [zVC,decide_eq_false_iff_not]
    intro hm
    have yV:=ho.nd
    rw [← List.take_append_drop i st,List.nodup_append] at yV
    refine yV.2.2 _ hm _ ?_ rfl
    rw [List.drop_eq_getElem_cons yR,zAB yR];exact List.mem_cons_self
   refine zAd 1<|zAa<|zAh<|zA5 ((↑i:Int)<(↑st.length:Int)) (by omega)<|zAl<|zAh<|zAk 2<|zAd 1<|S_a [(2,.v (I (st.getD i 0)))] (ap (zCG (0) (by omega):(List.map I st)[i]? = some (I (st.getD i 0))) an)<|zAc 3<|zAa<|zAd 2<|S_a [(3,.ob),(0,.ob),(0,.v (zBi (List.take i st)))] (ap ((by exact zBb (by simp only [List.length_map,zzLn,zAY]<;>omega)):i.ble (List.map I st).length=true)<|ap ((by exact all_map _):((List.map I st).all fun x=>x.cells.length.beq ((fun x=>x.size) Try.prog.types[3]))=true)<|ap ((by simp):PV.sl (List.take i (List.drop 0 (List.map I st)))=zBi (List.take i st)) an)<|zAc 1<|S_a [(8,.ret (PV.bool (has (List.take i st) (st.getD i 0))) [])] (ap (f20 (List.take i st) (st.getD i 0) (by first | omega | (simp<;>omega))) an)<|zAa<|zED (has (List.take i st) (st.getD i 0)) (fun k1=>(zAd 5<|zAa<|zAn<|E_a [] an (PV.tup [PV.nilp,PV.sl [],PV.agg [PV.nilf],I 5]) [] ?_ rfl)) (fun k1=>(zAl<|zAg<|S_a [(1,.v (I (↑(i+1):Int)))] (ap (wrN i) an)<|zAc 1<|zAa ?_))
   ·rw [ju] at k1;cases k1
   ·exact ⟨i+1,by omega,by omega,by kernel_rfl,by kernel_rfl⟩
  ·refine zAd 1<|zAa<|zAh<|zBd ((↑i:Int)<(↑st.length:Int)) (by omega)<|zAO 1<|zAd 3<|S_a [(7,.ret (hdV (zBe n cs e.toNat)) [])] (ap (f43 n cs e (by omega) (by omega)) an)<|S_a [(7,.ret (PV.own 2 (List.map prV (zBy n (zBe n cs e.toNat)))) [])] (ap (f42 n cs (zBe n cs e.toNat) (by omega) (by omega)) an)<|zAc 1<|S_a [(3,.v (prs (zBy n (zBe n cs e.toNat))))] (ap ((zSr (zA4 _)):PV.sl (zAA (List.map prV (zBy n (zBe n cs e.toNat))))=prs (zBy n (zBe n cs e.toNat))) an)<|zAa<|zAd 8<|zAa<|zAn<|E_a [] an (PV.tup [(PV.agg (I n.h::prs n.l::PV.sl (List.map ntV n.n)::PV.sl (List.map zBi n.s)::prs cs::PV.map (List.map zBE (List.map pr2 n.l))::(zAt (zAj n) 8++zAt (zAU n) 8))).ref,prs (zBy n (zBe n cs e.toNat)),PV.agg [PV.func 113 [] [(PV.agg (I n.h::prs n.l::PV.sl (List.map ntV n.n)::PV.sl (List.map zBi n.s)::prs cs::PV.map (List.map zBE (List.map pr2 n.l))::(zAt (zAj n) 8++zAt (zAU n) 8))).ref.ref,(prs (zBy n (zBe n cs e.toNat))).ref,(I e).ref]],I 0]) [] rfl rfl
theorem f113 (n:Nw) (cs l:List (Int×Int)) (e:Int) (c:Int×Int) (ho:CrW n cs) (hl:cs.length≤16) (he:0≤e∧e≤1000) (qd:l.length≤1000) (hm:∀ g∈l,(0≤g.1∧g.1<n.h)∧(0≤g.2∧g.2<n.n.length)) (hc:(0≤c.1∧c.1<n.n.length)∧(0≤c.2∧c.2<n.s.length)):FG 113 [prV c,.ref (zDT n cs),.ref (prs l),.ref (I e)] (.sl ((zIe n (zBe n (cs++[c]) e.toNat) l).map prV)):=by
 refine zAe Try.f113 ?_
 refine zAd 2<|zAa<|zAd 4<|S_a [(11,.ret (PV.own 2 (List.map prV (zIe n (zBe n (cs++[c]) e.toNat) l))) [])] (ap (f45 n cs l e c (by omega) (by omega) (by omega) (by omega) (by omega) (by omega)) an)<|zAc 1<|zAa<|zAn<|E_a [(1,.envv ([(4,(PV.agg [I c.fst,I c.snd]).box),(5,prs (zIe n (zBe n (cs++[c]) e.toNat) l))]) (prs (zIe n (zBe n (cs++[c]) e.toNat) l)))] (ap (And.intro (Eq.trans (by kernel_rfl:Env.frz [(4,(PV.agg [I c.fst,I c.snd]).box),(5,PV.own 2 (List.map prV (zIe n (zBe n (cs++[c]) e.toNat) l)))] 5 []=some [(4,(PV.agg [I c.fst,I c.snd]).box),(5,PV.sl (zAA (List.map prV (zIe n (zBe n (cs++[c]) e.toNat) l))))]) ((by simp only [show zAA (List.map prV (zIe n (zBe n (cs++[c]) e.toNat) l))=List.map prV (zIe n (zBe n (cs++[c]) e.toNat) l) from (by first | exact zA4 _ | exact zBB _ | exact zBn _ | exact zBF (zBB _) | exact zBF (zBn _) | exact zEC (by simp [zDg]) (zA4 _))]):some [(4,(PV.agg [I c.fst,I c.snd]).box),(5,PV.sl (zAA (List.map prV (zIe n (zBe n (cs++[c]) e.toNat) l))))]=some [(4,(PV.agg [I c.fst,I c.snd]).box),(5,prs (zIe n (zBe n (cs++[c]) e.toNat) l))])) (zUC (by first | exact zA4 _ | exact zBB _ | exact zBn _):PV.mapW (inl 5 [] (PV.own 2 (List.map prV (zIe n (zBe n (cs++[c]) e.toNat) l)))) (PV.bor 5 [] 2 0 (List.map prV (zIe n (zBe n (cs++[c]) e.toNat) l)).length)=prs (zIe n (zBe n (cs++[c]) e.toNat) l))) an) (prs (zIe n (zBe n (cs++[c]) e.toNat) l)) [] rfl rfl
end Go.Eng
namespace Go.Eng
open Go Go.Proofs
def zX3 (n:Nw) (g:Int×Int):Prop:=(0≤g.1∧g.1<n.h)∧(0≤g.2∧g.2<n.n.length)
theorem zUZ {n:Nw} {w:List Int} (g:Int×Int) (hg:g∈zBy n w):zX3 n g:=by
 obtain ⟨h,i,h1,h2,rfl,_⟩:=zNm hg
 unfold zX3;simp only;omega
end Go.Eng
namespace Go.Eng
open Go Go.Proofs
theorem zWE {n:Nw} {cs:List (Int×Int)} (ho:CrW n cs):Tr n (zMF n cs) fun a i=>zJ2 n cs a i=true :=
 (Tr.begN ho n.h.toNat (Nat.le_refl _)).same fun a i ha _=>⟨fun h=>h.2,fun h=>⟨ha,h⟩⟩
end Go.Eng
set_option maxRecDepth 10000
set_option maxHeartbeats 4000000
namespace Go.Eng
open Go Go.Proofs
theorem zRF {n:Nw} (ho:NwOk n) {i j:Nat} (hi:i<n.n.length) (hj:j<n.n.length) (hc:chn n j i):(zAU n).getD j 0=(zAU n).getD i 0:=by
 obtain ⟨a,a1,a2,a3,_,a5⟩:=zHa ho hi
 obtain ⟨b,b1,b2,b3,_,b5⟩:=zHa ho hj
 rw [a1,b1]
 have h1:=a5 b b2 (by unfold chn at *;omega)
 have h2:=b5 a a2 (by unfold chn at *;omega)
 omega
theorem zQp {n:Nw} (ho:NwOk n) {i:Nat} (hi:i<n.n.length) (hn:∀ k,k<n.n.length→(n.n.getD k default).1≠i):(zAU n).getD i 0=i:=by
 obtain ⟨a,a1,a2,a3,a4,_⟩:=zHa ho hi
 rw [a1]
 by_cases e:a=i
 ·rw [e]
 ·obtain ⟨k,_,_,h3,h4,_⟩:=zS5 ho a i (by omega) a2 a3.symm
  exact absurd h4 (hn k h3)
section
variable [Yo]
theorem f13 (n:Nw) (ho:NwOk n):∀ (k i:Nat),i<n.n.length→n.n.length-i≤k→FG 13 [nwV n,I i] (I ((zAU n).getD i 0))
 | 0,i,hi,hk=>absurd hi (by omega)
 | k + 1,i,hi,hk=>by
  have wB:=ho.nl
  refine zAe Try.f13 ?_
  refine zAd 2<|zAa<|zAh<|zAd 2<|S_a [(0,.n n.n.length)] (ap (lnS ntV n.n) an)<|zAc 1<|zAa<|zAk 0 ?_
  refine zAz (fun j=>j≤n.n.length∧∀ r,r<j→(n.n.getD r default).1≠i) (fun (j:Nat)=>[(10,I (j:Nat))]) (fun j=>n.n.length-j) (0:Nat) ⟨Nat.zero_le _,fun r hr=>absurd hr (Nat.not_lt_zero r)⟩ fun j ⟨hj,ha⟩=>?_
  by_cases jD:j<n.n.length
  ·have hon:(n.n.getD j default).1≠i→∀ r,r<j+1→(n.n.getD r default).1≠i:=fun h r hr=>by
    rcases Nat.lt_succ_iff_lt_or_eq.1 hr with h2 | rfl
    ·exact ha r h2
    ·exact h
   clear ha
   by_cases he:(n.n.getD j default).1=i
   ·obtain ⟨hij,hc⟩:=zU2 ho jD he
    have ih:=f13 n ho k j jD (by omega)
    rw [zRF ho hi jD hc] at ih
    refine zAd 1<|zAa<|zAh<|zA5 ((↑j:Int)<(↑n.n.length:Int)) (by omega)<|zAl<|zAh<|zAk 1<|zAd 1<|S_a [(2,.v (PV.agg [I (n.n.getD j default).fst,PV.bool (n.n.getD j default).snd]))] (ap (zCG default (by omega):(List.map ntV n.n)[j]? = some (PV.agg [I (n.n.getD j default).fst,PV.bool (n.n.getD j default).snd])) an)<|zAc 4<|zAa<|zAd 4<|zAa<|zA5 ((n.n.getD j default).fst=(↑i:Int)) (by omega)<|zAd 2<|S_a [(8,.ret (I ((zAU n).getD i 0)) [])] (ap ih an)<|zAc 1<|zAa<|zAn<|E_a [] an (I ((zAU n).getD i 0)) [] rfl rfl
   ·refine zAd 1<|zAa<|zAh<|zA5 ((↑j:Int)<(↑n.n.length:Int)) (by omega)<|zAl<|zAh<|zAk 1<|zAd 1<|S_a [(2,.v (PV.agg [I (n.n.getD j default).fst,PV.bool (n.n.getD j default).snd]))] (ap (zCG default (by omega):(List.map ntV n.n)[j]? = some (PV.agg [I (n.n.getD j default).fst,PV.bool (n.n.getD j default).snd])) an)<|zAc 4<|zAa<|zAd 4<|zAa<|zBd ((n.n.getD j default).fst=(↑i:Int)) (by omega)<|zAl<|zAg<|S_a [(1,.v (I (↑(j+1):Int)))] (ap (wrN j) an)<|zAc 1<|zAa ?_
    exact ⟨j+1,⟨by omega,hon he⟩,by omega,by kernel_rfl,by kernel_rfl⟩
  ·rw [zQp ho hi fun r hr=>ha r (by omega)]
   clear ha
   refine zAd 1<|zAa<|zAh<|zBd ((↑j:Int)<(↑n.n.length:Int)) (by omega)<|zAO 0<|zAd 2<|zAa<|zAn<|E_a [] an (I (↑i:Int)) [] rfl rfl
theorem f8_ex (n:Nw) (l:List Int) (a:Nat) (t most:Int) (ho:NwOk n) (h:zDS l a) (hm:0≤most∧most≤16):∃ v h',zBD Try.prog zBO 8 [zPU,nwV n,I most] [zB3 l a t] v h'∧∃ (cs:List (Int×Int)) (a':Nat) (t':Int),v = .own 2 (cs.map prV)∧h'=[zB3 l a' t']∧(cs.length:Int)≤most∧(∀ c∈cs,(0≤c.1∧c.1<n.n.length)∧(0≤c.2∧c.2<n.s.length))∧zDS l a':=by
 have wB:=ho.nl
 have hs6:=ho.sl
 have g1:=zCE h
 have s1:=zCF l a t most
 refine zMp Try.f8 _ ?_
 refine zAd 2<|zAa<|zAd 1<|zAa<|zAh<|zAd 2<|S_a [(6,.ret (I (zAq l a t most)) ([zB3 l (zAD l a) (zAI l a t)]))] (ap (f38 l a t most (by omega) (by omega)) an)<|zAc 1<|zAa<|zAk 0 ?_
 have gH:0≤zAq l a t most∧zAq l a t most≤most:=by omega
 generalize zAq l a t most=M at *
 clear s1
 generalize zAI l a t=T0 at *
 generalize zAD l a=A0 at *
 refine zAz (fun (i,q,a,_)=>(i:Int)≤M∧q.length=i∧(∀ c∈q,(0≤c.1∧c.1<n.n.length)∧(0≤c.2∧c.2<n.s.length))∧zDS l a) (fun ((i:Nat),(q:List (Int×Int)),(a:Nat),(t:Int))=>[(7,.own 2 (q.map prV)),(11,I (i:Nat)),(50000000,zB3 l a t)]) (fun (i,_,_,_)=>M.toNat-i) ((0:Nat),([]:List (Int×Int)),A0,T0) ⟨by omega,rfl,fun c hc=>absurd hc List.not_mem_nil,g1⟩ fun (i,q,a,t) ⟨hiM,qc,hq,ha⟩=>?_
 by_cases yR:(i:Int)<M
 ·have g2:=zCE ha
  have g3:=zCE g2
  have s2:=zCF l a t ((n.n.length-1:Nat):Int)
  have s3:=zCF l (zAD l a) (zAI l a t) ((n.s.length-1:Nat):Int)
  have kF:∀ c∈q++[(zAq l a t ((n.n.length-1:Nat):Int),zAq l (zAD l a) (zAI l a t) ((n.s.length-1:Nat):Int))],(0≤c.1∧c.1<n.n.length)∧(0≤c.2∧c.2<n.s.length):=fun c hc=>by
   rcases List.mem_append.1 hc with hc | hc
   ·exact hq c hc
   ·rw [List.mem_singleton] at hc;subst hc;simp only;omega
  clear hq
  refine zAd 1<|zAa<|zAh<|zA5 ((↑i:Int)<M) (by omega)<|zAl<|zAh<|zAk 1<|zAg<|zAc 4<|S_a [(0,.n n.n.length)] (ap (lnS ntV n.n) an)<|S_a [(1,.v (I (↑(n.n.length-1):Int)))] (ap ((zCq (by omega) (by omega)):I (IntKind.i64.wrap ((↑n.n.length:Int)-1))=I (↑(n.n.length-1):Int)) an)<|S_a [(6,.ret (I (zAq l a t (↑(n.n.length-1):Int))) ([zB3 l (zAD l a) (zAI l a t)]))] (ap (f38 l a t ((↑(n.n.length-1):Int)) (by omega) (by omega)) an)<|zAc 3<|S_a [(0,.n n.s.length)] (ap (lnS zBi n.s) an)<|S_a [(1,.v (I (↑(n.s.length-1):Int)))] (ap ((zCq (by omega) (by omega)):I (IntKind.i64.wrap ((↑n.s.length:Int)-1))=I (↑(n.s.length-1):Int)) an)<|S_a [(6,.ret (I (zAq l (zAD l a) (zAI l a t) (↑(n.s.length-1):Int))) ([zB3 l (zAD l (zAD l a)) (zAI l (zAD l a) (zAI l a t))]))] (ap (f38 l (zAD l a) (zAI l a t) ((↑(n.s.length-1):Int)) (by omega) (by omega)) an)<|zAc 2<|S_a [(4,.ob),(0,.ob),(0,.yes),(2,.v (PV.own 2 (List.map prV (q++[(zAq l a t (↑(n.n.length-1):Int),zAq l (zAD l a) (zAI l a t) (↑(n.s.length-1):Int))]))))] (ap (blz (List.map prV q))<|ap ((by exact zBb (by simp only [List.length_map,zzLn,zAY]<;>omega)):((List.map prV q).length + [PV.agg [I (zAq l a t (↑(n.n.length-1):Int)),I (zAq l (zAD l a) (zAI l a t) (↑(n.s.length-1):Int))]].length).ble zAY=true)<|ap ((by exact zBR (by simp<;>omega)):(0+(List.map prV q).length).beq (List.map prV q).length=true)<|ap ((zA8 (zBV (by kernel_rfl))):PV.own 2 (List.map prV q++[PV.agg [I (zAq l a t (↑(n.n.length-1):Int)),I (zAq l (zAD l a) (zAI l a t) (↑(n.s.length-1):Int))]])=PV.own 2 (List.map prV (q++[(zAq l a t (↑(n.n.length-1):Int),zAq l (zAD l a) (zAI l a t) (↑(n.s.length-1):Int))]))) an)<|zAc 1<|zAa<|zAg<|S_a [(1,.v (I (↑(i+1):Int)))] (ap (wrN i) an)<|zAc 1<|zAa ?_
  exact ⟨(i+1,q++[(zAq l a t ((n.n.length-1:Nat):Int),zAq l (zAD l a) (zAI l a t) ((n.s.length-1:Nat):Int))],zAD l (zAD l a),zAI l (zAD l a) (zAI l a t)),⟨by omega,by rw [List.length_append,qc];rfl,kF,g3⟩,by simp only;omega,by kernel_rfl,by kernel_rfl⟩
 ·refine zAd 1<|zAa<|zAh<|zBd ((↑i:Int)<M) (by omega)<|zAO 0<|zAd 1<|S_a [(2,.yes)] (ap ((by exact zBR (by simp<;>omega)):(Nat.beq 0 0&&(List.map prV q).length.beq (List.map prV q).length)=true) an)<|zAa<|zAn<|E_q [(1,.yes),(1,.v (PV.own 2 (List.map prV q)))] (ap (blz (List.map prV q))<|ap ((zA8 zBx):PV.own 2 (List.take (List.map prV q).length (List.drop 0 (List.map prV q)))=PV.own 2 (List.map prV q)) an) (PV.own 2 (List.map prV q)) ([(PV.agg [PV.sl (List.map u8 l),I (↑a:Int),PV.int IntKind.u32 t]).box]) ?_
  exact ⟨q,a,t,rfl,rfl,by omega,hq,ha⟩
end
end Go.Eng
set_option maxRecDepth 10000
set_option maxHeartbeats 4000000
namespace Go.Eng
open Go Go.Proofs
def awS (o:List Int) (x:Int×Int):List Int:=(o.set x.1.toNat (if o.getD x.2.toNat 0+1<o.getD x.1.toNat 0 then o.getD x.2.toNat 0+1 else o.getD x.1.toNat 0)).set x.2.toNat (if o.getD x.1.toNat 0+1<o.getD x.2.toNat 0 then o.getD x.1.toNat 0+1 else o.getD x.2.toNat 0)
def awI (n:Nw) (F:List Int) (k:Nat):List Int:=(List.range k).map fun (h:Nat)=>if has F (h:Int)=true then 0 else n.h
def awR (n:Nw) (F:List Int) (k:Nat):List Int:=(List.range k).foldl (fun o _=>n.l.foldl awS o) (awI n F n.h.toNat)
def awL (n:Nw) (F:List Int):List Int:=awR n F n.h.toNat
theorem zHC {o:List Int} {x:Int×Int}:(awS o x).length=o.length:=by simp [awS]
theorem zGE {n:Nw} {F:List Int} {k:Nat}:(awI n F k).length=k:=by simp [awI]
theorem zQK:∀ (l:List (Int×Int)) {o:List Int},(l.foldl awS o).length=o.length
 | [],_=>rfl
 | x::l,o=>by rw [List.foldl_cons,zQK l,zHC]
theorem zIu {n:Nw} {F:List Int} {k:Nat}:awR n F (k+1)=n.l.foldl awS (awR n F k):=by
 simp only [awR,List.range_succ,List.foldl_append,List.foldl_cons,List.foldl_nil]
theorem zE9 {n:Nw} {F:List Int}:∀ k,(awR n F k).length=n.h.toNat
 | 0=>zGE
 | k+1=>by rw [zIu,zQK,zE9 k]
def AwB (H:Int) (o:List Int):Prop:=∀ i,i<o.length→0≤o.getD i 0∧o.getD i 0≤H
theorem zTZ {H:Int} {o:List Int} {x:Int×Int} (h:AwB H o) (hx:(0≤x.1∧x.1<o.length)∧(0≤x.2∧x.2<o.length)):AwB H (awS o x):=fun i hi=>by
 have h1:=h x.1.toNat (by omega)
 have h2:=h x.2.toNat (by omega)
 rw [zHC] at hi
 have h3:=h i hi
 unfold awS
 rw [zBZ,zBZ]
 repeat' split
 all_goals omega
section
variable [Yo]
theorem f22 (n:Nw) (F:List Int) (ho:NwOk n) (hF:F.length<1000000):FG 22 [nwV n,zBi F] (.own 1 ((awL n F).map I)):=by
 have hH:=ho.h
 have qd:=ho.ll
 have hO:(List.replicate n.h.toNat (0:Int)).length=n.h.toNat:=List.length_replicate
 refine zAe Try.f22 ?_
 refine zAd 2<|zAa<|zAd 2<|S_a [(0,.ob),(1,.ob),(1,.ob),(0,.ob),(1,.v (PV.own 1 (List.map I (List.replicate n.h.toNat 0))))] (ap ((by exact zAp (by omega)):decide (0≤n.h)=true)<|ap ((by exact zAp (by omega)):decide (0≤n.h)=true)<|ap ((by exact zAp (by omega)):decide (n.h.toNat≤n.h.toNat)=true)<|ap ((by exact zAp (by simp [zAY]<;>omega)):decide (n.h.toNat≤zAY)=true)<|ap ((by simp):PV.own 1 (List.replicate n.h.toNat (I 0))=PV.own 1 (List.map I (List.replicate n.h.toNat 0))) an)<|zAc 1<|zAa<|zAh<|zAd 1<|S_a [(0,.n ((List.replicate n.h.toNat 0).length))] (ap ((by simp):some (List.map I (List.replicate n.h.toNat 0)).length=some (List.replicate n.h.toNat 0).length) an)<|zAc 1<|zAa<|zAk 0 ?_
 refine zAz (fun (i,o)=>i≤n.h.toNat∧o=awI n F i++List.replicate (n.h.toNat-i) 0) (fun ((i:Nat),(o:List Int))=>[(5,.own 1 (o.map I)),(14,I (i:Nat))]) (fun (i,_)=>n.h.toNat-i) ((0:Nat),List.replicate n.h.toNat (0:Int)) ⟨Nat.zero_le _,by simp [awI]⟩ fun (i,o) ⟨hi,qe⟩=>?_
 have hol:o.length=n.h.toNat:=by rw [qe];simp [awI];omega
 by_cases yR:i<n.h.toNat
 ·have yH:∀ v:Int,o.set i v=awI n F i++[v]++List.replicate (n.h.toNat-(i+1)) 0:=fun v=>by
   rw [qe,show n.h.toNat-i=(n.h.toNat-(i+1))+1 by omega,List.replicate_succ,List.set_append_right _ _ (by rw [zGE];omega),zGE,Nat.sub_self,List.set_cons_zero,List.append_assoc];rfl
  have j3:awI n F (i+1)=awI n F i++[if has F (i:Int)=true then 0 else n.h]:=by simp [awI,List.range_succ]
  clear qe
  refine zAd 1<|zAa<|zAh<|zDa ((↑i:Int)<(↑(List.replicate n.h.toNat 0).length:Int)) (fun k0=>(zAl<|zAh<|zAk 1<|zAd 2<|zAa<|zAd 4<|S_a [(2,.ob),(1,.n i)] (ap ((by exact zAp (by simp only [List.length_map,zzLn]<;>omega)):decide (i<(List.map I o).length)=true)<|ap ((by simp):some (0+i)=some i) an)<|S_a [(8,.root (PV.own 1 (List.map I (o.set i n.h))) true)] (ap (zMg (zCG (0) (by omega)) zEl:zBw (PV.own 1 (List.map I o)) [] i 0 (I n.h).cells=some (PV.own 1 (List.map I (o.set i n.h)))∧zAF (PV.own 1 (List.map I o)) (PV.own 1 (List.map I (o.set i n.h))) []=true) an)<|zAa<|zAd 2<|S_a [(8,.ret (PV.bool (has F (↑i:Int))) [])] (ap (f20 F ((↑i:Int)) (by omega)) an)<|zAa<|zED (has F (↑i:Int)) (fun k1=>(zAg<|zAc 2<|S_a [(2,.ob),(1,.n i)] (ap ((by exact zAp (by simp only [List.length_map,zzLn]<;>omega)):decide (i<(List.map I (o.set i n.h)).length)=true)<|ap ((by simp):some (0+i)=some i) an)<|S_a [(7,.root (PV.own 1 (List.map I ((o.set i n.h).set i 0))) true)] (ap (zMg (zT5 (by first | omega | (simp<;>omega))) zEl:zBw (PV.own 1 (List.map I (o.set i n.h))) [] i 0 (I 0).cells=some (PV.own 1 (List.map I ((o.set i n.h).set i 0)))∧zAF (PV.own 1 (List.map I (o.set i n.h))) (PV.own 1 (List.map I ((o.set i n.h).set i 0))) []=true) an)<|zAa<|zAg<|S_a [(1,.v (I (↑(i+1):Int)))] (ap (wrN i) an)<|zAc 1<|zAa ?_)) (fun k1=>(zAl<|zAg<|S_a [(1,.v (I (↑(i+1):Int)))] (ap (wrN i) an)<|zAc 1<|zAa ?_)))) (fun k0=>(zAO 0<|zAh<|zAd 3<|zAa<|zAk 2 ?_))
  ·exact ⟨(i+1,(o.set i n.h).set i 0),⟨by omega,by rw [List.set_set,yH,j3,if_pos k1]⟩,by simp only;omega,by kernel_rfl,by kernel_rfl⟩
  ·exact ⟨(i+1,o.set i n.h),⟨by omega,by rw [yH,j3,if_neg (by rw [k1];simp)]⟩,by simp only;omega,by kernel_rfl,by kernel_rfl⟩
  ·exfalso;simp only [List.length_replicate] at k0;omega
 have hoe:o=awR n F 0:=by rw [qe,show n.h.toNat-i=0 by omega,show i=n.h.toNat by omega];simp [awR]
 clear qe
 refine zAd 1<|zAa<|zAh<|zDa ((↑i:Int)<(↑(List.replicate n.h.toNat 0).length:Int)) (fun k0=>(zAl<|zAh<|zAk 1<|zAd 2<|zAa<|zAd 4<|S_a [(2,.ob),(1,.n i)] (ap (?_:decide (i<(List.map I o).length)=true)<|ap ((by simp):some (0+i)=some i) an)<|S_a [(8,.root (PV.own 1 (List.map I (o.set i n.h))) true)] (ap (zMg (zCG (0) ?_) zEl:zBw (PV.own 1 (List.map I o)) [] i 0 (I n.h).cells=some (PV.own 1 (List.map I (o.set i n.h)))∧zAF (PV.own 1 (List.map I o)) (PV.own 1 (List.map I (o.set i n.h))) []=true) an)<|zAa<|zAd 2<|S_a [(8,.ret (PV.bool (has F (↑i:Int))) [])] (ap (f20 F ((↑i:Int)) (by omega)) an)<|zAa<|zED (has F (↑i:Int)) (fun k1=>(zAg<|zAc 2<|S_a [(2,.ob),(1,.n i)] (ap (?_:decide (i<(List.map I (o.set i n.h)).length)=true)<|ap ((by simp):some (0+i)=some i) an)<|S_a [(7,.root (PV.own 1 (List.map I ((o.set i n.h).set i 0))) true)] (ap (zMg (zT5 ?_) zEl:zBw (PV.own 1 (List.map I (o.set i n.h))) [] i 0 (I 0).cells=some (PV.own 1 (List.map I ((o.set i n.h).set i 0)))∧zAF (PV.own 1 (List.map I (o.set i n.h))) (PV.own 1 (List.map I ((o.set i n.h).set i 0))) []=true) an)<|zAa<|zAg<|S_a [(1,.v (I (↑(i+1):Int)))] (ap (wrN i) an)<|zAc 1<|zAa ?_)) (fun k1=>(zAl<|zAg<|S_a [(1,.v (I (↑(i+1):Int)))] (ap (wrN i) an)<|zAc 1<|zAa ?_)))) (fun k0=>(zAO 0<|zAh<|zAd 3<|zAa<|zAk 2 ?_))
 all_goals try (exfalso;simp only [List.length_replicate] at k0;omega)
 refine zAz (fun (k,o)=>k≤n.h.toNat∧o=awR n F k∧AwB n.h o) (fun ((k:Nat),(o:List Int))=>[(5,.own 1 (o.map I)),(31,I (k:Nat))]) (fun (k,_)=>n.h.toNat-k) ((0:Nat),o) ⟨Nat.zero_le _,hoe,fun j hj=>?_⟩ fun (k,o) ⟨hk,yD,hob⟩=>?_
 ·rw [hoe]
  rw [hoe,zE9] at hj
  simp only [awR,List.range_zero,List.foldl_nil]
  rw [zAB (by rw [zGE];exact hj)]
  simp only [awI,List.getElem_map,List.getElem_range]
  split<;>omega
 have hol2:o.length=n.h.toNat:=by rw [yD,zE9]
 by_cases vR:(k:Int)<n.h
 ·have j3:=zIu (n:=n) (F:=F) (k:=k)
  rw [← yD] at j3
  clear yD
  refine zAd 1<|zAa<|zAh<|zA5 ((↑k:Int)<n.h) (by omega)<|zAl<|zAh<|zAk 3<|zAd 2<|S_a [(0,.n n.l.length)] (ap (lnS prV n.l) an)<|zAc 1<|zAa<|zAk 4 ?_
  refine zAz (fun (j,p)=>j≤n.l.length∧p=(n.l.take j).foldl awS o∧AwB n.h p∧p.length=n.h.toNat) (fun ((j:Nat),(p:List Int))=>[(5,.own 1 (p.map I)),(36,I (j:Nat))]) (fun (j,_)=>n.l.length-j) ((0:Nat),o) ⟨Nat.zero_le _,rfl,hob,hol2⟩ fun (j,p) ⟨hj,hp,hpb,uH⟩=>?_
  by_cases jD:j<n.l.length
  ·have hr:=zCp (d:=default) ho.lr j jD
   have yw:=zER (f:=awS) (b:=o) (d:=default) jD
   rw [← hp] at yw
   have jF:AwB n.h (awS p (n.l.getD j default)):=zTZ hpb (by omega)
   have h1:=hpb (n.l.getD j default).1.toNat (by omega)
   have h2:=hpb (n.l.getD j default).2.toNat (by omega)
   clear hp j3
   refine zAd 1<|zAa<|zAh<|zA5 ((↑j:Int)<(↑n.l.length:Int)) (by omega)<|zAl<|zAh<|zAk 5<|zAh<|zAg<|S_a [(2,.v (PV.agg [I (n.l.getD j default).fst,I (n.l.getD j default).snd]))] (ap (zCG default (by omega):(List.map prV n.l)[j]? = some (PV.agg [I (n.l.getD j default).fst,I (n.l.getD j default).snd])) an)<|zAc 3<|zAa<|zAg<|zAc 1<|zAc 1<|zAc 2<|zAc 1<|zAc 2<|zAc 1<|zAc 1<|S_a [(0,.ob),(1,.ob),(1,.n ((n.l.getD j default).fst.toNat))] (ap ((by exact zAp (by omega)):decide (0≤(n.l.getD j default).fst)=true)<|ap ((by exact zAp (by simp only [List.length_map,zzLn]<;>omega)):decide ((n.l.getD j default).fst.toNat<(List.map I p).length)=true)<|ap ((by simp):some (0+(n.l.getD j default).fst.toNat)=some (n.l.getD j default).fst.toNat) an)<|S_a [(0,.cs false ([I (p.getD (n.l.getD j default).fst.toNat 0)]))] (ap (zC8 (q:=PV.own 1 (List.map I p)) (xs:=List.map I p) (x:=I (p.getD (n.l.getD j default).fst.toNat 0)) rfl (zCG (0) (by omega)):zAs 5 (PV.own 1 (List.map I p)) [] (n.l.getD j default).fst.toNat 0 1=some (false,[I (p.getD (n.l.getD j default).fst.toNat 0)])) an)<|zAc 1<|zAc 1<|zAc 1<|S_a [(0,.ob),(1,.ob),(1,.n ((n.l.getD j default).snd.toNat))] (ap ((by exact zAp (by omega)):decide (0≤(n.l.getD j default).snd)=true)<|ap ((by exact zAp (by simp only [List.length_map,zzLn]<;>omega)):decide ((n.l.getD j default).snd.toNat<(List.map I p).length)=true)<|ap ((by simp):some (0+(n.l.getD j default).snd.toNat)=some (n.l.getD j default).snd.toNat) an)<|S_a [(0,.cs false ([I (p.getD (n.l.getD j default).snd.toNat 0)]))] (ap (zC8 (q:=PV.own 1 (List.map I p)) (xs:=List.map I p) (x:=I (p.getD (n.l.getD j default).snd.toNat 0)) rfl (zCG (0) (by omega)):zAs 5 (PV.own 1 (List.map I p)) [] (n.l.getD j default).snd.toNat 0 1=some (false,[I (p.getD (n.l.getD j default).snd.toNat 0)])) an)<|S_a [(1,.v (I (p.getD (n.l.getD j default).snd.toNat 0+1)))] (ap ((zCq rfl (by omega)):I (IntKind.i64.wrap (p.getD (n.l.getD j default).snd.toNat 0+1))=I (p.getD (n.l.getD j default).snd.toNat 0+1)) an)<|zAc 2<|zAc 1<|zAc 1<|S_a [(0,.ob),(1,.ob),(1,.n ((n.l.getD j default).snd.toNat))] (ap ((by exact zAp (by omega)):decide (0≤(n.l.getD j default).snd)=true)<|ap ((by exact zAp (by simp only [List.length_map,zzLn]<;>omega)):decide ((n.l.getD j default).snd.toNat<(List.map I p).length)=true)<|ap ((by simp):some (0+(n.l.getD j default).snd.toNat)=some (n.l.getD j default).snd.toNat) an)<|S_a [(0,.cs false ([I (p.getD (n.l.getD j default).snd.toNat 0)]))] (ap (zC8 (q:=PV.own 1 (List.map I p)) (xs:=List.map I p) (x:=I (p.getD (n.l.getD j default).snd.toNat 0)) rfl (zCG (0) (by omega)):zAs 5 (PV.own 1 (List.map I p)) [] (n.l.getD j default).snd.toNat 0 1=some (false,[I (p.getD (n.l.getD j default).snd.toNat 0)])) an)<|zAc 1<|zAc 1<|zAc 1<|S_a [(0,.ob),(1,.ob),(1,.n ((n.l.getD j default).fst.toNat))] (ap ((by exact zAp (by omega)):decide (0≤(n.l.getD j default).fst)=true)<|ap ((by exact zAp (by simp only [List.length_map,zzLn]<;>omega)):decide ((n.l.getD j default).fst.toNat<(List.map I p).length)=true)<|ap ((by simp):some (0+(n.l.getD j default).fst.toNat)=some (n.l.getD j default).fst.toNat) an)<|S_a [(0,.cs false ([I (p.getD (n.l.getD j default).fst.toNat 0)]))] (ap (zC8 (q:=PV.own 1 (List.map I p)) (xs:=List.map I p) (x:=I (p.getD (n.l.getD j default).fst.toNat 0)) rfl (zCG (0) (by omega)):zAs 5 (PV.own 1 (List.map I p)) [] (n.l.getD j default).fst.toNat 0 1=some (false,[I (p.getD (n.l.getD j default).fst.toNat 0)])) an)<|S_a [(1,.v (I (p.getD (n.l.getD j default).fst.toNat 0+1)))] (ap ((zCq rfl (by omega)):I (IntKind.i64.wrap (p.getD (n.l.getD j default).fst.toNat 0+1))=I (p.getD (n.l.getD j default).fst.toNat 0+1)) an)<|zAc 1<|S_a [(0,.ob),(1,.ob),(1,.n ((n.l.getD j default).fst.toNat))] (ap ((by exact zAp (by omega)):decide (0≤(n.l.getD j default).fst)=true)<|ap ((by exact zAp (by simp only [List.length_map,zzLn]<;>omega)):decide ((n.l.getD j default).fst.toNat<(List.map I p).length)=true)<|ap ((by simp):some (0+(n.l.getD j default).fst.toNat)=some (n.l.getD j default).fst.toNat) an)<|S_a [(8,.root (PV.own 1 (List.map I (p.set (n.l.getD j default).fst.toNat (if p.getD (n.l.getD j default).snd.toNat 0+1<p.getD (n.l.getD j default).fst.toNat 0 then p.getD (n.l.getD j default).snd.toNat 0+1 else p.getD (n.l.getD j default).fst.toNat 0)))) true)] (ap (zMg (zCG (0) (by omega)) zEl:zBw (PV.own 1 (List.map I p)) [] (n.l.getD j default).fst.toNat 0 (I (if p.getD (n.l.getD j default).snd.toNat 0+1<p.getD (n.l.getD j default).fst.toNat 0 then p.getD (n.l.getD j default).snd.toNat 0+1 else p.getD (n.l.getD j default).fst.toNat 0)).cells=some (PV.own 1 (List.map I (p.set (n.l.getD j default).fst.toNat (if p.getD (n.l.getD j default).snd.toNat 0+1<p.getD (n.l.getD j default).fst.toNat 0 then p.getD (n.l.getD j default).snd.toNat 0+1 else p.getD (n.l.getD j default).fst.toNat 0))))∧zAF (PV.own 1 (List.map I p)) (PV.own 1 (List.map I (p.set (n.l.getD j default).fst.toNat (if p.getD (n.l.getD j default).snd.toNat 0+1<p.getD (n.l.getD j default).fst.toNat 0 then p.getD (n.l.getD j default).snd.toNat 0+1 else p.getD (n.l.getD j default).fst.toNat 0)))) []=true) an)<|S_a [(0,.ob),(1,.ob),(1,.n ((n.l.getD j default).snd.toNat))] (ap ((by exact zAp (by omega)):decide (0≤(n.l.getD j default).snd)=true)<|ap ((by exact zAp (by simp only [List.length_map,zzLn]<;>omega)):decide ((n.l.getD j default).snd.toNat<(List.map I p).length)=true)<|ap ((by simp):some (0+(n.l.getD j default).snd.toNat)=some (n.l.getD j default).snd.toNat) an)<|S_a [(8,.root (PV.own 1 (List.map I ((p.set (n.l.getD j default).fst.toNat (if p.getD (n.l.getD j default).snd.toNat 0+1<p.getD (n.l.getD j default).fst.toNat 0 then p.getD (n.l.getD j default).snd.toNat 0+1 else p.getD (n.l.getD j default).fst.toNat 0)).set (n.l.getD j default).snd.toNat (if p.getD (n.l.getD j default).fst.toNat 0+1<p.getD (n.l.getD j default).snd.toNat 0 then p.getD (n.l.getD j default).fst.toNat 0+1 else p.getD (n.l.getD j default).snd.toNat 0)))) true)] (ap (zMg (zCG (0) ?_) zEl:zBw (PV.own 1 (List.map I (p.set (n.l.getD j default).fst.toNat (if p.getD (n.l.getD j default).snd.toNat 0+1<p.getD (n.l.getD j default).fst.toNat 0 then p.getD (n.l.getD j default).snd.toNat 0+1 else p.getD (n.l.getD j default).fst.toNat 0)))) [] (n.l.getD j default).snd.toNat 0 (I (if p.getD (n.l.getD j default).fst.toNat 0+1<p.getD (n.l.getD j default).snd.toNat 0 then p.getD (n.l.getD j default).fst.toNat 0+1 else p.getD (n.l.getD j default).snd.toNat 0)).cells=some (PV.own 1 (List.map I ((p.set (n.l.getD j default).fst.toNat (if p.getD (n.l.getD j default).snd.toNat 0+1<p.getD (n.l.getD j default).fst.toNat 0 then p.getD (n.l.getD j default).snd.toNat 0+1 else p.getD (n.l.getD j default).fst.toNat 0)).set (n.l.getD j default).snd.toNat (if p.getD (n.l.getD j default).fst.toNat 0+1<p.getD (n.l.getD j default).snd.toNat 0 then p.getD (n.l.getD j default).fst.toNat 0+1 else p.getD (n.l.getD j default).snd.toNat 0))))∧zAF (PV.own 1 (List.map I (p.set (n.l.getD j default).fst.toNat (if p.getD (n.l.getD j default).snd.toNat 0+1<p.getD (n.l.getD j default).fst.toNat 0 then p.getD (n.l.getD j default).snd.toNat 0+1 else p.getD (n.l.getD j default).fst.toNat 0)))) (PV.own 1 (List.map I ((p.set (n.l.getD j default).fst.toNat (if p.getD (n.l.getD j default).snd.toNat 0+1<p.getD (n.l.getD j default).fst.toNat 0 then p.getD (n.l.getD j default).snd.toNat 0+1 else p.getD (n.l.getD j default).fst.toNat 0)).set (n.l.getD j default).snd.toNat (if p.getD (n.l.getD j default).fst.toNat 0+1<p.getD (n.l.getD j default).snd.toNat 0 then p.getD (n.l.getD j default).fst.toNat 0+1 else p.getD (n.l.getD j default).snd.toNat 0)))) []=true) an)<|zAa<|zAg<|S_a [(1,.v (I (↑(j+1):Int)))] (ap (wrN j) an)<|zAc 1<|zAa ?_
   ·rw [List.length_set];omega
   ·exact ⟨(j+1,awS p (n.l.getD j default)),⟨by omega,yw.symm,jF,by rw [zHC];exact uH⟩,by simp only;omega,by kernel_rfl,by kernel_rfl⟩
  ·rw [List.take_of_length_le (by omega)] at hp
   rw [← hp] at j3
   clear hp
   refine zAd 1<|zAa<|zAh<|zBd ((↑j:Int)<(↑n.l.length:Int)) (by omega)<|zAO 4<|zAg<|S_a [(1,.v (I (↑(k+1):Int)))] (ap (wrN k) an)<|zAc 1<|zAa ?_
   exact ⟨(k+1,p),⟨by omega,j3.symm,hpb⟩,by simp only;omega,by kernel_rfl,by kernel_rfl⟩
 ·have hke:k=n.h.toNat:=by omega
  have hf:o=awL n F:=by rw [yD,hke];rfl
  rw [← hf]
  clear yD hf
  refine zAd 1<|zAa<|zAh<|zBd ((↑k:Int)<n.h) (by omega)<|zAO 2<|zAd 1<|S_a [(2,.yes)] (ap ((by exact zBR (by simp<;>omega)):(Nat.beq 0 0&&(List.map I o).length.beq (List.map I o).length)=true) an)<|zAa<|zAn<|E_a [(1,.yes),(1,.v (PV.own 1 (List.map I o)))] (ap (blz (List.map I o))<|ap ((zA8 zBx):PV.own 1 (List.take (List.map I o).length (List.drop 0 (List.map I o)))=PV.own 1 (List.map I o)) an) (PV.own 1 (List.map I o)) [] rfl rfl
end
end Go.Eng
set_option maxRecDepth 10000
set_option maxHeartbeats 4000000
namespace Go.Eng
open Go Go.Proofs
theorem f49_2 (n:Nw) (cs:List (Int×Int)) (h:Int) (x:Int) (ho:CrOk n cs) (hh:0≤h∧h<n.h) (hx:0≤x∧x<n.n.length) (hm:∀ j,j≤12→(zBe n cs j).getD (h.toNat*8+((zAj n).getD x.toNat 0).toNat) 0≠x):FG 49 [nwV n,prs cs,I h,I x] (.tup [.own 1 [],I 6]):=by
 have hn:=ho.nw
 have wH:=ho.w
 have hb:=hn.h
 have wB:=hn.nl
 have hin:inB x 0 (n.n.length-1)=true:=by simp only [inB,Bool.and_eq_true,decide_eq_true_eq];omega
 have hih:inB h 0 (n.h-1)=true:=by simp only [inB,Bool.and_eq_true,decide_eq_true_eq];omega
 have hfb:=zCA hn x.toNat (by omega)
 refine zAe Try.f49 ?_
 refine zAd 4<|zAa<|zAd 2<|S_a [(8,.ret (PV.tup [zDT n cs,I 0]) [])] (ap (f82_1 n cs (by omega)) an)<|zAc 5<|zAa<|zAh<|zAk 0<|zAd 3<|zAa<|zAN<|zAd 2<|S_a [(8,.ret (PV.bool (inB h 0 (n.h-1))) [])] (ap (f69 n h (by omega)) an)<|zAc 2<|zFp 32 (!inB h 0 (n.h-1)) (fun k0=>(zAc 6<|zAa<|zEb<|zAd 2<|zAa<|zAn<|E_a [] an (PV.tup [PV.own 1 [],I 1]) [] ?_ rfl)) (fun k0=>(zAc 2<|S_a [(8,.ret (PV.bool (inB x 0 ((↑n.n.length:Int)-1))) [])] (ap (f73 n x (by first | omega | (simp<;>omega))) an)<|zAc 3<|zAa<|zED (!inB x 0 ((↑n.n.length:Int)-1)) (fun k1=>(zAd 2<|zAa<|zAn<|E_a [] an (PV.tup [PV.own 1 [],I 1]) [] ?_ rfl)) (fun k1=>(zAl<|zAd 4<|S_a [(0,.ob),(1,.ob),(0,.v ((I ((zAj n).getD x.toNat 0)).ref))] (ap ((by exact zAp (by omega)):decide (0≤x)=true)<|ap ((by exact zAp (by omega)):decide (x.toNat<8)=true)<|ap (zGt (F:=zAj n) (m:=8) (j:=x.toNat) (by omega):zCl (PV.agg (zAt (zAj n) 8)).ref (x.toNat*(fun x=>x.size) Try.prog.types[3]) none=some (I ((zAj n).getD x.toNat 0)).ref) an)<|zAc 3<|zAa<|zAd 1<|S_a [(5,.ret (hdV (zMF n cs)) [])] (ap (f83 n cs (by omega)) an)<|zAc 3<|zAa<|zAh<|zAk 1 ?_))))
 ·exact absurd (by assumption:(!inB h 0 (n.h-1))=true) (by rw [hih];simp)
 ·exact absurd (by assumption:(!inB x 0 (n.n.length-1))=true) (by rw [hin];simp)
 ·generalize hc:((zAj n).getD x.toNat 0)=c at *
  refine zAz (fun (j,S)=>j≤12∧S=zQB n cs (j+1)) (fun (j,S)=>[(13,zT2 S)]) (fun (j,_)=>12-j) ((0:Nat),[zMF n cs]) ⟨by omega,rfl⟩ fun (j,S) ⟨hj,hS⟩=>?_
  have gx:S.length=j+1:=by rw [hS];simp [zQB]
  have wx:S.getD (S.length-1) []=zBe n cs j:=by rw [gx,hS];exact zK5 (by omega)
  have hwl:(S.getD (S.length-1) []).length=80:=by rw [wx];exact zBI j
  have hI:=hm j hj
  rw [← wx] at hI
  have hSS:S++[zCz n (S.getD (S.length-1) [])]=zQB n cs (j+1+1):=by rw [zMc (k:=j+1),← hS,wx];rfl
  by_cases gU:j<12
  ·refine zAh<|zAh<|zAg<|S_a [(1,.v (PV.bor 13 [(0,0)] 80 0 S.length))] (ap ((by simp):PV.bor 13 [(0,0)] 80 0 (List.map hdV S).length=PV.bor 13 [(0,0)] 80 0 S.length) an)<|S_a [(1,.v (PV.bor 13 [(0,0)] 80 0 S.length))] (ap ((by simp):PV.bor 13 [(0,0)] 80 0 (List.map hdV S).length=PV.bor 13 [(0,0)] 80 0 S.length) an)<|zAc 1<|S_a [(1,.v (I (↑(S.length-1):Int)))] (ap ((zCq (by omega) (by omega)):I (IntKind.i64.wrap ((↑S.length:Int)-1))=I (↑(S.length-1):Int)) an)<|zAc 2<|S_a [(2,.ob),(1,.n (S.length-1))] (ap ((by exact zAp (by omega)):decide (S.length-1<S.length)=true)<|ap ((by simp):some (0+(S.length-1))=some (S.length-1)) an)<|S_a [(0,.ob),(1,.ob)] (ap ((by exact zAp (by omega)):decide (0≤h)=true)<|ap ((by exact zAp (by omega)):decide (h.toNat<10)=true) an)<|S_a [(0,.ob),(1,.ob)] (ap ((by exact zAp (by omega)):decide (0≤c)=true)<|ap ((by exact zAp (by omega)):decide (c.toNat<8)=true) an)<|S_a [(0,.cs true ([I ((S.getD (S.length-1) []).getD (h.toNat*8+c.toNat) 0)]))] (ap (zC8 (q:=PV.own 80 (List.map hdV S)) (xs:=List.map hdV S) (x:=PV.agg (zAt (S.getD (S.length-1) []) 80)) (zLN (xs:=[PV.own 80 (List.map hdV S)]) (x:=PV.own 80 (List.map hdV S)) (y:=PV.own 80 (List.map hdV S)) rfl rfl) (zCG [] (by omega)) (zEY (F:=S.getD (S.length-1) []) (m:=80) (j:=h.toNat*8+c.toNat) (by first | rfl | exact zB1 (by kernel_rfl) | exact zB6 (by kernel_rfl) | exact zB0 (by kernel_rfl) (by kernel_rfl) | exact zB8 (by kernel_rfl) | exact zCa (by kernel_rfl) (by kernel_rfl) | exact zB5 (by kernel_rfl) | (simp;done)) (by omega)):zAs 13 (PV.own 80 (List.map hdV S)).box [(0,0)] (S.length-1) (0+h.toNat*(fun x=>x.size) Try.prog.types[89]+c.toNat*(fun x=>x.size) Try.prog.types[3]) 1=some (true,[I ((S.getD (S.length-1) []).getD (h.toNat*8+c.toNat) 0)])) an)<|zAc 2<|zAa<|zLw ((S.getD (S.length-1) []).getD (h.toNat*8+c.toNat) 0=x) (by omega)<|zAl<|zAk 2<|zAh<|zAh<|zAg<|S_a [(1,.v (PV.bor 13 [(0,0)] 80 0 S.length))] (ap ((by simp):PV.bor 13 [(0,0)] 80 0 (List.map hdV S).length=PV.bor 13 [(0,0)] 80 0 S.length) an)<|zAc 2<|zAa<|zBd ((↑S.length:Int)>12) (by omega)<|zAl<|zAg<|S_a [(1,.v (PV.bor 13 [(0,0)] 80 0 S.length))] (ap ((by simp):PV.bor 13 [(0,0)] 80 0 (List.map hdV S).length=PV.bor 13 [(0,0)] 80 0 S.length) an)<|zAc 1<|S_a [(1,.v (PV.bor 13 [(0,0)] 80 0 S.length))] (ap ((by simp):PV.bor 13 [(0,0)] 80 0 (List.map hdV S).length=PV.bor 13 [(0,0)] 80 0 S.length) an)<|S_a [(1,.v (PV.bor 13 [(0,0)] 80 0 S.length))] (ap ((by simp):PV.bor 13 [(0,0)] 80 0 (List.map hdV S).length=PV.bor 13 [(0,0)] 80 0 S.length) an)<|zAc 1<|S_a [(1,.v (I (↑(S.length-1):Int)))] (ap ((zCq (by omega) (by omega)):I (IntKind.i64.wrap ((↑S.length:Int)-1))=I (↑(S.length-1):Int)) an)<|S_a [(2,.ob),(1,.n (S.length-1))] (ap ((by exact zAp (by omega)):decide (S.length-1<S.length)=true)<|ap ((by simp):some (0+(S.length-1))=some (S.length-1)) an)<|S_a [(0,.cs true (zAt (S.getD (S.length-1) []) 80))] (ap (zC8 (q:=PV.own 80 (List.map hdV S)) (xs:=List.map hdV S) (x:=PV.agg (zAt (S.getD (S.length-1) []) 80)) (zLN (xs:=[PV.own 80 (List.map hdV S)]) (x:=PV.own 80 (List.map hdV S)) (y:=PV.own 80 (List.map hdV S)) rfl rfl) (zCG [] (by omega)):zAs 13 (PV.own 80 (List.map hdV S)).box [(0,0)] (S.length-1) 0 Try.prog.types[91].size=some (true,zAt (S.getD (S.length-1) []) 80)) an)<|S_a [(7,.ret (hdV (zCz n (S.getD (S.length-1) []))) [])] (ap (f84 n cs (S.getD (S.length-1) []) (by omega) (by omega)) an)<|zAc 1<|S_a [(4,.ob),(0,.ob),(0,.yes),(2,.v (PV.own 80 (List.map hdV (S++[zCz n (S.getD (S.length-1) [])]))))] (ap ((by exact zBb (by simp only [List.length_map,zzLn,zAY]<;>omega)):(0+S.length).ble (List.map hdV S).length=true)<|ap ((by exact zBb (by simp only [List.length_map,zzLn,zAY]<;>omega)):((List.map hdV S).length + [PV.agg (zAt (zCz n (S.getD (S.length-1) [])) 80)].length).ble zAY=true)<|ap ((by exact zBR (by simp<;>omega)):(0+S.length).beq (List.map hdV S).length=true)<|ap ((zA8 (zBV (by kernel_rfl))):PV.own 80 (List.map hdV S++[PV.agg (zAt (zCz n (S.getD (S.length-1) [])) 80)])=PV.own 80 (List.map hdV (S++[zCz n (S.getD (S.length-1) [])]))) an)<|zAc 1<|zAa ?_
   exact ⟨(j+1,S++[zCz n (S.getD (S.length-1) [])]),⟨by omega,hSS⟩,by simp only;omega,by kernel_rfl,by kernel_rfl⟩
  ·refine zAh<|zAh<|zAg<|S_a [(1,.v (PV.bor 13 [(0,0)] 80 0 S.length))] (ap ((by simp):PV.bor 13 [(0,0)] 80 0 (List.map hdV S).length=PV.bor 13 [(0,0)] 80 0 S.length) an)<|S_a [(1,.v (PV.bor 13 [(0,0)] 80 0 S.length))] (ap ((by simp):PV.bor 13 [(0,0)] 80 0 (List.map hdV S).length=PV.bor 13 [(0,0)] 80 0 S.length) an)<|zAc 1<|S_a [(1,.v (I (↑(S.length-1):Int)))] (ap ((zCq (by omega) (by omega)):I (IntKind.i64.wrap ((↑S.length:Int)-1))=I (↑(S.length-1):Int)) an)<|zAc 2<|S_a [(2,.ob),(1,.n (S.length-1))] (ap ((by exact zAp (by omega)):decide (S.length-1<S.length)=true)<|ap ((by simp):some (0+(S.length-1))=some (S.length-1)) an)<|S_a [(0,.ob),(1,.ob)] (ap ((by exact zAp (by omega)):decide (0≤h)=true)<|ap ((by exact zAp (by omega)):decide (h.toNat<10)=true) an)<|S_a [(0,.ob),(1,.ob)] (ap ((by exact zAp (by omega)):decide (0≤c)=true)<|ap ((by exact zAp (by omega)):decide (c.toNat<8)=true) an)<|S_a [(0,.cs true ([I ((S.getD (S.length-1) []).getD (h.toNat*8+c.toNat) 0)]))] (ap (zC8 (q:=PV.own 80 (List.map hdV S)) (xs:=List.map hdV S) (x:=PV.agg (zAt (S.getD (S.length-1) []) 80)) (zLN (xs:=[PV.own 80 (List.map hdV S)]) (x:=PV.own 80 (List.map hdV S)) (y:=PV.own 80 (List.map hdV S)) rfl rfl) (zCG [] (by omega)) (zEY (F:=S.getD (S.length-1) []) (m:=80) (j:=h.toNat*8+c.toNat) (by first | rfl | exact zB1 (by kernel_rfl) | exact zB6 (by kernel_rfl) | exact zB0 (by kernel_rfl) (by kernel_rfl) | exact zB8 (by kernel_rfl) | exact zCa (by kernel_rfl) (by kernel_rfl) | exact zB5 (by kernel_rfl) | (simp;done)) (by omega)):zAs 13 (PV.own 80 (List.map hdV S)).box [(0,0)] (S.length-1) (0+h.toNat*(fun x=>x.size) Try.prog.types[89]+c.toNat*(fun x=>x.size) Try.prog.types[3]) 1=some (true,[I ((S.getD (S.length-1) []).getD (h.toNat*8+c.toNat) 0)])) an)<|zAc 2<|zAa<|zLw ((S.getD (S.length-1) []).getD (h.toNat*8+c.toNat) 0=x) (by omega)<|zAl<|zAk 2<|zAh<|zAh<|zAg<|S_a [(1,.v (PV.bor 13 [(0,0)] 80 0 S.length))] (ap ((by simp):PV.bor 13 [(0,0)] 80 0 (List.map hdV S).length=PV.bor 13 [(0,0)] 80 0 S.length) an)<|zAc 2<|zAa<|zA5 ((↑S.length:Int)>12) (by omega)<|zAd 2<|zAa<|zAn<|E_a [] an (PV.tup [PV.own 1 [],I 6]) [] rfl rfl
end Go.Eng
namespace Go.Eng
open Go Go.Proofs
theorem zMt {n:Nw} {a b:Int}:zDP n a b=zDP n b a:=by
 unfold zDP
 have:pr2 (a,b)=pr2 (b,a):=by
  simp only [pr2,Prod.mk.injEq]
  constructor
  ·repeat' split
   all_goals omega
  ·repeat' split
   all_goals omega
 rw [this]
structure BkOk (n:Nw) (cs:List (Int×Int)) (c:Nat) (x:Int) (m:Nat) (out:List Int):Prop where
 pos:0<out.length
 rng:∀ i,i<out.length→0≤out.getD i 0∧out.getD i 0<n.h
 at_:∀ i,i<out.length→(zBe n cs (m+i)).getD ((out.getD i 0).toNat*8+c) 0=x
 nb:∀ i,i+1<out.length→zDP n (out.getD i 0) (out.getD (i+1) 0)=true
 no:∀ m',m=m'+1→(zBe n cs m').getD ((out.getD 0 0).toNat*8+c) 0≠x
end Go.Eng
