/- For all numbers, cries, which and when the law NewsSpared ends in true: without a cry that is told all yn hold the same, without another one some hold something else; without conditions. -/
import Derived.Test.YtppbomajegnkeaaGreatPi
import Derived.Test.YtppbomajegnkeaaGreatPd
import Derived.Test.YtppbomajegnkeaaGreatPe
set_option linter.unusedVariables false
set_option linter.unusedSimpArgs false
set_option linter.unusedSectionVars false
set_option maxRecDepth 10000
set_option maxHeartbeats 4000000
namespace Go.Eng
open Go Go.Proofs
theorem f9 (nums crs:List Int) (whi whe:Int) (vo:nums.length<9223372036854775808) (qM:crs.length<9223372036854775808) (hw1:0≤whi∧whi≤255) (hw3:0≤whe∧whe≤255):FG 9 [.sl (nums.map u8),.sl (crs.map u8),.int .u8 whi,.int .u8 whe] (.bool true):=by
 obtain ⟨v1,h1,kE,n,a1,t1,rfl,rfl,LG,hH,hN,hS,y7⟩:=f48_ex nums 0 0 6 4 4 ⟨Nat.zero_le _,vo⟩ (by omega) (by omega) (by omega)
 have ho:=zU8 LG
 have vD:=ho.nl
 have hs6:=ho.sl
 have hHH:=ho.h
 obtain ⟨v2,h2,wV,cs,a2,t2,rfl,rfl,yO,gB,j1⟩:=f50_ex n crs 0 0 6 ho ⟨Nat.zero_le _,qM⟩ (by omega)
 have m5:=Int.tmod_nonneg (5:Int) hw3.1
 have m6:=Int.tmod_lt_of_pos whe (show (0:Int)<5 by omega)
 have kg:=f17
 have vX:=zWU LG (by omega) gB
 have uj:=vX.w
 by_cases h0:cs.length>0
 ·have m1:=Int.tmod_nonneg (cs.length:Int) hw1.1
  have m2:=Int.tmod_lt_of_pos whi (show (0:Int)<cs.length by omega)
  have hxm:cs.getD (whi.tmod cs.length).toNat default∈cs:=by rw [zAB (by omega)];exact List.getElem_mem _
  have hdo:=zWU (cs:=cs++[cs.getD (whi.tmod cs.length).toNat default]) LG (by simp;omega) fun c hc=>by
   rcases List.mem_append.1 hc with hc | hc
   ·exact gB c hc
   ·rw [List.mem_singleton.1 hc];exact gB _ hxm
  have vT:=hdo.w
  have c1:=f46_1 n _ (whe.tmod 5) (zXx hdo ⟨m5,by omega⟩)
  have c2:=f59 n _ (whe.tmod 5) vT (by simp;omega) ⟨m5,by omega⟩
  have hdl:(cs++[cs.getD (whi.tmod cs.length).toNat default]).length=cs.length+1:=by simp
  have q0:zPB n (cs++[cs.getD (whi.tmod cs.length).toNat default]) (whe.tmod 5).toNat cs.length=true:=by
   have e1:(cs++[cs.getD (whi.tmod cs.length).toNat default]).eraseIdx cs.length=cs:=by
    rw [List.eraseIdx_append_of_length_le (Nat.le_refl _),Nat.sub_self];simp
   unfold zPB
   rw [e1,zRO uj vT hxm,decide_eq_true rfl]
  have q1:∀ i:Nat,i<cs.length+1→has (zCZ (zPB n (cs++[cs.getD (whi.tmod cs.length).toNat default]) (whe.tmod 5).toNat) (cs.length+1)) (i:Int)=zPB n (cs++[cs.getD (whi.tmod cs.length).toNat default]) (whe.tmod 5).toNat i:=fun i hi=>zIZ hi
  have q2:has (zCZ (zPB n (cs++[cs.getD (whi.tmod cs.length).toNat default]) (whe.tmod 5).toNat) (cs.length+1)) (((cs++[cs.getD (whi.tmod cs.length).toNat default]).length-1:Nat):Int)=true:=by
   rw [show (cs++[cs.getD (whi.tmod cs.length).toNat default]).length-1=cs.length by simp,q1 _ (by omega),q0]
  rw [hdl] at c1
  have q3:=zGS (p:=zPB n (cs++[cs.getD (whi.tmod cs.length).toNat default]) (whe.tmod 5).toNat) (k:=cs.length+1)
  have r1:=zJd (n:=n) (cs:=cs++[cs.getD (whi.tmod cs.length).toNat default]) (e:=(whe.tmod 5).toNat)
  have r2:=zOj (n:=n) (cs:=cs++[cs.getD (whi.tmod cs.length).toNat default]) (e:=(whe.tmod 5).toNat)
  have q4:∀ i:Nat,i<cs.length+1→FG 59 [nwV n,prs (((cs++[cs.getD (whi.tmod cs.length).toNat default]).eraseIdx i++[(0,0)]).take ((cs++[cs.getD (whi.tmod cs.length).toNat default]).length-1)),I (whe.tmod 5)] (.own 1 ((zEk n ((cs++[cs.getD (whi.tmod cs.length).toNat default]).eraseIdx i) (whe.tmod 5).toNat).map zBl)) ∧
    decide (zEk n ((cs++[cs.getD (whi.tmod cs.length).toNat default]).eraseIdx i) (whe.tmod 5).toNat=zEk n (cs++[cs.getD (whi.tmod cs.length).toNat default]) (whe.tmod 5).toNat)=has (zCZ (zPB n (cs++[cs.getD (whi.tmod cs.length).toNat default]) (whe.tmod 5).toNat) (cs.length+1)) (i:Int):=fun i hi=>by
   have y5:((cs++[cs.getD (whi.tmod cs.length).toNat default]).eraseIdx i).length=(cs++[cs.getD (whi.tmod cs.length).toNat default]).length-1:=List.length_eraseIdx_of_lt (by omega)
   rw [q1 i hi,zV6 (zSu vT i) vT]
   refine ⟨?_,rfl⟩
   rw [← y5,List.take_left]
   exact f59 n _ (whe.tmod 5) (zSu vT i) (by omega) ⟨m5,by omega⟩
  clear gB vX hdo vT uj q0 q1 hxm
  have r4:∀ i:Nat,∀ r∈zEk n ((cs++[cs.getD (whi.tmod cs.length).toNat default]).eraseIdx i) (whe.tmod 5).toNat,r.length≤n.n.length:=fun i=>zJd
  have r5:∀ i:Nat,(zEk n ((cs++[cs.getD (whi.tmod cs.length).toNat default]).eraseIdx i) (whe.tmod 5).toNat).length=n.h.toNat:=fun i=>zOj
  generalize zCZ (zPB n (cs++[cs.getD (whi.tmod cs.length).toNat default]) (whe.tmod 5).toNat) (cs.length+1)=S at *
  generalize zEk n (cs++[cs.getD (whi.tmod cs.length).toNat default]) (whe.tmod 5).toNat=TD at *
  have ct:=f58 S (((cs++[cs.getD (whi.tmod cs.length).toNat default]).length-1:Nat):Int) (by omega)
  rw [q2] at ct
  refine zAe Tryz.f9 ?_
  refine zAd 1<|zAa<|zAd 1<|S_a [(6,.ret (zBV nums 0 0) [])] (ap (f49 nums) an)<|S_a [(10,.ret (nwO n) ([zBV nums a1 t1]))] (ap kE an)<|zAc 1<|S_a [(3,.v (PV.agg [I n.h,prs n.l,PV.sl (List.map ntV n.n),PV.sl (List.map zA5 n.s)]))] (ap ((by simp only [show zAv (List.map prV n.l)=List.map prV n.l from (by first | exact zAG _ | exact zA1 _ | exact zAW _ | exact zA7 (zA1 _) | exact zA7 (zAW _) | exact zB4 (by simp [zBE]) (zAG _)),show zAv (List.map ntV n.n)=List.map ntV n.n from (by first | exact zAG _ | exact zA1 _ | exact zAW _ | exact zA7 (zA1 _) | exact zA7 (zAW _) | exact zB4 (by simp [zBE]) (zAG _)),show zAv (List.map zBl n.s)=List.map zA5 n.s from (by first | exact zAG _ | exact zA1 _ | exact zAW _ | exact zA7 (zA1 _) | exact zA7 (zAW _) | exact zB4 (by simp [zBE]) (zAG _))]):PV.agg [I n.h,PV.sl (zAv (List.map prV n.l)),PV.sl (zAv (List.map ntV n.n)),PV.sl (zAv (List.map zBl n.s))]=PV.agg [I n.h,prs n.l,PV.sl (List.map ntV n.n),PV.sl (List.map zA5 n.s)]) an)<|zAa<|zAd 1<|S_a [(6,.ret (zBV crs 0 0) [])] (ap (f49 crs) an)<|zAc 1<|S_a [(8,.ret (PV.own 2 (List.map prV cs)) ([zBV crs a2 t2]))] (ap wV an)<|zAc 1<|zAa<|zAd 1<|S_a [(0,.v (I whe))] (ap ((zCr rfl (by omega)):I (IntKind.i64.wrap whe)=I whe) an)<|zAc 2<|zAa<|zAh<|zAd 1<|S_a [(0,.n cs.length)] (ap (lnS prV cs) an)<|zAc 1<|zAa<|zA3 ((↑cs.length:Int)>0) (by omega)<|zAg<|zAc 3<|S_a [(0,.v (I whi))] (ap ((zCr rfl (by omega)):I (IntKind.i64.wrap whi)=I whi) an)<|zAc 1<|S_a [(0,.n cs.length)] (ap (lnS prV cs) an)<|S_a [(0,.v (I (whi.tmod (↑cs.length:Int))))] (ap (zUJ (by omega) rfl:zHt Tryz.prog BinOp.rem 3 (I whi) (I (↑cs.length:Int))=some (I (whi.tmod (↑cs.length:Int)))) an)<|S_a [(0,.ob),(1,.ob),(1,.n ((whi.tmod (↑cs.length:Int)).toNat))] (ap ((by exact zAq (by omega)):decide (0≤whi.tmod (↑cs.length:Int))=true)<|ap ((by exact zAq (by simp only [List.length_map,zzLn]<;>omega)):decide ((whi.tmod (↑cs.length:Int)).toNat<(List.map prV cs).length)=true)<|ap ((by simp):some (0+(whi.tmod (↑cs.length:Int)).toNat)=some (whi.tmod (↑cs.length:Int)).toNat) an)<|S_a [(0,.cs true ([I (cs.getD (whi.tmod (↑cs.length:Int)).toNat default).fst,I (cs.getD (whi.tmod (↑cs.length:Int)).toNat default).snd]))] (ap (zCu (q:=PV.own 2 (List.map prV cs)) (xs:=List.map prV cs) (x:=PV.agg [I (cs.getD (whi.tmod (↑cs.length:Int)).toNat default).fst,I (cs.getD (whi.tmod (↑cs.length:Int)).toNat default).snd]) rfl (zCh default (by omega)):zAr 10 (PV.own 2 (List.map prV cs)) [] (whi.tmod (↑cs.length:Int)).toNat 0 Tryz.prog.types[37].size=some (true,[I (cs.getD (whi.tmod (↑cs.length:Int)).toNat default).fst,I (cs.getD (whi.tmod (↑cs.length:Int)).toNat default).snd])) an)<|zAc 1<|S_a [(4,.ob),(0,.ob),(0,.yes),(2,.v (PV.own 2 (List.map prV (cs++[cs.getD (whi.tmod (↑cs.length:Int)).toNat default]))))] (ap (blz (List.map prV cs))<|ap ((by exact zA4 (by simp only [List.length_map,zzLn,zAS]<;>omega)):((List.map prV cs).length + [PV.agg [I (cs.getD (whi.tmod (↑cs.length:Int)).toNat default).fst,I (cs.getD (whi.tmod (↑cs.length:Int)).toNat default).snd]].length).ble zAS=true)<|ap ((by exact zBB (by simp<;>omega)):(0+(List.map prV cs).length).beq (List.map prV cs).length=true)<|ap ((zAZ (zBI (by kernel_rfl))):PV.own 2 (List.map prV cs++[PV.agg [I (cs.getD (whi.tmod (↑cs.length:Int)).toNat default).fst,I (cs.getD (whi.tmod (↑cs.length:Int)).toNat default).snd]])=PV.own 2 (List.map prV (cs++[cs.getD (whi.tmod (↑cs.length:Int)).toNat default]))) an)<|zAc 1<|zAa<|zAd 3<|S_a [(5,.ob),(0,.v (prs (cs++[cs.getD (whi.tmod (↑cs.length:Int)).toNat default]))),(4,.ret (PV.tup [PV.own 1 (List.map I S),I 0]) []),(1,.yes)] (ap (blz (List.map prV (cs++[cs.getD (whi.tmod (↑cs.length:Int)).toNat default])))<|ap (frT prV (cs++[cs.getD (whi.tmod (↑cs.length:Int)).toNat default]))<|ap c1<|ap ((by exact zWv (zDO _) rfl):(PV.tup [PV.own 1 (List.map I S),I 0]).free=true) an)<|zAc 5<|zAa<|zAh<|zAd 4<|S_a [(0,.n ((cs++[cs.getD (whi.tmod (↑cs.length:Int)).toNat default]).length))] (ap (lnS prV (cs++[cs.getD (whi.tmod (↑cs.length:Int)).toNat default])) an)<|zAc 2<|zUK 54 ((↑(cs++[cs.getD (whi.tmod (↑cs.length:Int)).toNat default]).length:Int)>0) (by omega) (zAc 2<|S_a [(0,.n ((cs++[cs.getD (whi.tmod (↑cs.length:Int)).toNat default]).length))] (ap (lnS prV (cs++[cs.getD (whi.tmod (↑cs.length:Int)).toNat default])) an)<|S_a [(1,.v (I (↑((cs++[cs.getD (whi.tmod (↑cs.length:Int)).toNat default]).length-1):Int)))] (ap ((zCr (by omega) (by omega)):I (IntKind.i64.wrap ((↑(cs++[cs.getD (whi.tmod (↑cs.length:Int)).toNat default]).length:Int)-1))=I (↑((cs++[cs.getD (whi.tmod (↑cs.length:Int)).toNat default]).length-1):Int)) an)<|S_a [(3,.ob),(0,.v (zA5 S)),(4,.ret (PV.bool true) [])] (ap (blz (List.map I S))<|ap (frT I S)<|ap ct an)<|zAc 3<|zAa<|zAH<|zAm<|zAd 3<|S_a [(5,.ob),(0,.v (prs (cs++[cs.getD (whi.tmod (↑cs.length:Int)).toNat default]))),(4,.ret (PV.own 1 (List.map zBl TD)) []),(1,.yes)] (ap (blz (List.map prV (cs++[cs.getD (whi.tmod (↑cs.length:Int)).toNat default])))<|ap (frT prV (cs++[cs.getD (whi.tmod (↑cs.length:Int)).toNat default]))<|ap c2<|ap (?_:(PV.own 1 (List.map zBl TD)).free=true) an)<|zAc 1<|zAa<|zAh<|zAd 1<|S_a [(0,.n ((cs++[cs.getD (whi.tmod (↑cs.length:Int)).toNat default]).length))] (ap (lnS prV (cs++[cs.getD (whi.tmod (↑cs.length:Int)).toNat default])) an)<|zAc 1<|zAa<|zAk 0 ?_)
  ·exact zFr TD
  clear ct q2 c1 c2
  refine zAy (fun i=>i≤cs.length+1) (fun (i:Nat)=>[(69,I (i:Nat))]) (fun i=>cs.length+1-i) (0:Nat) (Nat.zero_le _) fun i hi=>?_
  by_cases yP:i<cs.length+1
  ·obtain ⟨d1,d2⟩:=q4 i yP
   have y5:((cs++[cs.getD (whi.tmod cs.length).toNat default]).eraseIdx i).length=(cs++[cs.getD (whi.tmod cs.length).toNat default]).length-1:=List.length_eraseIdx_of_lt (by omega)
   have r6:=r4 i
   have r7:=r5 i
   clear q4 r4 r5
   generalize zEk n ((cs++[cs.getD (whi.tmod cs.length).toNat default]).eraseIdx i) (whe.tmod 5).toNat=TL at *
   have lk:=f62 TL TD (by omega) (fun r hr=>by have:=r6 r hr;omega)
   have ct:=f58 S (i:Int) (by omega)
   rw [d2] at lk
   cases hb:has S (i:Int)
   ·rw [hb] at lk ct
    clear d2 hb
    refine zAd 1<|zAa<|zAh<|zA3 ((↑i:Int)<(↑(cs++[cs.getD (whi.tmod (↑cs.length:Int)).toNat default]).length:Int)) (by omega)<|zAm<|zAh<|zAk 1<|zAd 2<|zAa<|zAd 1<|S_a [(3,.ob),(0,.v (prs (cs++[cs.getD (whi.tmod (↑cs.length:Int)).toNat default]))),(2,.ret (PV.own 2 (List.map prV (cs++[cs.getD (whi.tmod (↑cs.length:Int)).toNat default]))) []),(1,.yes)] (ap (blz (List.map prV (cs++[cs.getD (whi.tmod (↑cs.length:Int)).toNat default])))<|ap (frT prV (cs++[cs.getD (whi.tmod (↑cs.length:Int)).toNat default]))<|ap (f61 (cs++[cs.getD (whi.tmod (↑cs.length:Int)).toNat default]) (by omega))<|ap ((by exact zDO _):(PV.own 2 (List.map prV (cs++[cs.getD (whi.tmod (↑cs.length:Int)).toNat default]))).free=true) an)<|zAc 2<|S_a [(1,.v (I (↑(i+1):Int)))] (ap (wrN i) an)<|S_a [(7,.vs ([PV.bor 50000000 [] 2 0 (cs++[cs.getD (whi.tmod (↑cs.length:Int)).toNat default]).length,I (↑i:Int),I (↑(i+1):Int)])),(0,.ret (PV.bor 50000000 [] 2 0 ((cs++[cs.getD (whi.tmod (↑cs.length:Int)).toNat default]).length-1)) ([PV.own 2 (List.map prV ((cs++[cs.getD (whi.tmod (↑cs.length:Int)).toNat default]).eraseIdx i++[(0,0)]))]))] (ap ((by simp) : [PV.bor 50000000 [] 2 0 (List.map prV (cs++[cs.getD (whi.tmod (↑cs.length:Int)).toNat default])).length,I (↑i:Int),I (↑(i+1):Int)]=[PV.bor 50000000 [] 2 0 (cs++[cs.getD (whi.tmod (↑cs.length:Int)).toNat default]).length,I (↑i:Int),I (↑(i+1):Int)])<|ap (f60 (cs++[cs.getD (whi.tmod (↑cs.length:Int)).toNat default]) i (by omega) (by omega)) an)<|zAc 1<|zAa<|zAd 3<|S_a [(5,.ob),(0,.v (prs (List.take ((cs++[cs.getD (whi.tmod (↑cs.length:Int)).toNat default]).length-1) ((cs++[cs.getD (whi.tmod (↑cs.length:Int)).toNat default]).eraseIdx i++[(0,0)])))),(4,.ret (PV.own 1 (List.map zBl TL)) []),(1,.yes)] (ap ((by exact zA4 (by simp only [List.length_map,zzLn,zAS]<;>omega)):(0+((cs++[cs.getD (whi.tmod (↑cs.length:Int)).toNat default]).length-1)).ble (List.map prV ((cs++[cs.getD (whi.tmod (↑cs.length:Int)).toNat default]).eraseIdx i++[(0,0)])).length=true)<|ap ((zKo (zB4 (by simp [zBE]) (zAG _))):PV.sl (zAv (List.take ((cs++[cs.getD (whi.tmod (↑cs.length:Int)).toNat default]).length-1) (List.drop 0 (List.map prV ((cs++[cs.getD (whi.tmod (↑cs.length:Int)).toNat default]).eraseIdx i++[(0,0)])))))=prs (List.take ((cs++[cs.getD (whi.tmod (↑cs.length:Int)).toNat default]).length-1) ((cs++[cs.getD (whi.tmod (↑cs.length:Int)).toNat default]).eraseIdx i++[(0,0)])))<|ap d1<|ap (?_:(PV.own 1 (List.map zBl TL)).free=true) an)<|zAc 1<|S_a [(3,.ob),(0,.v (PV.sl (List.map zA5 TL))),(1,.ob),(0,.v (PV.sl (List.map zA5 TD))),(2,.ret (PV.bool false) [])] (ap (blz (List.map zBl TL))<|ap (frC zBl zA5 TL)<|ap (blz (List.map zBl TD))<|ap (frC zBl zA5 TD)<|ap lk an)<|zAc 2<|S_a [(3,.ob),(0,.v (zA5 S)),(4,.ret (PV.bool false) [])] (ap (blz (List.map I S))<|ap (frT I S)<|ap ct an)<|zAc 1<|zAa<|zAH<|zAm<|zAg<|S_a [(1,.v (I (↑(i+1):Int)))] (ap (wrN i) an)<|zAc 1<|zAa ?_
    ·exact zFr TL
    exact ⟨i+1,by omega,by omega,by kernel_rfl,by kernel_rfl⟩
   ·rw [hb] at lk ct
    clear d2 hb
    refine zAd 1<|zAa<|zAh<|zA3 ((↑i:Int)<(↑(cs++[cs.getD (whi.tmod (↑cs.length:Int)).toNat default]).length:Int)) (by omega)<|zAm<|zAh<|zAk 1<|zAd 2<|zAa<|zAd 1<|S_a [(3,.ob),(0,.v (prs (cs++[cs.getD (whi.tmod (↑cs.length:Int)).toNat default]))),(2,.ret (PV.own 2 (List.map prV (cs++[cs.getD (whi.tmod (↑cs.length:Int)).toNat default]))) []),(1,.yes)] (ap (blz (List.map prV (cs++[cs.getD (whi.tmod (↑cs.length:Int)).toNat default])))<|ap (frT prV (cs++[cs.getD (whi.tmod (↑cs.length:Int)).toNat default]))<|ap (f61 (cs++[cs.getD (whi.tmod (↑cs.length:Int)).toNat default]) (by omega))<|ap ((by exact zDO _):(PV.own 2 (List.map prV (cs++[cs.getD (whi.tmod (↑cs.length:Int)).toNat default]))).free=true) an)<|zAc 2<|S_a [(1,.v (I (↑(i+1):Int)))] (ap (wrN i) an)<|S_a [(7,.vs ([PV.bor 50000000 [] 2 0 (cs++[cs.getD (whi.tmod (↑cs.length:Int)).toNat default]).length,I (↑i:Int),I (↑(i+1):Int)])),(0,.ret (PV.bor 50000000 [] 2 0 ((cs++[cs.getD (whi.tmod (↑cs.length:Int)).toNat default]).length-1)) ([PV.own 2 (List.map prV ((cs++[cs.getD (whi.tmod (↑cs.length:Int)).toNat default]).eraseIdx i++[(0,0)]))]))] (ap ((by simp) : [PV.bor 50000000 [] 2 0 (List.map prV (cs++[cs.getD (whi.tmod (↑cs.length:Int)).toNat default])).length,I (↑i:Int),I (↑(i+1):Int)]=[PV.bor 50000000 [] 2 0 (cs++[cs.getD (whi.tmod (↑cs.length:Int)).toNat default]).length,I (↑i:Int),I (↑(i+1):Int)])<|ap (f60 (cs++[cs.getD (whi.tmod (↑cs.length:Int)).toNat default]) i (by omega) (by omega)) an)<|zAc 1<|zAa<|zAd 3<|S_a [(5,.ob),(0,.v (prs (List.take ((cs++[cs.getD (whi.tmod (↑cs.length:Int)).toNat default]).length-1) ((cs++[cs.getD (whi.tmod (↑cs.length:Int)).toNat default]).eraseIdx i++[(0,0)])))),(4,.ret (PV.own 1 (List.map zBl TL)) []),(1,.yes)] (ap ((by exact zA4 (by simp only [List.length_map,zzLn,zAS]<;>omega)):(0+((cs++[cs.getD (whi.tmod (↑cs.length:Int)).toNat default]).length-1)).ble (List.map prV ((cs++[cs.getD (whi.tmod (↑cs.length:Int)).toNat default]).eraseIdx i++[(0,0)])).length=true)<|ap ((zKo (zB4 (by simp [zBE]) (zAG _))):PV.sl (zAv (List.take ((cs++[cs.getD (whi.tmod (↑cs.length:Int)).toNat default]).length-1) (List.drop 0 (List.map prV ((cs++[cs.getD (whi.tmod (↑cs.length:Int)).toNat default]).eraseIdx i++[(0,0)])))))=prs (List.take ((cs++[cs.getD (whi.tmod (↑cs.length:Int)).toNat default]).length-1) ((cs++[cs.getD (whi.tmod (↑cs.length:Int)).toNat default]).eraseIdx i++[(0,0)])))<|ap d1<|ap (?_:(PV.own 1 (List.map zBl TL)).free=true) an)<|zAc 1<|S_a [(3,.ob),(0,.v (PV.sl (List.map zA5 TL))),(1,.ob),(0,.v (PV.sl (List.map zA5 TD))),(2,.ret (PV.bool true) [])] (ap (blz (List.map zBl TL))<|ap (frC zBl zA5 TL)<|ap (blz (List.map zBl TD))<|ap (frC zBl zA5 TD)<|ap lk an)<|zAc 2<|S_a [(3,.ob),(0,.v (zA5 S)),(4,.ret (PV.bool true) [])] (ap (blz (List.map I S))<|ap (frT I S)<|ap ct an)<|zAc 1<|zAa<|zAH<|zAm<|zAg<|S_a [(1,.v (I (↑(i+1):Int)))] (ap (wrN i) an)<|zAc 1<|zAa ?_
    ·exact zFr TL
    exact ⟨i+1,by omega,by omega,by kernel_rfl,by kernel_rfl⟩
  ·clear q4 r4 r5
   refine zAd 1<|zAa<|zAh<|zBd ((↑i:Int)<(↑(cs++[cs.getD (whi.tmod (↑cs.length:Int)).toNat default]).length:Int)) (by omega)<|zAM 0<|zAh<|zAg<|S_a [(4,.ret (PV.bool true) [])] (ap kg an)<|zAc 1<|zAa<|zAn<|E_a [] an (PV.bool true) [] rfl rfl
 ·have e0:cs=[]:=List.eq_nil_of_length_eq_zero (by omega)
  subst e0
  have c1:=f46_1 n [] (whe.tmod 5) (zXx vX ⟨m5,by omega⟩)
  have c2:=f59 n [] (whe.tmod 5) uj (by simp) ⟨m5,by omega⟩
  clear gB vX uj
  generalize zEk n [] (whe.tmod 5).toNat=TD at *
  refine zAe Tryz.f9 ?_
  refine zAd 1<|zAa<|zAd 1<|S_a [(6,.ret (zBV nums 0 0) [])] (ap (f49 nums) an)<|S_a [(10,.ret (nwO n) ([zBV nums a1 t1]))] (ap kE an)<|zAc 1<|S_a [(3,.v (PV.agg [I n.h,prs n.l,PV.sl (List.map ntV n.n),PV.sl (List.map zA5 n.s)]))] (ap ((by simp only [show zAv (List.map prV n.l)=List.map prV n.l from (by first | exact zAG _ | exact zA1 _ | exact zAW _ | exact zA7 (zA1 _) | exact zA7 (zAW _) | exact zB4 (by simp [zBE]) (zAG _)),show zAv (List.map ntV n.n)=List.map ntV n.n from (by first | exact zAG _ | exact zA1 _ | exact zAW _ | exact zA7 (zA1 _) | exact zA7 (zAW _) | exact zB4 (by simp [zBE]) (zAG _)),show zAv (List.map zBl n.s)=List.map zA5 n.s from (by first | exact zAG _ | exact zA1 _ | exact zAW _ | exact zA7 (zA1 _) | exact zA7 (zAW _) | exact zB4 (by simp [zBE]) (zAG _))]):PV.agg [I n.h,PV.sl (zAv (List.map prV n.l)),PV.sl (zAv (List.map ntV n.n)),PV.sl (zAv (List.map zBl n.s))]=PV.agg [I n.h,prs n.l,PV.sl (List.map ntV n.n),PV.sl (List.map zA5 n.s)]) an)<|zAa<|zAd 1<|S_a [(6,.ret (zBV crs 0 0) [])] (ap (f49 crs) an)<|zAc 1<|S_a [(8,.ret (PV.own 2 (List.map prV [])) ([zBV crs a2 t2]))] (ap wV an)<|zAc 1<|zAa<|zAd 1<|S_a [(0,.v (I whe))] (ap ((zCr rfl (by omega)):I (IntKind.i64.wrap whe)=I whe) an)<|zAc 2<|zAa<|zAh<|zAd 1<|zAc 2<|zAa<|zAH<|zAm<|zAd 3<|S_a [(11,.ret (PV.tup [PV.own 1 (List.map I (zCZ (zPB n [] (whe.tmod 5).toNat) 0)),I 0]) [])] (ap c1 an)<|zAc 5<|zAa<|zAh<|zAd 4<|zAc 11<|zAa<|zAH<|zAm<|zAd 3<|S_a [(11,.ret (PV.own 1 (List.map zBl TD)) []),(1,.yes)] (ap c2<|ap (?_:(PV.own 1 (List.map zBl TD)).free=true) an)<|zAc 1<|zAa<|zAh<|zAd 1<|zAc 2<|zAa<|zAk 0 ?_
  ·exact zFr TD
  refine zAy (fun i=>i≤0) (fun (i:Nat)=>[(69,I (i:Nat))]) (fun i=>0-i) (0:Nat) (Nat.zero_le _) fun i hi=>?_
  have e1:i=0:=by omega
  subst e1
  refine zAd 1<|zAa<|zAh<|zAH<|zAM 0<|zAh<|zAg<|S_a [(4,.ret (PV.bool true) [])] (ap kg an)<|zAc 1<|zAa<|zAn<|E_a [] an (PV.bool true) [] rfl rfl
end Go.Eng
set_option maxRecDepth 100000
namespace Go.Proofs.YtppbomajegnkeaaGreat
open Go.ChangeShapes Go.WideShapes Go.ChangeAt Go.RowKit Go.Eng
theorem newsSpared_gives (ss:List (Bool×List Sh)) (w9:zE4 Tryz.prog Tryz.f9.params.toList=some ss) (qs:List PV) (hq:zK0 ss qs):@zAo (yo1 Tryz.prog zCD) Tryz.prog zCD 9 qs [] (.bool true) []:=by
 have he:zE4 Tryz.prog Tryz.f9.params.toList=some [(false,[.list false [.num .u8]]),(false,[.list false [.num .u8]]),(false,[.num .u8]),(false,[.num .u8])]:=by kernel_rfl
 rw [he] at w9
 cases w9
 obtain ⟨p0,qs0,rfl,h0,hq0⟩:=hq
 obtain ⟨p1,qs1,rfl,h1,ka⟩:=hq0
 obtain ⟨p2,qs2,rfl,h2,kY⟩:=ka
 obtain ⟨p3,qs3,rfl,h3,hq3⟩:=kY
 simp only [zK0] at hq3
 subst hq3
 obtain ⟨x0,rfl,l0,b0⟩:=zRD h0
 unfold maxLen at l0
 simp only [IntKind.min,IntKind.max,IntKind.signed,IntKind.bits] at b0
 simp at b0
 obtain ⟨x1,rfl,l1,b1⟩:=zRD h1
 unfold maxLen at l1
 simp only [IntKind.min,IntKind.max,IntKind.signed,IntKind.bits] at b1
 simp at b1
 obtain ⟨x2,rfl,b2⟩:=zUF h2
 simp only [IntKind.min,IntKind.max,IntKind.signed,IntKind.bits] at b2
 simp at b2
 obtain ⟨x3,rfl,b3⟩:=zUF h3
 simp only [IntKind.min,IntKind.max,IntKind.signed,IntKind.bits] at b3
 simp at b3
 exact f9 x0 x1 x2 x3 (by omega) (by omega) (by omega) (by omega)
theorem newsSpared_lifted (os:Os) (started:os.Started) (H:Type) (enc:TypeId×Value→H) :
  ReturnsInHanded {} Tryz.checked os 9 .any (Rows.newsSparedSpec.pre6 enc Tryz.prog Tryz.f9 Rows.newsSparedRow.domain false) (Rows.newsSparedSpec.post enc Tryz.prog Tryz.f9 false true false false):=by
 refine returnsInHanded_of_change (C:=Tryz.checked) Tryz.own started (by kernel_rfl) Tryz.func9
  (ChangeSpec.witness6 (enc:=enc) (C:=Tryz.checked) false ⟨#[],#[.slice none 0 0,.slice none 0 0,.int .u8 0,.int .u8 0],[]⟩ 8 (by kernel_rfl) (by kernel_rfl) (by kernel_rfl) (by kernel_rfl)) ?_
 intro W base args ds gs before hval0 hW hcnd _
 obtain ⟨p,q,hA0,hV,_,_,_⟩:=id hW
 obtain ⟨rfl,rfl⟩:=trodVars_none hV
 obtain ⟨ss,w9⟩:∃ ss,zE4 Tryz.prog Tryz.f9.params.toList=some ss:=Option.isSome_iff_exists.1 (by kernel_rfl)
 have hZ:ss.length≤1000:=by
  have h:((zE4 Tryz.prog Tryz.f9.params.toList).map fun s=>Nat.ble s.length 1000)=some true:=by kernel_rfl
  rw [w9] at h
  simpa using h
 exact zVw zE3 hnm zMB hin Tryz.laidOut rfl Tryz.underlying4 (by kernel_rfl) (by kernel_rfl) (fun ds hd=>by match ds,hd with | [d0,d1,d2,d3],_=>rfl) w9 hZ (newsSpared_gives ss w9) hval0 hW
theorem newsSpared_holds:Rows.NewsSparedSaid :=
 OpenClaim.holds_of_wide 9 Tryz.f9 rfl rfl rfl rfl rfl rfl rfl ⟨rfl,rfl,rfl,rfl,rfl⟩ rfl rfl rfl rfl rfl (by kernel_rfl) Tryz.func9 (by kernel_rfl)
  (of_decide_eq_true (by kernel_rfl)) (by unfold Func.isWrapper;first | (rw [if_pos (by decide +kernel)];kernel_rfl) | (rw [if_neg (by decide +kernel)];exact ⟨rfl,rfl⟩))
  (fun os started H enc _=>newsSpared_lifted os started H enc)
end Go.Proofs.YtppbomajegnkeaaGreat
