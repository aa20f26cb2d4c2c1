/- For whatever news, cries, evenings, cry and stands, the law NewsMends returns true and changes no argument: the gaps that a further cry mends, and those that none does, are as the reference tells them. -/
import Derived.Test.YtppbomajegnkeaaGreatPh
import Derived.Test.YtppbomajegnkeaaGreatPd
set_option linter.unusedVariables false
set_option linter.unusedSimpArgs false
set_option linter.unusedSectionVars false
set_option maxRecDepth 10000
set_option maxHeartbeats 4000000
namespace Go.Eng
open Go Go.Proofs
theorem f121_4 (n:Nw) (cs:List (Int×Int)) (e:Int) (st:List Int) (yi:EvOk n cs e) (yC:st.length<1000000) (hin:(!st.all fun x=>inB x 0 (n.s.length-1))=false) (yS:¬ st.Nodup):FG 121 [nwV n,prs cs,I e,zAw st] (.tup [.nilp,.sl [],.agg [.nilf],I 5]):=by
 have jf:=yi.cr
 have kg:=jf.w
 have hn:=jf.nw
 have he:=yi.ev
 have hs6:=hn.sl.2
 refine zAf Tryz.f121 ?_
 refine zAd 6<|zAa<|zAd 3<|S_a [(10,.ret (PV.tup [zDv n cs,I 0]) [])] (ap (f90_1 n cs e (by omega)) an)<|zAc 6<|zAa<|zAg<|zAh 0<|zAd 3<|zAa<|zAW<|zAd 3<|S_a [(7,.ret (PV.bool (st.all fun x=>inB x 0 ((↑n.s.length:Int)-1))) [])] (ap (f108_2 n (by omega) st (by omega)) an)<|zAc 2<|zAa<|zDf (!st.all fun x=>inB x 0 ((↑n.s.length:Int)-1)) (fun k0=>(zAd 5<|zAa<|zAm<|E_a [] an (PV.tup [PV.nilp,PV.sl [],PV.agg [PV.nilf],I 1]) [] ?_ rfl)) (fun k0=>(zAj<|zAg<|zAd 1<|S_a [(0,.n st.length)] (ap (lnS I st) an)<|zAc 1<|zAa<|zAh 1 ?_))
 ·rw [hin] at k0;cases k0
 ·refine zAo (fun i=>i≤st.length∧∀ j,j<i→∀ k,k<j→st.getD j 0≠st.getD k 0) (fun (i:Nat)=>[(38,I (i:Nat))]) (fun i=>st.length-i) (0:Nat) ⟨Nat.zero_le _,fun j hj=>absurd hj (Nat.not_lt_zero j)⟩ fun i ⟨hi,ha⟩=>?_
  by_cases yB:i<st.length
  ·have jG:has (st.take i) (st.getD i 0)=false→∀ j,j<i+1→∀ k,k<j→st.getD j 0≠st.getD k 0:=fun h j hj=>by
    rcases Nat.lt_succ_iff_lt_or_eq.1 hj with h2 | rfl
    ·exact ha j h2
    ·intro k hk he
     rw [zLc,decide_eq_false_iff_not] at h
     refine h ?_
     rw [he,zAq (by omega)]
     exact List.mem_take_iff_getElem.2 ⟨k,by omega,rfl⟩
   clear ha
   refine zAd 1<|zAa<|zAg<|zAJ ((↑i:Int)<(↑st.length:Int)) (by omega)<|zAj<|zAg<|zAh 2<|zAd 1<|S_a [(2,.v (I (st.getD i 0)))] (ap (zBx (0) (by omega):(List.map I st)[i]? = some (I (st.getD i 0))) an)<|zAc 3<|zAa<|zAd 2<|S_a [(3,.ob),(0,.ob),(0,.v (zAw (List.take i st)))] (ap ((by exact zA9 (by simp only [List.length_map,zzLn,zA1]<;>omega)):i.ble (List.map I st).length=true)<|ap ((by exact all_map _):((List.map I st).all fun x=>x.cells.length.beq ((fun x=>x.size) Tryz.prog.types[3]))=true)<|ap ((by simp):PV.sl (List.take i (List.drop 0 (List.map I st)))=zAw (List.take i st)) an)<|zAc 1<|S_a [(8,.ret (PV.bool (has (List.take i st) (st.getD i 0))) [])] (ap (f58 (List.take i st) (st.getD i 0) (by first | omega | (simp<;>omega))) an)<|zAa<|zDf (has (List.take i st) (st.getD i 0)) (fun k1=>(zAd 5<|zAa<|zAm<|E_a [] an (PV.tup [PV.nilp,PV.sl [],PV.agg [PV.nilf],I 5]) [] rfl rfl)) (fun k1=>(zAj<|zAe<|S_a [(1,.v (I (↑(i+1):Int)))] (ap (wrN i) an)<|zAc 1<|zAa ?_))
   exact ⟨i+1,⟨by omega,jG k1⟩,by omega,by kernel_rfl,by kernel_rfl⟩
  ·exact absurd (zOn fun i hi=>ha i (by omega)) yS
theorem f124 (c:List (Int×Int)) (g:Int×Int) (hc:c.length≤1000):FG 124 [prV g,.ref (prs c)] (.bool (has c g)):=by
 refine zAf Tryz.f124 ?_
 refine zAd 2<|zAa<|zAd 2<|S_a [(8,.ret (PV.bool (has c g)) [])] (ap (f81 c g (by omega)) an)<|zAc 1<|zAa<|zAm<|E_a [] an (PV.bool (has c g)) [] rfl rfl
theorem f174_2 (c:List (Int×Int)) (hc:c.length≤1000) (l:List (Int×Int)) (hl:l.length<4294967296):FG 174 [.sl (l.map prV),.func 124 [] [.ref (prs c)]] (I (zEo (fun x=>has c x) l)):=by
 refine zAf Tryz.f174 ?_
 refine zAd 1<|zAa<|zAg<|zAd 1<|S_a [(0,.n l.length)] (ap (lnS prV l) an)<|zAc 1<|zAa<|zAh 0 ?_
 refine zAo (fun i=>i≤l.length∧∀ j,j<i→(fun x=>has c x) (l.getD j default)=false) (fun i=>[(8,I (i:Nat))]) (fun i=>l.length-i) (0:Nat) (by simp) fun i ⟨hi,ha⟩=>?_
 refine zAd 1<|zAa<|zAg<|zBZ ((↑i:Int)<(↑l.length:Int)) (fun k0=>(zAj<|zAg<|zAh 1<|zAd 2<|zAa<|zAd 3<|S_a [(2,.v (PV.agg [I (l.getD i default).fst,I (l.getD i default).snd]))] (ap (zBx default (by omega):(List.map prV l)[i]? = some (PV.agg [I (l.getD i default).fst,I (l.getD i default).snd])) an)<|zAc 1<|S_a [(7,.ret (PV.bool (has c (l.getD i default))) [])] (ap (f124 c (l.getD i default) (by omega)) an)<|zAa<|zDf (has c (l.getD i default)) (fun k1=>(zAd 2<|zAa<|zAm<|E_a [] an (I (↑i:Int)) [] ?_ rfl)) (fun k1=>(zAj<|zAe<|S_a [(1,.v (I (↑(i+1):Int)))] (ap (wrN i) an)<|zAc 1<|zAa ?_)))) (fun k0=>(zAs 0<|zAd 1<|zAa<|zAm<|E_a [] an (I (-1)) [] ?_ rfl))
 ·rw [zBO (i:=i) (by omega) (fun j hj=>by rw [← zAq (d:=default)];exact ha j hj) (by rw [← zAq (d:=default)];first | assumption | exact decide_eq_true ‹_› | (simp only [Bool.not_eq_true',decide_eq_false_iff_not];assumption))]
 ·refine ⟨i+1,⟨by omega,fun j hj=>?_⟩,by omega,by kernel_rfl,by kernel_rfl⟩
  rcases Nat.lt_succ_iff_lt_or_eq.1 hj with h | rfl
  ·exact ha j h
  ·first | assumption | exact decide_eq_false ‹_› | (simp only [Bool.not_eq_false',decide_eq_true_eq];first | assumption | (apply Decidable.of_not_not;assumption))
 ·rw [zB1 fun j hj=>by rw [← zAq (d:=default)];exact ha j (by omega)]
theorem f122_2 (c:List (Int×Int)) (hc:c.length≤1000) (l:List (Int×Int)) (hl:l.length<4294967296):FG 122 [.own 2 (l.map prV),.func 124 [] [.ref (prs c)]] (.own 2 ((l.filter fun x => !(has c x)).map prV)):=by
 have h1:=zPq (fun x=>has c x) l
 have jF:=f174_2 c hc l hl
 by_cases hm:zEo (fun x=>has c x) l = -1
 ·rw [hm] at jF
  rw [h1.1 hm]
  refine zAf Tryz.f122 ?_
  refine zAd 1<|zAa<|zAd 2<|S_a [(3,.ob),(0,.v (prs l)),(3,.ret (I (-1)) [])] (ap (blz (List.map prV l))<|ap (frT prV l)<|ap jF an)<|zAc 1<|zAa<|zAg<|zAd 2<|zAa<|zBM<|zAd 1<|S_a [(2,.yes)] (ap ((by exact zBj (by simp<;>omega)):(Nat.beq 0 0&&(List.map prV l).length.beq (List.map prV l).length)=true) an)<|zAa<|zAm<|E_a [(1,.yes),(1,.v (PV.own 2 (List.map prV l)))] (ap (blz (List.map prV l))<|ap ((zAE zAz):PV.own 2 (List.take (List.map prV l).length (List.drop 0 (List.map prV l)))=PV.own 2 (List.map prV l)) an) (PV.own 2 (List.map prV l)) [] rfl rfl
 ·obtain ⟨i0,j6,hil0,gN⟩:=h1.2 hm
  rw [j6] at jF
  clear h1 hm
  refine zAf Tryz.f122 ?_
  refine zAd 1<|zAa<|zAd 2<|S_a [(3,.ob),(0,.v (prs l)),(3,.ret (I (↑i0:Int)) [])] (ap (blz (List.map prV l))<|ap (frT prV l)<|ap jF an)<|zAc 1<|zAa<|zAg<|zAd 2<|zAa<|zAW<|zAj<|zAg<|zAd 1<|S_a [(1,.v (I (↑(i0+1):Int)))] (ap (wrN i0) an)<|zAc 1<|zAa<|zAh 0 ?_
  refine zAo (fun (i,j,S)=>j≤l.length∧i<j∧S.length=l.length∧S.take i=(l.take j).filter (fun x => !(has c x))∧∀ r,j≤r→S.getD r default=l.getD r default) (fun (i,j,S)=>[(0,.own 2 (S.map prV)),(5,I (i:Nat)),(6,I (j:Nat))]) (fun (_,j,_)=>l.length-j) (i0,i0+1,l) ⟨by omega,by omega,rfl,gN,fun _ _=>rfl⟩ fun (i,j,S) ⟨hj,qF,hS,ht,hd⟩=>?_
  by_cases yz:j<l.length
  ·have gY:=True.intro
   have hx:=hd j (Nat.le_refl j)
   have yC:=zFn (fun x => !(has c x)) l j default yz
   rw [← hx] at yC
   clear jF
   have wX:=hd
   clear hd hx
   refine zAg<|zAd 2<|S_a [(0,.n S.length)] (ap (lnS prV S) an)<|zAc 1<|zAa<|zAJ ((↑j:Int)<(↑S.length:Int)) (by omega)<|zAj<|zAg<|zAh 1<|zAd 2<|S_a [(2,.ob),(1,.n j)] (ap ((by exact zAr (by simp only [List.length_map,zzLn]<;>omega)):decide (j<(List.map prV S).length)=true)<|ap ((by simp):some (0+j)=some j) an)<|S_a [(0,.cs true ([I (S.getD j default).fst,I (S.getD j default).snd]))] (ap (zDb (q:=PV.own 2 (List.map prV S)) (xs:=List.map prV S) (x:=PV.agg [I (S.getD j default).fst,I (S.getD j default).snd]) rfl (zBx default (by omega)):zAv 0 (PV.own 2 (List.map prV S)) [] j 0 Tryz.prog.types[108].size=some (true,[I (S.getD j default).fst,I (S.getD j default).snd])) an)<|zAc 2<|zAa<|zAd 2<|S_a [(7,.ret (PV.bool (has c (S.getD j default))) [])] (ap (f124 c (S.getD j default) (by omega)) an)<|zAc 1<|zAa<|zDf (!has c (S.getD j default)) (fun k0=>(zAd 3<|S_a [(2,.ob),(1,.n i)] (ap ((by exact zAr (by simp only [List.length_map,zzLn]<;>omega)):decide (i<(List.map prV S).length)=true)<|ap ((by simp):some (0+i)=some i) an)<|S_a [(8,.root (PV.own 2 (List.map prV (S.set i (S.getD j default)))) true)] (ap (zN2 (zBx default (by omega)) zFg:zBC (PV.own 2 (List.map prV S)) [] i 0 (PV.agg [I (S.getD j default).fst,I (S.getD j default).snd]).cells=some (PV.own 2 (List.map prV (S.set i (S.getD j default))))∧zAM (PV.own 2 (List.map prV S)) (PV.own 2 (List.map prV (S.set i (S.getD j default)))) []=true) an)<|zAa<|zAe<|zAc 1<|S_a [(1,.v (I (↑(i+1):Int)))] (ap (wrN i) an)<|zAc 1<|zAa<|zAe<|zAc 1<|S_a [(1,.v (I (↑(j+1):Int)))] (ap (wrN j) an)<|zAc 1<|zAa ?_)) (fun k0=>(zAj<|zAe<|zAc 1<|S_a [(1,.v (I (↑(j+1):Int)))] (ap (wrN j) an)<|zAc 1<|zAa ?_))
   ·have hb:((fun x => !(has c x)) (S.getD j default))=true:=by first | assumption | (simp only [Bool.not_eq_true',decide_eq_false_iff_not];assumption)
    rw [if_pos hb] at yC
    refine ⟨(i+1,j+1,S.set i (S.getD j default)),⟨by omega,by omega,by simpa using hS,?_,fun r w6=>?_⟩,by simp only;omega,by kernel_rfl,by kernel_rfl⟩
    ·rw [yC,← ht,zHb (by omega)]
    ·rw [zJl (by omega)];exact wX r (by omega)
   ·have hb:((fun x => !(has c x)) (S.getD j default))=false:=by first | assumption | (simp only [Bool.not_eq_false',decide_eq_true_eq];assumption)
    rw [if_neg (fun h=>Bool.noConfusion (hb.symm.trans h))] at yC
    exact ⟨(i,j+1,S),⟨by omega,by omega,hS,by rw [yC,ht],fun r w6=>wX r (by omega)⟩,by simp only;omega,by kernel_rfl,by kernel_rfl⟩
  ·refine zAg<|zAd 2<|S_a [(0,.n S.length)] (ap (lnS prV S) an)<|zAc 1<|zAa<|zAK ((↑j:Int)<(↑S.length:Int)) (by omega)<|zAs 0<|zAd 2<|S_a [(3,.ob),(0,.yes),(0,.yes),(0,.v (PV.bor 0 [] 2 i (S.length-i)))] (ap ((by exact zA9 (by simp only [List.length_map,zzLn,zA1]<;>omega)):i.ble (List.map prV S).length=true)<|ap ((by exact zA9 (by simp only [List.length_map,zzLn,zA1]<;>omega)):(List.map prV S).length.ble (List.map prV S).length=true)<|ap ((by simp<;>omega):(i.beq 0||i.blt (List.map prV S).length)=true)<|ap ((by simp):PV.bor 0 [] 2 (0+i) ((List.map prV S).length-i)=PV.bor 0 [] 2 i (S.length-i)) an)<|zNO (g:=prV) (fun q=>q) 0 2 i (S.length-i) S ((0,0)) (by first | omega | (simp<;>omega)) ⟨rfl,rfl⟩ (fun _=>(by first | exact zFl | exact ⟨rfl,rfl,rfl,rfl,Nat.le_refl _,rfl⟩)) zNh.nil (zAa<|zAd 2<|S_a [(4,.yes)] (ap ((by exact zA9 (by simp<;>omega)):i.ble (List.map prV (List.take i S++List.replicate (S.length-i) (0,0)++List.drop (i+(S.length-i)) S)).length=true) an)<|zAc 1<|zAa<|zAm<|E_a [(1,.yes),(1,.v (PV.own 2 (List.map prV (List.take i (List.take i S++List.replicate (S.length-i) (0,0)++List.drop (i+(S.length-i)) S)))))] (ap ((by exact zA9 (by simp<;>omega)):(0+((↑i:Int).toNat-0)).ble (List.map prV (List.take i S++List.replicate (S.length-i) (0,0)++List.drop (i+(S.length-i)) S)).length=true)<|ap ((by simp):PV.own 2 (List.take i (List.drop 0 (List.map prV (List.take i S++List.replicate (S.length-i) (0,0)++List.drop (i+(S.length-i)) S))))=PV.own 2 (List.map prV (List.take i (List.take i S++List.replicate (S.length-i) (0,0)++List.drop (i+(S.length-i)) S)))) an) (PV.own 2 (List.map prV (List.take i (List.take i S++List.replicate (S.length-i) (0,0)++List.drop (i+(S.length-i)) S)))) [] ?_ rfl)
   rw [List.take_of_length_le (Nat.le_of_not_lt yz)] at ht
   rw [← ht,List.append_assoc,List.take_append_of_le_length (by rw [List.length_take];omega),List.take_take,Nat.min_self]
theorem f44_1 (n:Nw) (cs:List (Int×Int)) (e:Int) (st:List Int) (ho:OffOk n cs e st) (yC:st.length<1000000):FG 44 [nwV n,prs cs,I e,zAw st] (.tup [.sl ((zWZ n cs e.toNat (zAT n (zAL n cs e.toNat)) st).map prV),I 0]):=by
 have yi:=ho.ev
 have jf:=yi.cr
 have kg:=jf.w
 have hn:=jf.nw
 have ui:=jf.len
 have he:=yi.ev
 have ka:=hn.nl
 have gb:=zDi (w:=zAL n cs e.toNat) hn
 have jm:∀ g∈zAT n (zAL n cs e.toNat),(0≤g.1∧g.1<n.h)∧(0≤g.2∧g.2<n.n.length):=zNE
 have uR:=f121_1 n cs e st ho yC
 rw [← zWK]
 generalize zAT n (zAL n cs e.toNat)=G at *
 refine zAf Tryz.f44 ?_
 refine zAd 3<|zAa<|zAd 4<|S_a [(12,.ret (PV.tup [zDv n cs,prs G,PV.agg [zXC n cs e G],I 0]) [])] (ap uR an)<|zAc 10<|zAa<|zAg<|zAd 2<|zAa<|zAW<|zAj<|zAg<|zAd 2<|S_a [(0,.n n.n.length)] (ap (lnS ntV n.n) an)<|zAc 1<|zAa<|zAh 0 ?_
 refine zAo (fun (i,L,_)=>i≤n.n.length∧L=zU5 n cs e.toNat G st i) (fun ((i:Nat),(L:List (Int×Int)),(f:Bool))=>[(11,bif f then .own 2 (L.map prV) else .sl (L.map prV)),(34,I (i:Nat))]) (fun (i,_,_)=>n.n.length-i) ((0:Nat),G,false) ⟨Nat.zero_le _,rfl⟩ fun (i,L,f) ⟨hi,hL⟩=>?_
 have hLl:L.length≤G.length:=by rw [hL];exact zPt i
 by_cases yB:i<n.n.length
 ·have yQ:=zL4 (n:=n) (cs:=cs) (e:=e.toNat) (G:=G) (st:=st) (k:=i)
  rw [← hL] at yQ
  clear hL
  cases f
  ·refine zAd 1<|zAa<|zAg<|zAJ ((↑i:Int)<(↑n.n.length:Int)) (by omega)<|zAj<|zAg<|zAh 1<|zAd 2<|zAa<|zAd 1<|S_a [(0,.n st.length)] (ap (lnS I st) an)<|zAc 1<|zAa<|zAh 2 ?_
   refine zAo (fun (j,M,_)=>j≤st.length∧M=zUx n cs e.toNat G i L (st.take j)) (fun ((j:Nat),(M:List (Int×Int)),(f:Bool))=>[(11,bif f then .own 2 (M.map prV) else .sl (M.map prV)),(39,I (j:Nat))]) (fun (j,_,_)=>st.length-j) ((0:Nat),L,false) ⟨Nat.zero_le _,rfl⟩ fun (j,M,f) ⟨hj,hM⟩=>?_
   have hMl:M.length≤L.length:=by rw [hM];exact zIk _ _
   by_cases yz:j<st.length
   ·have yU:=zMh (n:=n) (cs:=cs) (e:=e.toNat) (G:=G) (L:=L) (i:=i) yz
    have yZ:=zBz (d:=(0:Int)) ho.rng j yz
    rw [← hM] at yU
    have je:(0≤(((i:Int),st.getD j 0):Int×Int).1∧(((i:Int),st.getD j 0):Int×Int).1<n.n.length)∧(0≤(((i:Int),st.getD j 0):Int×Int).2∧(((i:Int),st.getD j 0):Int×Int).2<n.s.length):=by simp only;omega
    have gg:=f173 n cs G e ((i:Int),st.getD j 0) kg ui (by omega) (by omega) jm je
    have yN:(zCn n (zAL n (cs++[((i:Int),st.getD j 0)]) e.toNat) G).length≤1000:=Nat.le_trans (List.length_filter_le _ _) (by omega)
    generalize zCn n (zAL n (cs++[((i:Int),st.getD j 0)]) e.toNat) G=C at *
    clear hM yQ uR jm
    cases f
    ·refine zAd 1<|zAa<|zAg<|zAJ ((↑j:Int)<(↑st.length:Int)) (by omega)<|zAj<|zAg<|zAh 3<|zAg<|zAe<|S_a [(2,.v (I (st.getD j 0)))] (ap (zBx (0) (by omega):(List.map I st)[j]? = some (I (st.getD j 0))) an)<|zAc 2<|zAa<|zAd 5<|S_a [(9,.ret (prs C) [])] (ap gg an)<|zAc 2<|zAa<|zAe<|zAc 1<|S_a [(6,.ret (PV.own 2 (List.map prV M)) [])] (ap (f123 M (by omega)) an)<|zAc 1<|S_a [(3,.ob),(1,.v (PV.own 2 (List.map prV M))),(9,.ret (PV.own 2 (List.map prV (List.filter (fun x => !has C x) M))) []),(1,.yes)] (ap ((by exact zA9 (by simp only [List.length_map,zzLn,zA1]<;>omega)):(List.map prV M).length.ble (List.map prV M).length=true)<|ap ((zAE zAz):PV.own 2 (List.take (List.map prV M).length (List.drop 0 (List.map prV M)))=PV.own 2 (List.map prV M))<|ap (f122_2 C (by omega) M (by omega))<|ap ((by exact zBF _):(PV.own 2 (List.map prV (List.filter (fun x => !has C x) M))).free=true) an)<|zAc 1<|zAa<|zAe<|S_a [(1,.v (I (↑(j+1):Int)))] (ap (wrN j) an)<|zAc 1<|zAa ?_
     exact ⟨(j+1,M.filter fun g => !has C g,true),⟨by omega,yU.symm⟩,by simp only;omega,by kernel_rfl,by kernel_rfl⟩
    ·refine zAd 1<|zAa<|zAg<|zAJ ((↑j:Int)<(↑st.length:Int)) (by omega)<|zAj<|zAg<|zAh 3<|zAg<|zAe<|S_a [(2,.v (I (st.getD j 0)))] (ap (zBx (0) (by omega):(List.map I st)[j]? = some (I (st.getD j 0))) an)<|zAc 2<|zAa<|zAd 5<|S_a [(9,.ret (prs C) [])] (ap gg an)<|zAc 2<|zAa<|zAe<|zAc 1<|S_a [(3,.ob),(0,.v (prs M)),(2,.ret (PV.own 2 (List.map prV M)) []),(1,.yes)] (ap (blz (List.map prV M))<|ap (frT prV M)<|ap (f123 M (by omega))<|ap ((by exact zBF _):(PV.own 2 (List.map prV M)).free=true) an)<|zAc 1<|S_a [(3,.ob),(1,.v (PV.own 2 (List.map prV M))),(9,.ret (PV.own 2 (List.map prV (List.filter (fun x => !has C x) M))) []),(1,.yes)] (ap ((by exact zA9 (by simp only [List.length_map,zzLn,zA1]<;>omega)):(List.map prV M).length.ble (List.map prV M).length=true)<|ap ((zAE zAz):PV.own 2 (List.take (List.map prV M).length (List.drop 0 (List.map prV M)))=PV.own 2 (List.map prV M))<|ap (f122_2 C (by omega) M (by omega))<|ap ((by exact zBF _):(PV.own 2 (List.map prV (List.filter (fun x => !has C x) M))).free=true) an)<|zAc 1<|zAa<|zAe<|S_a [(1,.v (I (↑(j+1):Int)))] (ap (wrN j) an)<|zAc 1<|zAa ?_
     exact ⟨(j+1,M.filter fun g => !has C g,true),⟨by omega,yU.symm⟩,by simp only;omega,by kernel_rfl,by kernel_rfl⟩
   ·rw [List.take_of_length_le (by omega)] at hM
    rw [← hM] at yQ
    clear hM uR jm
    cases f
    ·refine zAd 1<|zAa<|zAg<|zAK ((↑j:Int)<(↑st.length:Int)) (by omega)<|zAs 2<|zAe<|S_a [(1,.v (I (↑(i+1):Int)))] (ap (wrN i) an)<|zAc 1<|zAa ?_
     exact ⟨(i+1,M,false),⟨by omega,yQ.symm⟩,by simp only;omega,by kernel_rfl,by kernel_rfl⟩
    ·refine zAd 1<|zAa<|zAg<|zAK ((↑j:Int)<(↑st.length:Int)) (by omega)<|zAs 2<|zAe<|S_a [(1,.v (I (↑(i+1):Int)))] (ap (wrN i) an)<|zAc 1<|zAa ?_
     exact ⟨(i+1,M,true),⟨by omega,yQ.symm⟩,by simp only;omega,by kernel_rfl,by kernel_rfl⟩
  ·refine zAd 1<|zAa<|zAg<|zAJ ((↑i:Int)<(↑n.n.length:Int)) (by omega)<|zAj<|zAg<|zAh 1<|zAd 2<|zAa<|zAd 1<|S_a [(0,.n st.length)] (ap (lnS I st) an)<|zAc 1<|zAa<|zAh 2 ?_
   refine zAo (fun (j,M,_)=>j≤st.length∧M=zUx n cs e.toNat G i L (st.take j)) (fun ((j:Nat),(M:List (Int×Int)),(f:Bool))=>[(11,bif f then .own 2 (M.map prV) else .sl (M.map prV)),(39,I (j:Nat))]) (fun (j,_,_)=>st.length-j) ((0:Nat),L,true) ⟨Nat.zero_le _,rfl⟩ fun (j,M,f) ⟨hj,hM⟩=>?_
   have hMl:M.length≤L.length:=by rw [hM];exact zIk _ _
   by_cases yz:j<st.length
   ·have yU:=zMh (n:=n) (cs:=cs) (e:=e.toNat) (G:=G) (L:=L) (i:=i) yz
    have yZ:=zBz (d:=(0:Int)) ho.rng j yz
    rw [← hM] at yU
    have je:(0≤(((i:Int),st.getD j 0):Int×Int).1∧(((i:Int),st.getD j 0):Int×Int).1<n.n.length)∧(0≤(((i:Int),st.getD j 0):Int×Int).2∧(((i:Int),st.getD j 0):Int×Int).2<n.s.length):=by simp only;omega
    have gg:=f173 n cs G e ((i:Int),st.getD j 0) kg ui (by omega) (by omega) jm je
    have yN:(zCn n (zAL n (cs++[((i:Int),st.getD j 0)]) e.toNat) G).length≤1000:=Nat.le_trans (List.length_filter_le _ _) (by omega)
    generalize zCn n (zAL n (cs++[((i:Int),st.getD j 0)]) e.toNat) G=C at *
    clear hM yQ uR jm
    cases f
    ·refine zAd 1<|zAa<|zAg<|zAJ ((↑j:Int)<(↑st.length:Int)) (by omega)<|zAj<|zAg<|zAh 3<|zAg<|zAe<|S_a [(2,.v (I (st.getD j 0)))] (ap (zBx (0) (by omega):(List.map I st)[j]? = some (I (st.getD j 0))) an)<|zAc 2<|zAa<|zAd 5<|S_a [(9,.ret (prs C) [])] (ap gg an)<|zAc 2<|zAa<|zAe<|zAc 1<|S_a [(6,.ret (PV.own 2 (List.map prV M)) [])] (ap (f123 M (by omega)) an)<|zAc 1<|S_a [(3,.ob),(1,.v (PV.own 2 (List.map prV M))),(9,.ret (PV.own 2 (List.map prV (List.filter (fun x => !has C x) M))) []),(1,.yes)] (ap ((by exact zA9 (by simp only [List.length_map,zzLn,zA1]<;>omega)):(List.map prV M).length.ble (List.map prV M).length=true)<|ap ((zAE zAz):PV.own 2 (List.take (List.map prV M).length (List.drop 0 (List.map prV M)))=PV.own 2 (List.map prV M))<|ap (f122_2 C (by omega) M (by omega))<|ap ((by exact zBF _):(PV.own 2 (List.map prV (List.filter (fun x => !has C x) M))).free=true) an)<|zAc 1<|zAa<|zAe<|S_a [(1,.v (I (↑(j+1):Int)))] (ap (wrN j) an)<|zAc 1<|zAa ?_
     exact ⟨(j+1,M.filter fun g => !has C g,true),⟨by omega,yU.symm⟩,by simp only;omega,by kernel_rfl,by kernel_rfl⟩
    ·refine zAd 1<|zAa<|zAg<|zAJ ((↑j:Int)<(↑st.length:Int)) (by omega)<|zAj<|zAg<|zAh 3<|zAg<|zAe<|S_a [(2,.v (I (st.getD j 0)))] (ap (zBx (0) (by omega):(List.map I st)[j]? = some (I (st.getD j 0))) an)<|zAc 2<|zAa<|zAd 5<|S_a [(9,.ret (prs C) [])] (ap gg an)<|zAc 2<|zAa<|zAe<|zAc 1<|S_a [(3,.ob),(0,.v (prs M)),(2,.ret (PV.own 2 (List.map prV M)) []),(1,.yes)] (ap (blz (List.map prV M))<|ap (frT prV M)<|ap (f123 M (by omega))<|ap ((by exact zBF _):(PV.own 2 (List.map prV M)).free=true) an)<|zAc 1<|S_a [(3,.ob),(1,.v (PV.own 2 (List.map prV M))),(9,.ret (PV.own 2 (List.map prV (List.filter (fun x => !has C x) M))) []),(1,.yes)] (ap ((by exact zA9 (by simp only [List.length_map,zzLn,zA1]<;>omega)):(List.map prV M).length.ble (List.map prV M).length=true)<|ap ((zAE zAz):PV.own 2 (List.take (List.map prV M).length (List.drop 0 (List.map prV M)))=PV.own 2 (List.map prV M))<|ap (f122_2 C (by omega) M (by omega))<|ap ((by exact zBF _):(PV.own 2 (List.map prV (List.filter (fun x => !has C x) M))).free=true) an)<|zAc 1<|zAa<|zAe<|S_a [(1,.v (I (↑(j+1):Int)))] (ap (wrN j) an)<|zAc 1<|zAa ?_
     exact ⟨(j+1,M.filter fun g => !has C g,true),⟨by omega,yU.symm⟩,by simp only;omega,by kernel_rfl,by kernel_rfl⟩
   ·rw [List.take_of_length_le (by omega)] at hM
    rw [← hM] at yQ
    clear hM uR jm
    cases f
    ·refine zAd 1<|zAa<|zAg<|zAK ((↑j:Int)<(↑st.length:Int)) (by omega)<|zAs 2<|zAe<|S_a [(1,.v (I (↑(i+1):Int)))] (ap (wrN i) an)<|zAc 1<|zAa ?_
     exact ⟨(i+1,M,false),⟨by omega,yQ.symm⟩,by simp only;omega,by kernel_rfl,by kernel_rfl⟩
    ·refine zAd 1<|zAa<|zAg<|zAK ((↑j:Int)<(↑st.length:Int)) (by omega)<|zAs 2<|zAe<|S_a [(1,.v (I (↑(i+1):Int)))] (ap (wrN i) an)<|zAc 1<|zAa ?_
     exact ⟨(i+1,M,true),⟨by omega,yQ.symm⟩,by simp only;omega,by kernel_rfl,by kernel_rfl⟩
 ·rw [show i=n.n.length by omega] at hL
  rw [← hL]
  clear hL uR jm
  cases f
  ·refine zAd 1<|zAa<|zAg<|zAK ((↑i:Int)<(↑n.n.length:Int)) (by omega)<|zAs 0<|zAd 3<|zAa<|zAm<|E_a [] an (PV.tup [prs L,I 0]) [] rfl rfl
  ·refine zAd 1<|zAa<|zAg<|zAK ((↑i:Int)<(↑n.n.length:Int)) (by omega)<|zAs 0<|zAd 1<|S_a [(2,.yes)] (ap ((by exact zBj (by simp<;>omega)):(Nat.beq 0 0&&(List.map prV L).length.beq (List.map prV L).length)=true) an)<|zAc 1<|zAa<|zAm<|E_a [(1,.envv ([(3,zAw st),(4,(PV.agg [I n.h,prs n.l,PV.sl (List.map ntV n.n),PV.sl (List.map zAw n.s)]).box),(8,prs L),(9,I 0),(12,(PV.agg [PV.func 173 [] [(PV.agg (I n.h::prs n.l::PV.sl (List.map ntV n.n)::PV.sl (List.map zAw n.s)::prs cs::PV.map (List.map zBv (List.map pr2 n.l))::(zAQ (zAk n) 8++zAQ (zA2 n) 8))).ref.ref,(prs G).ref,(I e).ref]]).box),(13,I 0),(18,PV.tup [PV.bad,PV.bad,PV.bad,PV.bad]),(23,PV.tup [PV.bad,PV.bad,PV.bad,PV.bad]),(25,prs G),(29,PV.bool false),(33,I (↑n.n.length:Int)),(34,I (↑i:Int)),(35,PV.bool (decide ((↑i:Int)<(↑n.n.length:Int)))),(55,PV.bor 11 [] 2 0 (List.map prV L).length),(2000288,(PV.agg (I n.h::prs n.l::PV.sl (List.map ntV n.n)::PV.sl (List.map zAw n.s)::prs cs::PV.map (List.map zBv (List.map pr2 n.l))::(zAQ (zAk n) 8++zAQ (zA2 n) 8))).ref),(2000289,prs G),(2000290,PV.agg [PV.func 173 [] [(PV.agg (I n.h::prs n.l::PV.sl (List.map ntV n.n)::PV.sl (List.map zAw n.s)::prs cs::PV.map (List.map zBv (List.map pr2 n.l))::(zAQ (zAk n) 8++zAQ (zA2 n) 8))).ref.ref,(prs G).ref,(I e).ref]]),(2000291,I 0)]) (prs L))] (ap (And.intro (Eq.trans (by kernel_rfl:Env.frz [(3,zAw st),(4,(PV.agg [I n.h,prs n.l,PV.sl (List.map ntV n.n),PV.sl (List.map zAw n.s)]).box),(8,PV.own 2 (List.map prV L)),(9,I 0),(12,(PV.agg [PV.func 173 [] [(PV.agg (I n.h::prs n.l::PV.sl (List.map ntV n.n)::PV.sl (List.map zAw n.s)::prs cs::PV.map (List.map zBv (List.map pr2 n.l))::(zAQ (zAk n) 8++zAQ (zA2 n) 8))).ref.ref,(prs G).ref,(I e).ref]]).box),(13,I 0),(18,PV.tup [PV.bad,PV.bad,PV.bad,PV.bad]),(23,PV.tup [PV.bad,PV.bad,PV.bad,PV.bad]),(25,prs G),(29,PV.bool false),(33,I (↑n.n.length:Int)),(34,I (↑i:Int)),(35,PV.bool (decide ((↑i:Int)<(↑n.n.length:Int)))),(55,PV.bor 11 [] 2 0 (List.map prV L).length),(2000288,(PV.agg (I n.h::prs n.l::PV.sl (List.map ntV n.n)::PV.sl (List.map zAw n.s)::prs cs::PV.map (List.map zBv (List.map pr2 n.l))::(zAQ (zAk n) 8++zAQ (zA2 n) 8))).ref),(2000289,prs G),(2000290,PV.agg [PV.func 173 [] [(PV.agg (I n.h::prs n.l::PV.sl (List.map ntV n.n)::PV.sl (List.map zAw n.s)::prs cs::PV.map (List.map zBv (List.map pr2 n.l))::(zAQ (zAk n) 8++zAQ (zA2 n) 8))).ref.ref,(prs G).ref,(I e).ref]]),(2000291,I 0)] 8 []=some [(3,zAw st),(4,(PV.agg [I n.h,prs n.l,PV.sl (List.map ntV n.n),PV.sl (List.map zAw n.s)]).box),(8,PV.sl (zAu (List.map prV L))),(9,I 0),(12,(PV.agg [PV.func 173 [] [(PV.agg (I n.h::prs n.l::PV.sl (List.map ntV n.n)::PV.sl (List.map zAw n.s)::prs cs::PV.map (List.map zBv (List.map pr2 n.l))::(zAQ (zAk n) 8++zAQ (zA2 n) 8))).ref.ref,(prs G).ref,(I e).ref]]).box),(13,I 0),(18,PV.tup [PV.bad,PV.bad,PV.bad,PV.bad]),(23,PV.tup [PV.bad,PV.bad,PV.bad,PV.bad]),(25,prs G),(29,PV.bool false),(33,I (↑n.n.length:Int)),(34,I (↑i:Int)),(35,PV.bool (decide ((↑i:Int)<(↑n.n.length:Int)))),(55,PV.bor 11 [] 2 0 (List.map prV L).length),(2000288,(PV.agg (I n.h::prs n.l::PV.sl (List.map ntV n.n)::PV.sl (List.map zAw n.s)::prs cs::PV.map (List.map zBv (List.map pr2 n.l))::(zAQ (zAk n) 8++zAQ (zA2 n) 8))).ref),(2000289,prs G),(2000290,PV.agg [PV.func 173 [] [(PV.agg (I n.h::prs n.l::PV.sl (List.map ntV n.n)::PV.sl (List.map zAw n.s)::prs cs::PV.map (List.map zBv (List.map pr2 n.l))::(zAQ (zAk n) 8++zAQ (zA2 n) 8))).ref.ref,(prs G).ref,(I e).ref]]),(2000291,I 0)]) ((by simp only [show zAu (List.map prV L)=List.map prV L from (by first | exact zAD _ | exact zAN _ | exact zAI _ | exact zA5 (zAN _) | exact zA5 (zAI _) | exact zCw (by simp [zB4]) (zAD _))]):some [(3,zAw st),(4,(PV.agg [I n.h,prs n.l,PV.sl (List.map ntV n.n),PV.sl (List.map zAw n.s)]).box),(8,PV.sl (zAu (List.map prV L))),(9,I 0),(12,(PV.agg [PV.func 173 [] [(PV.agg (I n.h::prs n.l::PV.sl (List.map ntV n.n)::PV.sl (List.map zAw n.s)::prs cs::PV.map (List.map zBv (List.map pr2 n.l))::(zAQ (zAk n) 8++zAQ (zA2 n) 8))).ref.ref,(prs G).ref,(I e).ref]]).box),(13,I 0),(18,PV.tup [PV.bad,PV.bad,PV.bad,PV.bad]),(23,PV.tup [PV.bad,PV.bad,PV.bad,PV.bad]),(25,prs G),(29,PV.bool false),(33,I (↑n.n.length:Int)),(34,I (↑i:Int)),(35,PV.bool (decide ((↑i:Int)<(↑n.n.length:Int)))),(55,PV.bor 11 [] 2 0 (List.map prV L).length),(2000288,(PV.agg (I n.h::prs n.l::PV.sl (List.map ntV n.n)::PV.sl (List.map zAw n.s)::prs cs::PV.map (List.map zBv (List.map pr2 n.l))::(zAQ (zAk n) 8++zAQ (zA2 n) 8))).ref),(2000289,prs G),(2000290,PV.agg [PV.func 173 [] [(PV.agg (I n.h::prs n.l::PV.sl (List.map ntV n.n)::PV.sl (List.map zAw n.s)::prs cs::PV.map (List.map zBv (List.map pr2 n.l))::(zAQ (zAk n) 8++zAQ (zA2 n) 8))).ref.ref,(prs G).ref,(I e).ref]]),(2000291,I 0)]=some [(3,zAw st),(4,(PV.agg [I n.h,prs n.l,PV.sl (List.map ntV n.n),PV.sl (List.map zAw n.s)]).box),(8,prs L),(9,I 0),(12,(PV.agg [PV.func 173 [] [(PV.agg (I n.h::prs n.l::PV.sl (List.map ntV n.n)::PV.sl (List.map zAw n.s)::prs cs::PV.map (List.map zBv (List.map pr2 n.l))::(zAQ (zAk n) 8++zAQ (zA2 n) 8))).ref.ref,(prs G).ref,(I e).ref]]).box),(13,I 0),(18,PV.tup [PV.bad,PV.bad,PV.bad,PV.bad]),(23,PV.tup [PV.bad,PV.bad,PV.bad,PV.bad]),(25,prs G),(29,PV.bool false),(33,I (↑n.n.length:Int)),(34,I (↑i:Int)),(35,PV.bool (decide ((↑i:Int)<(↑n.n.length:Int)))),(55,PV.bor 11 [] 2 0 (List.map prV L).length),(2000288,(PV.agg (I n.h::prs n.l::PV.sl (List.map ntV n.n)::PV.sl (List.map zAw n.s)::prs cs::PV.map (List.map zBv (List.map pr2 n.l))::(zAQ (zAk n) 8++zAQ (zA2 n) 8))).ref),(2000289,prs G),(2000290,PV.agg [PV.func 173 [] [(PV.agg (I n.h::prs n.l::PV.sl (List.map ntV n.n)::PV.sl (List.map zAw n.s)::prs cs::PV.map (List.map zBv (List.map pr2 n.l))::(zAQ (zAk n) 8++zAQ (zA2 n) 8))).ref.ref,(prs G).ref,(I e).ref]]),(2000291,I 0)])) (zKQ (by first | exact zAD _ | exact zAN _ | exact zAI _):PV.mapW (inl 8 [] (PV.own 2 (List.map prV L))) (PV.bor 8 [] 2 0 (List.map prV L).length)=prs L)) an) (PV.tup [prs L,I 0]) [] rfl rfl
theorem f44_2 (n:Nw) (cs:List (Int×Int)) (e:Int) (st:List Int) (hs:Small n) (hl:cs.length<1000000) (yC:st.length<1000000) (ho:¬ zB7 n cs e st=0):FG 44 [nwV n,prs cs,I e,zAw st] (.tup [.sl [],I (zB7 n cs e st)]):=by
 have hx : FG 121 [nwV n,prs cs,I e,zAw st] (.tup [.nilp,.sl [],.agg [.nilf],I (zB7 n cs e st)]):=by
  by_cases yi:zBT n cs e=0
  ·have qm:=zPY yi
   cases hin:(!st.all fun x=>inB x 0 (n.s.length-1)) with
   | true =>
    rw [show zB7 n cs e st=1 by simp only [zB7,yi,hin,if_true]]
    exact f121_2 n cs e st qm yC hin
   | false =>
    by_cases yS:st.Nodup
    ·exact absurd (by simp only [zB7,yi,hin,yS,if_true];rfl) ho
    ·rw [show zB7 n cs e st=5 by simp only [zB7,yi,hin,yS,if_true,if_false];rfl]
     exact f121_4 n cs e st qm yC hin yS
  ·rw [show zB7 n cs e st=zBT n cs e by simp only [zB7,yi,if_false]]
   exact f121_3 n cs e st hs hl yi
 refine zAf Tryz.f44 ?_
 refine zAd 3<|zAa<|zAd 4<|S_a [(12,.ret (PV.tup [PV.nilp,PV.sl [],PV.agg [PV.nilf],I (zB7 n cs e st)]) [])] (ap hx an)<|zAc 10<|zAa<|zAg<|zAd 2<|zAa<|zCH (zB7 n cs e st=0) (by omega)<|zAd 3<|zAa<|zAm<|E_a [] an (PV.tup [PV.sl [],I (zB7 n cs e st)]) [] rfl rfl
end Go.Eng
namespace Go.Eng
open Go Go.Proofs
def zDU (n:Nw):Int:=if zBB n.h n.l=0 then if zCF n.n=0 then if (!n.s.all fun x=>zIB n.h x)=true then 1 else if (!n.s.all fun x=>zDl x)=true then 4 else 0 else zCF n.n else zBB n.h n.l
theorem zVI {n:Nw} (h1:(!inB n.h 1 10)=false) (h2:¬ (n.l.length:Int)>15) (h3:(!inB n.n.length 1 8)=false) (h4:(!inB n.s.length 1 6)=false):zC2 n=zDU n:=by
 simp only [zC2,h1,h2,h3,h4,if_false];rfl
theorem zH0 {α:Type} {p:α→Bool} {l:List α} {i:Nat} {d:α} (h:i<l.length) (hx:p (l.getD i d)=false):(l.all p)=false:=by
 rw [zAq h] at hx
 simp only [List.all_eq_false]
 exact ⟨_,List.getElem_mem h,by simp [hx]⟩
theorem zJd {α:Type} {p:α→Bool} {l:List α} {d:α} (h:∀ i,i<l.length→p (l.getD i d)=true):(l.all p)=true:=by
 simp only [List.all_eq_true]
 intro x hx
 obtain ⟨i,hi,rfl⟩:=List.getElem_of_mem hx
 have:=h i hi
 rwa [zAq hi] at this
theorem zPf {n:Nw} {i:Nat} (hi:i<n.l.length) (h:zGU n.h (n.l.getD i default)=false):zDU n=1:=by
 have:zBB n.h n.l=1:=by simp only [zBB,zH0 hi h];rfl
 simp only [zDU,this];rfl
theorem zUT {n:Nw} {i:Nat} (ha:(n.l.all fun x=>zGU n.h x)=true) (hi:i<n.l.length) (h:zHS (n.l.getD i default)=false):zDU n=8:=by
 have:zBB n.h n.l=8:=by simp only [zBB,ha,zH0 hi h];rfl
 simp only [zDU,this];rfl
theorem zUJ {n:Nw} {i k:Nat} (ha:(n.l.all fun x=>zGU n.h x)=true) (hb:(n.l.all fun x=>zHS x)=true) (jc:k<i) (hi:i<n.l.length) (h:pr2 (n.l.getD i default)=pr2 (n.l.getD k default)):zDU n=5:=by
 have hn:¬ (n.l.map pr2).Nodup:=fun yS=>by
  have:=(List.pairwise_iff_getElem.1 yS) k i (by simp;omega) (by simp;omega) jc
  rw [List.getElem_map,List.getElem_map] at this
  rw [zAq hi,zAq (by omega)] at h
  exact this h.symm
 have:zBB n.h n.l=5:=by simp only [zBB,ha,hb,hn,if_true,if_false]
 simp only [zDU,this];rfl
theorem zVv {n:Nw} (ha:(n.l.all fun x=>zGU n.h x)=true) (hb:(n.l.all fun x=>zHS x)=true) (h:∀ i,i<n.l.length→∀ k,k<i→pr2 (n.l.getD i default)≠pr2 (n.l.getD k default)):zBB n.h n.l=0:=by
 have hn:(n.l.map pr2).Nodup:=by
  refine List.pairwise_iff_getElem.2 fun k i h1 h2 jc=>?_
  simp only [List.length_map] at h1 h2
  have:=h i h2 k jc
  rw [zAq h2,zAq h1] at this
  simp only [List.getElem_map]
  exact fun e=>this e.symm
 simp only [zBB,ha,hb,hn,if_true]
theorem zU6 {n:Nw} (hl:zBB n.h n.l=0) {i:Nat} (hi:i<n.n.length) (h:inB (n.n.getD i default).1 (-1) ((i:Int)-1)=false):zDU n=1:=by
 have:zNt n.n=false:=by
  simp only [zNt,List.all_eq_false]
  exact ⟨i,List.mem_range.2 hi,by rw [h];simp⟩
 have:zCF n.n=1:=by simp only [zCF,this];rfl
 simp only [zDU,hl,this];rfl
theorem zYk {n:Nw} (h:∀ i,i<n.n.length→inB (n.n.getD i default).1 (-1) ((i:Int)-1)=true):zNt n.n=true:=by
 simp only [zNt,List.all_eq_true,List.mem_range];exact h
theorem zUh {l:List (Int×Bool)} {i:Nat} (hi:i<l.length) (hr:inB (l.getD i default).1 (-1) ((i:Int)-1)=true):zLQ l i=true↔∃ k,k<i∧0≤(l.getD i default).1∧(l.getD i default).1=(l.getD k default).1:=by
 have hr:=zC6 hr
 simp only [zLQ,Bool.and_eq_true,decide_eq_true_eq,List.any_eq_true]
 constructor
 ·rintro ⟨h1,x,h2,h3⟩
  obtain ⟨k,hk,rfl⟩:=List.getElem_of_mem h2
  rw [List.length_take] at hk
  refine ⟨k,by omega,by omega,?_⟩
  rw [zAq (l:=l) (i:=k) (by omega)]
  rw [List.getElem_take] at h3
  exact h3.symm
 ·rintro ⟨k,h1,h2,h3⟩
  refine ⟨by omega, (l.take i)[k]'(by rw [List.length_take]; omega), List.getElem_mem _, ?_⟩
  rw [List.getElem_take,h3,zAq (l:=l) (i:=k) (by omega)]
theorem zV8 {n:Nw} (hl:zBB n.h n.l=0) (hn:zNt n.n=true) {i k:Nat} (jc:k<i) (hi:i<n.n.length) (h1:(n.n.getD i default).1≥0) (h2:(n.n.getD i default).1=(n.n.getD k default).1):zDU n=5:=by
 have hr:inB (n.n.getD i default).1 (-1) ((i:Int)-1)=true:=by
  simp only [zNt,List.all_eq_true,List.mem_range] at hn;exact hn i hi
 have:(List.range n.n.length).any (zLQ n.n)=true:=List.any_eq_true.2 ⟨i,List.mem_range.2 hi,(zUh hi hr).2 ⟨k,jc,h1,h2⟩⟩
 have:zCF n.n=5:=by simp only [zCF,hn,this,if_true]
 simp only [zDU,hl,this];rfl
theorem zWu {n:Nw} (hn:zNt n.n=true) (h:∀ i,i<n.n.length→∀ k,k<i→¬ ((n.n.getD i default).1≥0∧(n.n.getD i default).1=(n.n.getD k default).1)):zCF n.n=0:=by
 have:(List.range n.n.length).any (zLQ n.n)=false:=by
  simp only [List.any_eq_false,List.mem_range]
  intro i hi ht
  have hr:inB (n.n.getD i default).1 (-1) ((i:Int)-1)=true:=by
   simp only [zNt,List.all_eq_true,List.mem_range] at hn;exact hn i hi
  obtain ⟨k,h1,h2,h3⟩:=(zUh hi hr).1 ht
  exact h i hi k h1 ⟨h2,h3⟩
 simp only [zCF,hn,this,if_true];rfl
theorem zVW {n:Nw} (hl:zBB n.h n.l=0) (hn:zCF n.n=0) {s i:Nat} (hs:s<n.s.length) (hi:i<(n.s.getD s []).length) (h:inB ((n.s.getD s []).getD i 0) 0 (n.h-1)=false):zDU n=1:=by
 have:(n.s.all fun x=>zIB n.h x)=false:=zH0 (d:=[]) hs (zH0 (d:=0) hi h)
 simp only [zDU,hl,hn,this];rfl
theorem zUG {n:Nw} (hl:zBB n.h n.l=0) (hn:zCF n.n=0) (hs:(n.s.all fun x=>zIB n.h x)=true) {s i:Nat} (ji:s<n.s.length) (hi:i+1<(n.s.getD s []).length) (h:(n.s.getD s []).getD i 0≥(n.s.getD s []).getD (i+1) 0):zDU n=4:=by
 have h1:zDl (n.s.getD s [])=false:=by
  rw [zHK]
  simp only [zSJ,List.all_eq_false,List.mem_range,decide_eq_true_eq]
  exact ⟨i,by omega,by omega⟩
 have:(n.s.all fun x=>zDl x)=false:=zH0 (d:=[]) ji h1
 simp only [zDU,hl,hn,hs,this];rfl
theorem zW4 {l:List Int} (h:∀ i,i+1<l.length→l.getD i 0<l.getD (i+1) 0):zDl l=true:=by
 rw [zHK]
 simp only [zSJ,List.all_eq_true,List.mem_range,decide_eq_true_eq]
 exact fun i hi=>h i (by omega)
theorem zWP {n:Nw} (hl:zBB n.h n.l=0) (hn:zCF n.n=0) (hs:(n.s.all fun x=>zIB n.h x)=true) (ho:(n.s.all fun x=>zDl x)=true):zDU n=0:=by
 simp only [zDU,hl,hn,hs,ho];rfl
end Go.Eng
set_option maxRecDepth 10000
set_option maxHeartbeats 4000000
namespace Go.Eng
open Go Go.Proofs
theorem ntt {a:Bool} (h:(!a)=true):a=false:=by simpa using h
theorem ntf {a:Bool} (h:(!a)=false):a=true:=by simpa using h
theorem zXx {a b:Int×Int} (h:a.1=b.1∧a.2=b.2∨a.1=b.2∧a.2=b.1):pr2 a=pr2 b:=by
 obtain ⟨x,y⟩:=b
 exact zO1.2 h
theorem zVw {a b:Int×Int} (h:¬ (a.1=b.1∧a.2=b.2∨a.1=b.2∧a.2=b.1)):pr2 a≠pr2 b:=by
 obtain ⟨x,y⟩:=b
 exact fun e=>h (zO1.1 e)
theorem zGo {p:Nat→Prop} {i:Nat} (ha:∀ j,j<i→p j) (hi:p i):∀ j,j<i+1→p j:=fun j hj=>by
 rcases Nat.lt_succ_iff_lt_or_eq.1 hj with h | rfl
 ·exact ha j h
 ·exact hi
theorem f117 (n:Nw) (hs:Small n):FG 117 [nwV n] (I (zC2 n)):=by
 refine zAf Tryz.f117 ?_
 have h1:=hs.hl
 have h2:=hs.hn
 have h3:=hs.hs
 refine zAd 2<|zAa<|zAg<|zAd 2<|S_a [(10,.ret (PV.bool !inB n.h 1 10) [])] (ap (f111 n.h (1) (10)) an)<|zAc 1<|zDt 19 (!inB n.h 1 10) (fun k0=>(zAc 17<|zAa<|zBM<|zAd 1<|zAa<|zAm<|E_a [] an (I 2) [] ?_ rfl)) (fun k0=>(zAc 2<|S_a [(0,.n n.l.length)] (ap (lnS prV n.l) an)<|zAc 3<|zDa 25 ((↑n.l.length:Int)>15) (fun k1=>(zAc 11<|zAa<|zBM<|zAd 1<|zAa<|zAm<|E_a [] an (I 2) [] ?_ rfl)) (fun k1=>(zAc 2<|S_a [(0,.n n.n.length)] (ap (lnS ntV n.n) an)<|S_a [(10,.ret (PV.bool !inB (↑n.n.length:Int) 1 8) [])] (ap (f111 ((↑n.n.length:Int)) (1) (8)) an)<|zAc 2<|zDt 31 (!inB (↑n.n.length:Int) 1 8) (fun k2=>(zAc 5<|zAa<|zBM<|zAd 1<|zAa<|zAm<|E_a [] an (I 2) [] ?_ rfl)) (fun k2=>(zAc 2<|S_a [(0,.n n.s.length)] (ap (lnS zAw n.s) an)<|S_a [(10,.ret (PV.bool !inB (↑n.s.length:Int) 1 6) [])] (ap (f111 ((↑n.s.length:Int)) (1) (6)) an)<|zAc 1<|zAa<|zDf (!inB (↑n.s.length:Int) 1 6) (fun k3=>(zAd 1<|zAa<|zAm<|E_a [] an (I 2) [] ?_ rfl)) (fun k3=>(zAj<|zAg<|zAd 1<|zAa<|zAh 0 ?_))))))))
 ·simp only [zC2,k0,if_true]
 ·simp only [zC2,k0,k1,if_true];rfl
 ·simp only [zC2,k0,k1,k2,if_true,if_false];rfl
 ·simp only [zC2,k0,k1,k2,k3,if_true,if_false];rfl
 rw [zVI k0 k1 k2 k3]
 have hh:=zC6 (ntf k0)
 have ka:=zC6 (ntf k2)
 clear k0 k1 k2 k3
 refine zAo (fun i=>i≤n.l.length∧∀ j,j<i→zGU n.h (n.l.getD j default)=true) (fun (i:Nat)=>[(3,I (i:Nat))]) (fun i=>n.l.length-i) (0:Nat) ⟨Nat.zero_le _,fun j hj=>absurd hj (Nat.not_lt_zero j)⟩ fun i ⟨hi,ha⟩=>?_
 by_cases yB:i<n.l.length
 ·have jG:=zGo ha
  clear ha
  refine zAg<|zAd 3<|S_a [(0,.n n.l.length)] (ap (lnS prV n.l) an)<|zAc 1<|zAa<|zAJ ((↑i:Int)<(↑n.l.length:Int)) (by omega)<|zAj<|zAg<|zAh 1<|zAd 3<|S_a [(2,.v (PV.agg [I (n.l.getD i default).fst,I (n.l.getD i default).snd]))] (ap (zBx default (by omega):(List.map prV n.l)[i]? = some (PV.agg [I (n.l.getD i default).fst,I (n.l.getD i default).snd])) an)<|zAc 4<|S_a [(1,.v (I (n.h-1)))] (ap ((zCP rfl (by omega)):I (IntKind.i64.wrap (n.h-1))=I (n.h-1)) an)<|S_a [(10,.ret (PV.bool !inB (n.l.getD i default).fst 0 (n.h-1)) [])] (ap (f111 ((n.l.getD i default).fst) (0) (n.h-1)) an)<|zAc 1<|zDt 54 (!inB (n.l.getD i default).fst 0 (n.h-1)) (fun k0=>(zAc 11<|zAa<|zBM<|zAd 1<|zAa<|zAm<|E_a [] an (I 1) [] ?_ rfl)) (fun k0=>(zAc 3<|S_a [(2,.v (PV.agg [I (n.l.getD i default).fst,I (n.l.getD i default).snd]))] (ap (zBx default (by omega):(List.map prV n.l)[i]? = some (PV.agg [I (n.l.getD i default).fst,I (n.l.getD i default).snd])) an)<|zAc 4<|S_a [(1,.v (I (n.h-1)))] (ap ((zCP rfl (by omega)):I (IntKind.i64.wrap (n.h-1))=I (n.h-1)) an)<|S_a [(10,.ret (PV.bool !inB (n.l.getD i default).snd 0 (n.h-1)) [])] (ap (f111 ((n.l.getD i default).snd) (0) (n.h-1)) an)<|zAc 1<|zAa<|zDf (!inB (n.l.getD i default).snd 0 (n.h-1)) (fun k1=>(zAd 1<|zAa<|zAm<|E_a [] an (I 1) [] ?_ rfl)) (fun k1=>(zAj<|zAe<|zAc 1<|S_a [(1,.v (I (↑(i+1):Int)))] (ap (wrN i) an)<|zAc 1<|zAa ?_))))
  ·rw [zPf yB (by simp only [zGU,ntt k0,Bool.false_and])]
  ·rw [zPf yB (by simp only [zGU,ntt k1,Bool.and_false])]
  ·exact ⟨i+1,⟨by omega,jG (by simp only [zGU,ntf k0,ntf k1,Bool.true_and])⟩,by omega,by kernel_rfl,by kernel_rfl⟩
 have hA:(n.l.all fun x=>zGU n.h x)=true:=zJd fun i hi=>ha i (by omega)
 clear ha
 refine zAg<|zAd 3<|S_a [(0,.n n.l.length)] (ap (lnS prV n.l) an)<|zAc 1<|zAa<|zAK ((↑i:Int)<(↑n.l.length:Int)) (by omega)<|zAs 0<|zAg<|zAd 1<|zAa<|zAh 2 ?_
 refine zAo (fun i=>i≤n.l.length∧∀ j,j<i→zHS (n.l.getD j default)=true) (fun (i:Nat)=>[(4,I (i:Nat))]) (fun i=>n.l.length-i) (0:Nat) ⟨Nat.zero_le _,fun j hj=>absurd hj (Nat.not_lt_zero j)⟩ fun i ⟨hi,ha⟩=>?_
 by_cases yB:i<n.l.length
 ·have jG:=zGo ha
  clear ha
  refine zAg<|zAd 3<|S_a [(0,.n n.l.length)] (ap (lnS prV n.l) an)<|zAc 1<|zAa<|zAJ ((↑i:Int)<(↑n.l.length:Int)) (by omega)<|zAj<|zAg<|zAh 3<|zAd 3<|S_a [(2,.v (PV.agg [I (n.l.getD i default).fst,I (n.l.getD i default).snd]))] (ap (zBx default (by omega):(List.map prV n.l)[i]? = some (PV.agg [I (n.l.getD i default).fst,I (n.l.getD i default).snd])) an)<|zAc 5<|S_a [(2,.v (PV.agg [I (n.l.getD i default).fst,I (n.l.getD i default).snd]))] (ap (zBx default (by omega):(List.map prV n.l)[i]? = some (PV.agg [I (n.l.getD i default).fst,I (n.l.getD i default).snd])) an)<|zAc 3<|zAa<|zBZ ((n.l.getD i default).fst=(n.l.getD i default).snd) (fun k0=>(zAd 1<|zAa<|zAm<|E_a [] an (I 8) [] ?_ rfl)) (fun k0=>(zAj<|zAe<|zAc 1<|S_a [(1,.v (I (↑(i+1):Int)))] (ap (wrN i) an)<|zAc 1<|zAa ?_))
  ·rw [zUT hA yB (by simp only [zHS,decide_eq_false_iff_not];exact fun h=>h k0)]
  ·exact ⟨i+1,⟨by omega,jG (by simp only [zHS,decide_eq_true_eq];exact k0)⟩,by omega,by kernel_rfl,by kernel_rfl⟩
 have hB:(n.l.all fun x=>zHS x)=true:=zJd fun i hi=>ha i (by omega)
 clear ha
 refine zAg<|zAd 3<|S_a [(0,.n n.l.length)] (ap (lnS prV n.l) an)<|zAc 1<|zAa<|zAK ((↑i:Int)<(↑n.l.length:Int)) (by omega)<|zAs 2<|zAg<|zAd 1<|zAa<|zAh 4 ?_
 refine zAo (fun i=>i≤n.l.length∧∀ j,j<i→∀ k,k<j→pr2 (n.l.getD j default)≠pr2 (n.l.getD k default)) (fun (i:Nat)=>[(5,I (i:Nat))]) (fun i=>n.l.length-i) (0:Nat) ⟨Nat.zero_le _,fun j hj=>absurd hj (Nat.not_lt_zero j)⟩ fun i ⟨hi,ha⟩=>?_
 by_cases yB:i<n.l.length
 ·have jG:=zGo ha
  clear ha
  refine zAg<|zAd 3<|S_a [(0,.n n.l.length)] (ap (lnS prV n.l) an)<|zAc 1<|zAa<|zAJ ((↑i:Int)<(↑n.l.length:Int)) (by omega)<|zAj<|zAg<|zAh 5<|zAd 1<|zAa<|zAh 6 ?_
  refine zAo (fun k=>k≤i∧∀ j,j<k→pr2 (n.l.getD i default)≠pr2 (n.l.getD j default)) (fun (k:Nat)=>[(6,I (k:Nat))]) (fun k=>i-k) (0:Nat) ⟨Nat.zero_le _,fun j hj=>absurd hj (Nat.not_lt_zero j)⟩ fun k ⟨hk,hb⟩=>?_
  by_cases jc:k<i
  ·have kb:=zGo hb
   clear hb jG
   refine zAg<|zAd 3<|zAa<|zAJ ((↑k:Int)<(↑i:Int)) (by omega)<|zAj<|zAg<|zAh 7<|zAd 3<|S_a [(2,.v (PV.agg [I (n.l.getD i default).fst,I (n.l.getD i default).snd]))] (ap (zBx default (by omega):(List.map prV n.l)[i]? = some (PV.agg [I (n.l.getD i default).fst,I (n.l.getD i default).snd])) an)<|zAc 4<|S_a [(2,.v (PV.agg [I (n.l.getD k default).fst,I (n.l.getD k default).snd]))] (ap (zBx default (by omega):(List.map prV n.l)[k]? = some (PV.agg [I (n.l.getD k default).fst,I (n.l.getD k default).snd])) an)<|zAc 5<|zAa<|zAd 1<|zAc 1<|zAc 1<|zAc 3<|zDa 113 ((n.l.getD i default).fst=(n.l.getD k default).fst) (fun k1=>(zAc 1<|zAc 1<|zAc 1<|zAc 4<|zDa 120 ((n.l.getD i default).snd=(n.l.getD k default).snd) (fun k2=>(zAc 13<|zAa<|zBM<|zAd 1<|zAa<|zAm<|E_a [] an (I 5) [] ?_ rfl)) (fun k2=>(zAc 1<|zAc 1<|zAc 1<|zAc 3<|zDa 126 ((n.l.getD i default).fst=(n.l.getD k default).snd) (fun k3=>(zAc 1<|zAc 1<|zAc 1<|zAc 4<|zAa<|zAK ((n.l.getD i default).snd=(n.l.getD k default).fst) (by omega)<|zAj<|zAe<|zAc 1<|S_a [(1,.v (I (↑(k+1):Int)))] (ap (wrN k) an)<|zAc 1<|zAa ?_)) (fun k3=>(zAc 7<|zAa<|zAW<|zAj<|zAe<|zAc 1<|S_a [(1,.v (I (↑(k+1):Int)))] (ap (wrN k) an)<|zAc 1<|zAa ?_)))))) (fun k1=>(zAc 7<|zAc 1<|zAc 1<|zAc 1<|zAc 3<|zDa 126 ((n.l.getD i default).fst=(n.l.getD k default).snd) (fun k4=>(zAc 1<|zAc 1<|zAc 1<|zAc 4<|zAa<|zBZ ((n.l.getD i default).snd=(n.l.getD k default).fst) (fun k5=>(zAd 1<|zAa<|zAm<|E_a [] an (I 5) [] ?_ rfl)) (fun k5=>(zAj<|zAe<|zAc 1<|S_a [(1,.v (I (↑(k+1):Int)))] (ap (wrN k) an)<|zAc 1<|zAa ?_)))) (fun k4=>(zAc 7<|zAa<|zAW<|zAj<|zAe<|zAc 1<|S_a [(1,.v (I (↑(k+1):Int)))] (ap (wrN k) an)<|zAc 1<|zAa ?_))))
   all_goals first
    | exact ⟨k+1,⟨by omega,kb (zVw (by omega))⟩,by omega,by kernel_rfl,by kernel_rfl⟩
    | (have h5:=zUJ hA hB jc yB (zXx (by omega));rw [h5])
  ·have yQ:=jG fun j hj=>hb j (by omega)
   clear hb jG
   refine zAg<|zAd 3<|zAa<|zAK ((↑k:Int)<(↑i:Int)) (by omega)<|zAs 6<|zAe<|zAc 1<|S_a [(1,.v (I (↑(i+1):Int)))] (ap (wrN i) an)<|zAc 1<|zAa ?_
   exact ⟨i+1,⟨by omega,yQ⟩,by omega,by kernel_rfl,by kernel_rfl⟩
 have hC:=zVv hA hB fun i hi=>ha i (by omega)
 clear ha hA hB
 refine zAg<|zAd 3<|S_a [(0,.n n.l.length)] (ap (lnS prV n.l) an)<|zAc 1<|zAa<|zAK ((↑i:Int)<(↑n.l.length:Int)) (by omega)<|zAs 4<|zAg<|zAd 1<|zAa<|zAh 8 ?_
 refine zAo (fun i=>i≤n.n.length∧∀ j,j<i→inB (n.n.getD j default).1 (-1) ((j:Int)-1)=true) (fun (i:Nat)=>[(9,I (i:Nat))]) (fun i=>n.n.length-i) (0:Nat) ⟨Nat.zero_le _,fun j hj=>absurd hj (Nat.not_lt_zero j)⟩ fun i ⟨hi,ha⟩=>?_
 by_cases yB:i<n.n.length
 ·have jG:=zGo ha
  clear ha
  refine zAg<|zAd 3<|S_a [(0,.n n.n.length)] (ap (lnS ntV n.n) an)<|zAc 1<|zAa<|zAJ ((↑i:Int)<(↑n.n.length:Int)) (by omega)<|zAj<|zAg<|zAh 9<|zAd 3<|S_a [(2,.v (PV.agg [I (n.n.getD i default).fst,PV.bool (n.n.getD i default).snd]))] (ap (zBx default (by omega):(List.map ntV n.n)[i]? = some (PV.agg [I (n.n.getD i default).fst,PV.bool (n.n.getD i default).snd])) an)<|zAc 3<|S_a [(1,.v (I ((↑i:Int)-1)))] (ap ((zCP rfl (by omega)):I (IntKind.i64.wrap ((↑i:Int)-1))=I ((↑i:Int)-1)) an)<|S_a [(10,.ret (PV.bool !inB (n.n.getD i default).fst (-1) ((↑i:Int)-1)) [])] (ap (f111 ((n.n.getD i default).fst) (-1) ((↑i:Int)-1)) an)<|zAa<|zDf (!inB (n.n.getD i default).fst (-1) ((↑i:Int)-1)) (fun k0=>(zAd 1<|zAa<|zAm<|E_a [] an (I 1) [] ?_ rfl)) (fun k0=>(zAj<|zAe<|zAc 1<|S_a [(1,.v (I (↑(i+1):Int)))] (ap (wrN i) an)<|zAc 1<|zAa ?_))
  ·rw [zU6 hC yB (ntt k0)]
  ·exact ⟨i+1,⟨by omega,jG (ntf k0)⟩,by omega,by kernel_rfl,by kernel_rfl⟩
 have hD:=zYk (n:=n) fun i hi=>ha i (by omega)
 clear ha
 refine zAg<|zAd 3<|S_a [(0,.n n.n.length)] (ap (lnS ntV n.n) an)<|zAc 1<|zAa<|zAK ((↑i:Int)<(↑n.n.length:Int)) (by omega)<|zAs 8<|zAg<|zAd 1<|zAa<|zAh 10 ?_
 refine zAo (fun i=>i≤n.n.length∧∀ j,j<i→∀ k,k<j→¬ ((n.n.getD j default).1≥0∧(n.n.getD j default).1=(n.n.getD k default).1)) (fun (i:Nat)=>[(10,I (i:Nat))]) (fun i=>n.n.length-i) (0:Nat) ⟨Nat.zero_le _,fun j hj=>absurd hj (Nat.not_lt_zero j)⟩ fun i ⟨hi,ha⟩=>?_
 by_cases yB:i<n.n.length
 ·have jG:=zGo ha
  clear ha
  refine zAg<|zAd 3<|S_a [(0,.n n.n.length)] (ap (lnS ntV n.n) an)<|zAc 1<|zAa<|zAJ ((↑i:Int)<(↑n.n.length:Int)) (by omega)<|zAj<|zAg<|zAh 11<|zAd 1<|zAa<|zAh 12 ?_
  refine zAo (fun k=>k≤i∧∀ j,j<k→¬ ((n.n.getD i default).1≥0∧(n.n.getD i default).1=(n.n.getD j default).1)) (fun (k:Nat)=>[(11,I (k:Nat))]) (fun k=>i-k) (0:Nat) ⟨Nat.zero_le _,fun j hj=>absurd hj (Nat.not_lt_zero j)⟩ fun k ⟨hk,hb⟩=>?_
  by_cases jc:k<i
  ·have kb:=zGo hb
   clear hb jG
   refine zAg<|zAd 3<|zAa<|zAJ ((↑k:Int)<(↑i:Int)) (by omega)<|zAj<|zAg<|zAh 13<|zAd 3<|S_a [(2,.v (PV.agg [I (n.n.getD i default).fst,PV.bool (n.n.getD i default).snd]))] (ap (zBx default (by omega):(List.map ntV n.n)[i]? = some (PV.agg [I (n.n.getD i default).fst,PV.bool (n.n.getD i default).snd])) an)<|zAc 4<|zDa 169 ((n.n.getD i default).fst≥0) (fun k1=>(zAc 3<|S_a [(2,.v (PV.agg [I (n.n.getD i default).fst,PV.bool (n.n.getD i default).snd]))] (ap (zBx default (by omega):(List.map ntV n.n)[i]? = some (PV.agg [I (n.n.getD i default).fst,PV.bool (n.n.getD i default).snd])) an)<|zAc 5<|S_a [(2,.v (PV.agg [I (n.n.getD k default).fst,PV.bool (n.n.getD k default).snd]))] (ap (zBx default (by omega):(List.map ntV n.n)[k]? = some (PV.agg [I (n.n.getD k default).fst,PV.bool (n.n.getD k default).snd])) an)<|zAc 4<|zAa<|zBZ ((n.n.getD i default).fst=(n.n.getD k default).fst) (fun k2=>(zAd 1<|zAa<|zAm<|E_a [] an (I 5) [] ?_ rfl)) (fun k2=>(zAj<|zAe<|zAc 1<|S_a [(1,.v (I (↑(k+1):Int)))] (ap (wrN k) an)<|zAc 1<|zAa ?_)))) (fun k1=>(zAc 14<|zAa<|zAW<|zAj<|zAe<|zAc 1<|S_a [(1,.v (I (↑(k+1):Int)))] (ap (wrN k) an)<|zAc 1<|zAa ?_))
   all_goals first
    | exact ⟨k+1,⟨by omega,kb (by omega)⟩,by omega,by kernel_rfl,by kernel_rfl⟩
    | (have h5:=zV8 hC hD jc yB (by assumption) (by assumption);rw [h5])
  ·have yQ:=jG fun j hj=>hb j (by omega)
   clear hb jG
   refine zAg<|zAd 3<|zAa<|zAK ((↑k:Int)<(↑i:Int)) (by omega)<|zAs 12<|zAe<|zAc 1<|S_a [(1,.v (I (↑(i+1):Int)))] (ap (wrN i) an)<|zAc 1<|zAa ?_
   exact ⟨i+1,⟨by omega,yQ⟩,by omega,by kernel_rfl,by kernel_rfl⟩
 have hE:=zWu hD fun i hi=>ha i (by omega)
 clear ha
 refine zAg<|zAd 3<|S_a [(0,.n n.n.length)] (ap (lnS ntV n.n) an)<|zAc 1<|zAa<|zAK ((↑i:Int)<(↑n.n.length:Int)) (by omega)<|zAs 10<|zAg<|zAd 1<|zAa<|zAh 14 ?_
 refine zAo (fun s=>s≤n.s.length∧∀ j,j<s→zIB n.h (n.s.getD j [])=true) (fun (s:Nat)=>[(12,I (s:Nat))]) (fun s=>n.s.length-s) (0:Nat) ⟨Nat.zero_le _,fun j hj=>absurd hj (Nat.not_lt_zero j)⟩ fun s ⟨hi,ha⟩=>?_
 by_cases yB:s<n.s.length
 ·have jG:=zGo ha
  have ug:=zBz (d:=[]) hs.hr s yB
  clear ha
  refine zAg<|zAd 3<|S_a [(0,.n n.s.length)] (ap (lnS zAw n.s) an)<|zAc 1<|zAa<|zAJ ((↑s:Int)<(↑n.s.length:Int)) (by omega)<|zAj<|zAg<|zAh 15<|zAd 1<|zAa<|zAh 16 ?_
  refine zAo (fun k=>k≤(n.s.getD s []).length∧∀ j,j<k→inB ((n.s.getD s []).getD j 0) 0 (n.h-1)=true) (fun (k:Nat)=>[(13,I (k:Nat))]) (fun k=>(n.s.getD s []).length-k) (0:Nat) ⟨Nat.zero_le _,fun j hj=>absurd hj (Nat.not_lt_zero j)⟩ fun k ⟨hk,hb⟩=>?_
  by_cases jc:k<(n.s.getD s []).length
  ·have kb:=zGo hb
   clear hb jG
   refine zAg<|zAd 4<|S_a [(2,.v (zAw (n.s.getD s [])))] (ap (zBx [] (by omega):(List.map zAw n.s)[s]? = some (zAw (n.s.getD s []))) an)<|zAc 1<|S_a [(0,.n ((n.s.getD s []).length))] (ap (lnS I (n.s.getD s [])) an)<|zAc 1<|zAa<|zAJ ((↑k:Int)<(↑(n.s.getD s []).length:Int)) (by omega)<|zAj<|zAg<|zAh 17<|zAd 3<|S_a [(2,.v (zAw (n.s.getD s [])))] (ap (zBx [] (by omega):(List.map zAw n.s)[s]? = some (zAw (n.s.getD s []))) an)<|zAc 2<|S_a [(2,.v (I ((n.s.getD s []).getD k 0)))] (ap (zBx (0) (by omega):(List.map I (n.s.getD s []))[k]? = some (I ((n.s.getD s []).getD k 0))) an)<|zAc 3<|S_a [(1,.v (I (n.h-1)))] (ap ((zCP rfl (by omega)):I (IntKind.i64.wrap (n.h-1))=I (n.h-1)) an)<|S_a [(10,.ret (PV.bool !inB ((n.s.getD s []).getD k 0) 0 (n.h-1)) [])] (ap (f111 ((n.s.getD s []).getD k 0) (0) (n.h-1)) an)<|zAa<|zDf (!inB ((n.s.getD s []).getD k 0) 0 (n.h-1)) (fun k1=>(zAd 1<|zAa<|zAm<|E_a [] an (I 1) [] ?_ rfl)) (fun k1=>(zAj<|zAe<|zAc 1<|S_a [(1,.v (I (↑(k+1):Int)))] (ap (wrN k) an)<|zAc 1<|zAa ?_))
   ·rw [zVW hC hE yB jc (ntt k1)]
   ·exact ⟨k+1,⟨by omega,kb (ntf k1)⟩,by omega,by kernel_rfl,by kernel_rfl⟩
  ·have yQ:=jG (zJd (d:=0) fun j hj=>hb j (by omega))
   clear hb jG
   refine zAg<|zAd 4<|S_a [(2,.v (zAw (n.s.getD s [])))] (ap (zBx [] (by omega):(List.map zAw n.s)[s]? = some (zAw (n.s.getD s []))) an)<|zAc 1<|S_a [(0,.n ((n.s.getD s []).length))] (ap (lnS I (n.s.getD s [])) an)<|zAc 1<|zAa<|zAK ((↑k:Int)<(↑(n.s.getD s []).length:Int)) (by omega)<|zAs 16<|zAe<|zAc 1<|S_a [(1,.v (I (↑(s+1):Int)))] (ap (wrN s) an)<|zAc 1<|zAa ?_
   exact ⟨s+1,⟨by omega,yQ⟩,by omega,by kernel_rfl,by kernel_rfl⟩
 have hF:(n.s.all fun x=>zIB n.h x)=true:=zJd (d:=[]) fun i hi=>ha i (by omega)
 clear ha
 refine zAg<|zAd 3<|S_a [(0,.n n.s.length)] (ap (lnS zAw n.s) an)<|zAc 1<|zAa<|zAK ((↑s:Int)<(↑n.s.length:Int)) (by omega)<|zAs 14<|zAg<|zAd 1<|zAa<|zAh 18 ?_
 refine zAo (fun s=>s≤n.s.length∧∀ j,j<s→zDl (n.s.getD j [])=true) (fun (s:Nat)=>[(14,I (s:Nat))]) (fun s=>n.s.length-s) (0:Nat) ⟨Nat.zero_le _,fun j hj=>absurd hj (Nat.not_lt_zero j)⟩ fun s ⟨hi,ha⟩=>?_
 by_cases yB:s<n.s.length
 ·have jG:=zGo ha
  have ug:=zBz (d:=[]) hs.hr s yB
  clear ha
  refine zAg<|zAd 3<|S_a [(0,.n n.s.length)] (ap (lnS zAw n.s) an)<|zAc 1<|zAa<|zAJ ((↑s:Int)<(↑n.s.length:Int)) (by omega)<|zAj<|zAg<|zAh 19<|zAd 1<|zAa<|zAh 20 ?_
  refine zAo (fun m=>(m=0∨m+1≤(n.s.getD s []).length)∧∀ j,j<m→(n.s.getD s []).getD j 0<(n.s.getD s []).getD (j+1) 0) (fun (m:Nat)=>[(15,I ((m+1:Nat):Int))]) (fun m=>(n.s.getD s []).length-m) (0:Nat) ⟨.inl rfl,fun j hj=>absurd hj (Nat.not_lt_zero j)⟩ fun m ⟨hk,hb⟩=>?_
  by_cases jc:m+1<(n.s.getD s []).length
  ·have kb:=zGo hb
   clear hb jG
   refine zAg<|zAd 4<|S_a [(2,.v (zAw (n.s.getD s [])))] (ap (zBx [] (by omega):(List.map zAw n.s)[s]? = some (zAw (n.s.getD s []))) an)<|zAc 1<|S_a [(0,.n ((n.s.getD s []).length))] (ap (lnS I (n.s.getD s [])) an)<|zAc 1<|zAa<|zAJ ((↑(m+1):Int)<(↑(n.s.getD s []).length:Int)) (by omega)<|zAj<|zAg<|zAh 21<|zAd 3<|S_a [(2,.v (zAw (n.s.getD s [])))] (ap (zBx [] (by omega):(List.map zAw n.s)[s]? = some (zAw (n.s.getD s []))) an)<|zAc 2<|S_a [(1,.v (I (↑(m+1-1):Int)))] (ap ((zCP (by omega) (by omega)):I (IntKind.i64.wrap ((↑(m+1):Int)-1))=I (↑(m+1-1):Int)) an)<|S_a [(2,.v (I ((n.s.getD s []).getD m 0)))] (ap (zBx (0) (by omega):(List.map I (n.s.getD s []))[m]? = some (I ((n.s.getD s []).getD m 0))) an)<|zAc 4<|S_a [(2,.v (zAw (n.s.getD s [])))] (ap (zBx [] (by omega):(List.map zAw n.s)[s]? = some (zAw (n.s.getD s []))) an)<|zAc 2<|S_a [(2,.v (I ((n.s.getD s []).getD (m+1) 0)))] (ap (zBx (0) (by omega):(List.map I (n.s.getD s []))[m+1]? = some (I ((n.s.getD s []).getD (m+1) 0))) an)<|zAc 2<|zAa<|zBZ ((n.s.getD s []).getD m 0≥(n.s.getD s []).getD (m+1) 0) (fun k0=>(zAd 1<|zAa<|zAm<|E_a [] an (I 4) [] ?_ rfl)) (fun k0=>(zAj<|zAe<|zAc 1<|S_a [(1,.v (I (↑(m+1+1):Int)))] (ap ((zCP (by omega) (by omega)):I (IntKind.i64.wrap ((↑(m+1):Int)+1))=I (↑(m+1+1):Int)) an)<|zAc 1<|zAa ?_))
   ·rw [zUG hC hE hF yB jc k0]
   ·exact ⟨m+1,⟨.inr (by omega),kb (by omega)⟩,by omega,by kernel_rfl,by kernel_rfl⟩
  ·have yQ:=jG (zW4 fun j hj=>hb j (by omega))
   clear hb jG
   refine zAg<|zAd 4<|S_a [(2,.v (zAw (n.s.getD s [])))] (ap (zBx [] (by omega):(List.map zAw n.s)[s]? = some (zAw (n.s.getD s []))) an)<|zAc 1<|S_a [(0,.n ((n.s.getD s []).length))] (ap (lnS I (n.s.getD s [])) an)<|zAc 1<|zAa<|zAK ((↑(m+1):Int)<(↑(n.s.getD s []).length:Int)) (by omega)<|zAs 20<|zAe<|zAc 1<|S_a [(1,.v (I (↑(s+1):Int)))] (ap (wrN s) an)<|zAc 1<|zAa ?_
   exact ⟨s+1,⟨by omega,yQ⟩,by omega,by kernel_rfl,by kernel_rfl⟩
 have hG:(n.s.all fun x=>zDl x)=true:=zJd (d:=[]) fun i hi=>ha i (by omega)
 have hR:=zWP hC hE hF hG
 clear ha
 refine zAg<|zAd 3<|S_a [(0,.n n.s.length)] (ap (lnS zAw n.s) an)<|zAc 1<|zAa<|zAK ((↑s:Int)<(↑n.s.length:Int)) (by omega)<|zAs 18<|zAd 1<|zAa<|zAm<|E_a [] an (I 0) [] (by simp [*]) rfl
end Go.Eng
set_option maxRecDepth 10000
set_option maxHeartbeats 4000000
namespace Go.Eng
open Go Go.Proofs
theorem f39 (n:Nw) (cs:List (Int×Int)) (hs:Small n) (hl:cs.length<1000000):FG 39 [nwV n,prs cs] (I (zDD n cs)):=by
 have h2:=hs.hn
 have h3:=hs.hs
 refine zAf Tryz.f39 ?_
 by_cases he:zC2 n=0
 ·have hn:=zS8 he
  refine zAd 2<|zAa<|zAg<|zAd 1<|S_a [(6,.ret (I (zC2 n)) [])] (ap (f117 n (by omega)) an)<|zAc 1<|zAa<|zAd 2<|zAa<|zFF (zC2 n=0) (by omega)<|zAj<|zAg<|zAd 1<|S_a [(0,.n cs.length)] (ap (lnS prV cs) an)<|zAc 1<|zAa<|zBZ ((↑cs.length:Int)>16) (fun k0=>(zAd 1<|zAa<|zAm<|E_a [] an (I 2) [] ?_ rfl)) (fun k0=>(zAj<|zAg<|zAd 1<|zAa<|zAh 0 ?_))
  ·simp only [zDD,he,k0,if_true]
  have hx:zDD n cs=if (!cs.all fun c=>zEt n c)=true then 1 else 0:=by simp only [zDD,he,k0,if_true,if_false]
  rw [hx]
  refine zAo (fun i=>i≤cs.length∧∀ j,j<i→zEt n (cs.getD j default)=true) (fun (i:Nat)=>[(6,I (i:Nat))]) (fun i=>cs.length-i) (0:Nat) ⟨Nat.zero_le _,fun j hj=>absurd hj (Nat.not_lt_zero j)⟩ fun i ⟨hi,ha⟩=>?_
  by_cases yB:i<cs.length
  ·have jG:=zGo ha
   clear ha
   refine zAg<|zAd 2<|S_a [(0,.n cs.length)] (ap (lnS prV cs) an)<|zAc 1<|zAa<|zAJ ((↑i:Int)<(↑cs.length:Int)) (by omega)<|zAj<|zAg<|zAh 1<|zAd 2<|S_a [(2,.v (PV.agg [I (cs.getD i default).fst,I (cs.getD i default).snd]))] (ap (zBx default (by omega):(List.map prV cs)[i]? = some (PV.agg [I (cs.getD i default).fst,I (cs.getD i default).snd])) an)<|zAc 4<|S_a [(0,.n n.n.length)] (ap (lnS ntV n.n) an)<|S_a [(1,.v (I ((↑n.n.length:Int)-1)))] (ap ((zCP rfl (by omega)):I (IntKind.i64.wrap ((↑n.n.length:Int)-1))=I ((↑n.n.length:Int)-1)) an)<|S_a [(10,.ret (PV.bool !inB (cs.getD i default).fst 0 ((↑n.n.length:Int)-1)) [])] (ap (f111 ((cs.getD i default).fst) (0) ((↑n.n.length:Int)-1)) an)<|zAc 1<|zDt 31 (!inB (cs.getD i default).fst 0 ((↑n.n.length:Int)-1)) (fun k1=>(zAc 11<|zAa<|zBM<|zAd 1<|zAa<|zAm<|E_a [] an (I 1) [] ?_ rfl)) (fun k1=>(zAc 2<|S_a [(2,.v (PV.agg [I (cs.getD i default).fst,I (cs.getD i default).snd]))] (ap (zBx default (by omega):(List.map prV cs)[i]? = some (PV.agg [I (cs.getD i default).fst,I (cs.getD i default).snd])) an)<|zAc 4<|S_a [(0,.n n.s.length)] (ap (lnS zAw n.s) an)<|S_a [(1,.v (I ((↑n.s.length:Int)-1)))] (ap ((zCP rfl (by omega)):I (IntKind.i64.wrap ((↑n.s.length:Int)-1))=I ((↑n.s.length:Int)-1)) an)<|S_a [(10,.ret (PV.bool !inB (cs.getD i default).snd 0 ((↑n.s.length:Int)-1)) [])] (ap (f111 ((cs.getD i default).snd) (0) ((↑n.s.length:Int)-1)) an)<|zAc 1<|zAa<|zDf (!inB (cs.getD i default).snd 0 ((↑n.s.length:Int)-1)) (fun k2=>(zAd 1<|zAa<|zAm<|E_a [] an (I 1) [] ?_ rfl)) (fun k2=>(zAj<|zAe<|zAc 1<|S_a [(1,.v (I (↑(i+1):Int)))] (ap (wrN i) an)<|zAc 1<|zAa ?_))))
   ·rw [zH0 (d:=default) yB (by simp only [zEt,ntt k1,Bool.false_and])];rfl
   ·rw [zH0 (d:=default) yB (by simp only [zEt,ntt k2,Bool.and_false])];rfl
   ·exact ⟨i+1,⟨by omega,jG (by simp only [zEt,ntf k1,ntf k2,Bool.true_and])⟩,by omega,by kernel_rfl,by kernel_rfl⟩
  have hA:(cs.all fun c=>zEt n c)=true:=zJd fun i hi=>ha i (by omega)
  clear ha
  rw [hA]
  refine zAg<|zAd 2<|S_a [(0,.n cs.length)] (ap (lnS prV cs) an)<|zAc 1<|zAa<|zAK ((↑i:Int)<(↑cs.length:Int)) (by omega)<|zAs 0<|zAd 1<|zAa<|zAm<|E_a [] an (I 0) [] rfl rfl
 ·refine zAd 2<|zAa<|zAg<|zAd 1<|S_a [(6,.ret (I (zC2 n)) [])] (ap (f117 n (by omega)) an)<|zAc 1<|zAa<|zAd 2<|zAa<|zCH (zC2 n=0) (by omega)<|zAd 2<|zAa<|zAm<|E_a [] an (I (zC2 n)) [] ?_ rfl
  simp only [zDD,he,if_false]
theorem f93 (n:Nw) (cs:List (Int×Int)) (e:Int) (hs:Small n) (hl:cs.length<1000000):FG 93 [nwV n,prs cs,I e] (I (zBT n cs e)):=by
 refine zAf Tryz.f93 ?_
 by_cases he:zDD n cs=0
 ·refine zAd 2<|zAa<|zAg<|zAd 2<|S_a [(8,.ret (I (zDD n cs)) [])] (ap (f39 n cs (by omega) (by omega)) an)<|zAc 1<|zAa<|zAd 2<|zAa<|zFF (zDD n cs=0) (by omega)<|zAj<|zAg<|zAd 1<|S_a [(10,.ret (PV.bool !inB e 0 12) [])] (ap (f111 e (0) (12)) an)<|zAa<|zDf (!inB e 0 12) (fun k0=>(zAd 1<|zAa<|zAm<|E_a [] an (I 3) [] ?_ rfl)) (fun k0=>(zAj<|zAd 1<|zAa<|zAm<|E_a [] an (I 0) [] ?_ rfl))
  ·simp only [zBT,he,ntt k0,if_true];rfl
  ·simp only [zBT,he,ntf k0,if_true]
 ·refine zAd 2<|zAa<|zAg<|zAd 2<|S_a [(8,.ret (I (zDD n cs)) [])] (ap (f39 n cs (by omega) (by omega)) an)<|zAc 1<|zAa<|zAd 2<|zAa<|zCH (zDD n cs=0) (by omega)<|zAd 2<|zAa<|zAm<|E_a [] an (I (zDD n cs)) [] ?_ rfl
  simp only [zBT,he,if_false]
theorem f23_1 (n:Nw) (cs:List (Int×Int)) (e:Int) (ho:EvOk n cs e):FG 23 [nwV n,prs cs,I e] (.tup [.own 2 ((zAT n (zAL n cs e.toNat)).map prV),I 0]):=by
 have hc:=ho.cr
 have kg:=hc.w
 have hn:=hc.nw
 have jk:=hn.small
 have he:=ho.ev
 have jC:=ho.err
 have hX:=hc.len
 have ug:∃ w,RelK n (zGt n cs e.toNat) w:=⟨_,zHP kg _⟩
 rw [← zWz hn (zHP kg e.toNat)]
 refine zAf Tryz.f23 ?_
 refine zAd 3<|zAa<|zAg<|zAd 3<|S_a [(10,.ret (I (zBT n cs e)) [])] (ap (f93 n cs e (by omega) (by omega)) an)<|zAc 1<|zAa<|zAd 2<|zAa<|zFF (zBT n cs e=0) (by omega)<|zAj<|zAd 4<|S_a [(10,.ret (PV.own 1 (List.map lsB (zGt n cs e.toNat))) [])] (ap (f95 n cs e (by omega) (by omega)) an)<|S_a [(5,.ob),(0,.v (PV.sl (List.map bls (zGt n cs e.toNat)))),(2,.ret (PV.own 2 (List.map prV (gpN n (zGt n cs e.toNat) n.h.toNat))) []),(1,.yes)] (ap (blz (List.map lsB (zGt n cs e.toNat)))<|ap (frC lsB bls (zGt n cs e.toNat))<|ap (f94 n (zGt n cs e.toNat) (by omega) (by omega))<|ap ((by exact zBF _):(PV.own 2 (List.map prV (gpN n (zGt n cs e.toNat) n.h.toNat))).free=true) an)<|zAc 2<|zAa<|zAm<|E_a [(1,.yes),(1,.v (PV.own 2 (List.map prV (gpN n (zGt n cs e.toNat) n.h.toNat))))] (ap (blz (List.map prV (gpN n (zGt n cs e.toNat) n.h.toNat)))<|ap ((zAE zAz):PV.own 2 (List.take (List.map prV (gpN n (zGt n cs e.toNat) n.h.toNat)).length (List.drop 0 (List.map prV (gpN n (zGt n cs e.toNat) n.h.toNat))))=PV.own 2 (List.map prV (gpN n (zGt n cs e.toNat) n.h.toNat))) an) (PV.tup [PV.own 2 (List.map prV (gpN n (zGt n cs e.toNat) n.h.toNat)),I 0]) [] rfl rfl
theorem f23_2 (n:Nw) (cs:List (Int×Int)) (e:Int) (hs:Small n) (hl:cs.length<1000000) (ho:¬ zBT n cs e=0):FG 23 [nwV n,prs cs,I e] (.tup [.own 2 [],I (zBT n cs e)]):=by
 refine zAf Tryz.f23 ?_
 refine zAd 3<|zAa<|zAg<|zAd 3<|S_a [(10,.ret (I (zBT n cs e)) [])] (ap (f93 n cs e (by omega) (by omega)) an)<|zAc 1<|zAa<|zAd 2<|zAa<|zCH (zBT n cs e=0) (by omega)<|zAd 3<|zAa<|zAm<|E_a [] an (PV.tup [PV.own 2 [],I (zBT n cs e)]) [] rfl rfl
end Go.Eng
set_option maxRecDepth 10000
set_option maxHeartbeats 4000000
namespace Go.Eng
open Go Go.Proofs
theorem zSY {α:Type} {p:α→Bool} {l:List α} {i:Nat} {d:α} (h:i<l.length):(l.take (i+1)).any p=((l.take i).any p||p (l.getD i d)):=by
 rw [zBP (d:=d) h,List.any_append,List.any_cons,List.any_nil,Bool.or_false]
end Go.Eng
set_option maxRecDepth 10000
set_option maxHeartbeats 4000000
namespace Go.Eng
open Go Go.Proofs
theorem f172 (l:List (Int×Int)) (c:Int×Int) (hl:l.length<1000000):FG 172 [prs l,prV c] (.own 2 ((l++[c]).map prV)):=by
 refine zAf Tryz.f172 ?_
 refine zAd 2<|zAa<|zAd 2<|S_a [(0,.ob),(0,.ob),(0,.ob),(3,.ob)] (ap ((by exact all_map _):((List.map prV l).all fun x=>x.plain)=true)<|ap ((by exact all_map _):((List.map prV l).all fun y=>y.cells.length.beq ((fun x=>x.size) Tryz.prog.types[73])&&y.cells.all fun q=>q.oneCell)=true)<|ap ((by exact List.isEmpty_iff.2 (zJL _)):(zBt (List.map prV l)).isEmpty=true)<|ap ((by exact zA9 (by simp only [List.length_map,zzLn,zA1]<;>omega)):(0+(List.map prV l).length).ble zA1=true) an)<|zAc 2<|S_a [(4,.ob),(0,.ob),(0,.yes),(2,.v (PV.own 2 (List.map prV (l++[c]))))] (ap (blz ([]++List.map prV l))<|ap ((by exact zA9 (by simp only [List.length_map,zzLn,zA1]<;>omega)):(([]++List.map prV l).length + [PV.agg [I c.fst,I c.snd]].length).ble zA1=true)<|ap ((by exact zBj (by simp<;>omega)):(0+([]++List.map prV l).length).beq ([]++List.map prV l).length=true)<|ap ((zAE (zB0 (by kernel_rfl))):PV.own 2 ([]++List.map prV l++[PV.agg [I c.fst,I c.snd]])=PV.own 2 (List.map prV (l++[c]))) an)<|zAc 1<|zAa<|zAm<|E_a [(1,.yes),(1,.v (PV.own 2 (List.map prV (l++[c]))))] (ap (blz (List.map prV (l++[c])))<|ap ((zAE zAz):PV.own 2 (List.take (List.map prV (l++[c])).length (List.drop 0 (List.map prV (l++[c]))))=PV.own 2 (List.map prV (l++[c]))) an) (PV.own 2 (List.map prV (l++[c]))) [] rfl rfl
theorem f120 (n:Nw) (cs:List (Int×Int)) (e:Int) (c:Int×Int) (l:List (Int×Int)) (ho:CrW n cs) (hl:cs.length≤16) (he:0≤e∧e≤1000) (qG:l.length≤1000) (hm:∀ g∈l,zVO n g) (hc:(0≤c.1∧c.1<n.n.length)∧(0≤c.2∧c.2<n.s.length)):FG 120 [nwV n,prs cs,I e,prV c,prs l] (.own 2 ((zCn n (zAL n (cs++[c]) e.toNat) l).map prV)):=by
 have uT:=zPn ho (by omega) hc
 have hn:=ho.nw
 rw [← zXk uT e.toNat hm]
 have ug:∃ w,RelK n (zGt n (cs++[c]) e.toNat) w:=⟨_,zHP uT _⟩
 have kK:(zGt n (cs++[c]) e.toNat).length=n.h.toNat:=by obtain ⟨_,h⟩:=ug;exact h.len
 have hAf:=f95 n (cs++[c]) e uT he
 generalize hK:zGt n (cs++[c]) e.toNat=K at *
 clear hK
 refine zAf Tryz.f120 ?_
 refine zAd 3<|zAa<|zAd 3<|S_a [(8,.ret (PV.own 2 (List.map prV (cs++[c]))) [])] (ap (f172 cs c (by omega)) an)<|zAc 1<|S_a [(5,.ob),(0,.v (prs (cs++[c]))),(4,.ret (PV.own 1 (List.map lsB K)) []),(1,.yes)] (ap (blz (List.map prV (cs++[c])))<|ap (frT prV (cs++[c]))<|ap hAf<|ap (?_:(PV.own 1 (List.map lsB K)).free=true) an)<|zAc 1<|zAa<|zAd 1<|zAa<|zAg<|zAd 1<|zAa<|zAh 0 ?_
 ·exact zKn _
 refine zAo (fun (i,q)=>i≤l.length∧q=(l.take i).filter (mdK n K)) (fun ((i:Nat),(q:List (Int×Int)))=>[(12,.own 2 (q.map prV)),(13,I (i:Nat))]) (fun (i,_)=>l.length-i) ((0:Nat),([]:List (Int×Int))) ⟨Nat.zero_le _,rfl⟩ fun (i,q) ⟨hi,hq⟩=>?_
 have km:q.length≤i:=by rw [hq];exact Nat.le_trans (List.length_filter_le _ _) (by rw [List.length_take];omega)
 by_cases yB:i<l.length
 ·have yU:=zFn (mdK n K) l i default yB
  rw [← hq] at yU
  obtain ⟨kD,wM⟩:=zBz (d:=default) hm i yB
  have hH:FG 113 [nwV n,knV K,I (l.getD i default).1,I (l.getD i default).2] (.bool (zLS n K (l.getD i default).1.toNat (l.getD i default).2.toNat)):=by
   have:=f113 n K (l.getD i default).1.toNat (l.getD i default).2.toNat hn ug (by omega) (by omega)
   rwa [Int.toNat_of_nonneg kD.1,Int.toNat_of_nonneg wM.1] at this
  clear hq hm hAf
  have hp:∀ b:Bool,(!zLS n K (l.getD i default).1.toNat (l.getD i default).2.toNat)=b→mdK n K (l.getD i default)=b:=fun b h=>h
  refine zAg<|zAd 2<|S_a [(0,.n l.length)] (ap (lnS prV l) an)<|zAc 1<|zAa<|zAJ ((↑i:Int)<(↑l.length:Int)) (by omega)<|zAj<|zAg<|zAh 1<|zAd 4<|S_a [(2,.v (PV.agg [I (l.getD i default).fst,I (l.getD i default).snd]))] (ap (zBx default (by omega):(List.map prV l)[i]? = some (PV.agg [I (l.getD i default).fst,I (l.getD i default).snd])) an)<|zAc 4<|S_a [(2,.v (PV.agg [I (l.getD i default).fst,I (l.getD i default).snd]))] (ap (zBx default (by omega):(List.map prV l)[i]? = some (PV.agg [I (l.getD i default).fst,I (l.getD i default).snd])) an)<|zAc 2<|S_a [(5,.ob),(0,.v (PV.sl (List.map bls K))),(6,.ret (PV.bool (zLS n K (l.getD i default).fst.toNat (l.getD i default).snd.toNat)) [])] (ap (blz (List.map lsB K))<|ap (frC lsB bls K)<|ap hH an)<|zAc 1<|zAa<|zDf (!zLS n K (l.getD i default).fst.toNat (l.getD i default).snd.toNat) (fun k0=>(zAe<|zAc 3<|S_a [(2,.v (PV.agg [I (l.getD i default).fst,I (l.getD i default).snd]))] (ap (zBx default (by omega):(List.map prV l)[i]? = some (PV.agg [I (l.getD i default).fst,I (l.getD i default).snd])) an)<|zAc 2<|S_a [(4,.ob),(0,.ob),(0,.yes),(2,.v (PV.own 2 (List.map prV (q++[l.getD i default]))))] (ap (blz (List.map prV q))<|ap ((by exact zA9 (by simp only [List.length_map,zzLn,zA1]<;>omega)):((List.map prV q).length + [PV.agg [I (l.getD i default).fst,I (l.getD i default).snd]].length).ble zA1=true)<|ap ((by exact zBj (by simp<;>omega)):(0+(List.map prV q).length).beq (List.map prV q).length=true)<|ap ((zAE (zB0 (by kernel_rfl))):PV.own 2 (List.map prV q++[PV.agg [I (l.getD i default).fst,I (l.getD i default).snd]])=PV.own 2 (List.map prV (q++[l.getD i default]))) an)<|zAc 1<|zAa<|zAe<|zAc 1<|S_a [(1,.v (I (↑(i+1):Int)))] (ap (wrN i) an)<|zAc 1<|zAa ?_)) (fun k0=>(zAj<|zAe<|zAc 1<|S_a [(1,.v (I (↑(i+1):Int)))] (ap (wrN i) an)<|zAc 1<|zAa ?_))
  ·rw [if_pos (hp _ k0)] at yU
   exact ⟨(i+1,q++[l.getD i default]),⟨by omega,yU.symm⟩,by simp only;omega,by kernel_rfl,by kernel_rfl⟩
  ·rw [if_neg (by rw [hp _ k0];simp)] at yU
   exact ⟨(i+1,q),⟨by omega,yU.symm⟩,by simp only;omega,by kernel_rfl,by kernel_rfl⟩
 ·rw [List.take_of_length_le (by omega)] at hq
  rw [← hq]
  clear hq hm hAf
  refine zAg<|zAd 2<|S_a [(0,.n l.length)] (ap (lnS prV l) an)<|zAc 1<|zAa<|zAK ((↑i:Int)<(↑l.length:Int)) (by omega)<|zAs 0<|zAd 1<|S_a [(2,.yes)] (ap ((by exact zBj (by simp<;>omega)):(Nat.beq 0 0&&(List.map prV q).length.beq (List.map prV q).length)=true) an)<|zAa<|zAm<|E_a [(1,.yes),(1,.v (PV.own 2 (List.map prV q)))] (ap (blz (List.map prV q))<|ap ((zAE zAz):PV.own 2 (List.take (List.map prV q).length (List.drop 0 (List.map prV q)))=PV.own 2 (List.map prV q)) an) (PV.own 2 (List.map prV q)) [] rfl rfl
theorem f43_1 (n:Nw) (cs:List (Int×Int)) (e:Int) (c:Int×Int) (ho:EvOk n cs e) (hc:zEt n c=true):FG 43 [nwV n,prs cs,I e,prV c] (.tup [.own 2 ((zCn n (zAL n (cs++[c]) e.toNat) (zAT n (zAL n cs e.toNat))).map prV),I 0]):=by
 have jf:=ho.cr
 have kg:=jf.w
 have hn:=jf.nw
 have ui:=jf.len
 have he:=ho.ev
 have ka:=hn.nl
 have hs6:=hn.sl
 have gb:=zDi (w:=zAL n cs e.toNat) hn
 have jm:∀ g∈zAT n (zAL n cs e.toNat),zVO n g:=zNE
 have je:(0≤c.1∧c.1<n.n.length)∧(0≤c.2∧c.2<n.s.length):=by
  simp only [zEt,Bool.and_eq_true] at hc
  have h1:=zC6 hc.1
  have h2:=zC6 hc.2
  omega
 have hmd:=f120 n cs e c _ kg ui (by omega) (by omega) jm je
 have hlf:=f23_1 n cs e ho
 generalize zCn n (zAL n (cs++[c]) e.toNat) (zAT n (zAL n cs e.toNat))=R at *
 generalize zAT n (zAL n cs e.toNat)=G at *
 clear jm
 refine zAf Tryz.f43 ?_
 refine zAd 4<|zAa<|zAd 3<|S_a [(10,.ret (PV.tup [PV.own 2 (List.map prV G),I 0]) [])] (ap hlf an)<|zAc 5<|zAa<|zAg<|zAd 2<|zAa<|zAW<|zAj<|zAg<|zAd 4<|S_a [(0,.n n.n.length)] (ap (lnS ntV n.n) an)<|S_a [(1,.v (I (↑(n.n.length-1):Int)))] (ap ((zCP (by omega) (by omega)):I (IntKind.i64.wrap ((↑n.n.length:Int)-1))=I (↑(n.n.length-1):Int)) an)<|S_a [(10,.ret (PV.bool !inB c.fst 0 (↑(n.n.length-1):Int)) [])] (ap (f111 c.fst (0) ((↑(n.n.length-1):Int))) an)<|zAc 1<|zDt 29 (!inB c.fst 0 (↑(n.n.length-1):Int)) (fun k0=>(zAc 8<|zAa<|zBM<|zAd 2<|zAa<|zAm<|E_a [] an (PV.tup [PV.own 2 [],I 1]) [] ?_ rfl)) (fun k0=>(zAc 4<|S_a [(0,.n n.s.length)] (ap (lnS zAw n.s) an)<|S_a [(1,.v (I (↑(n.s.length-1):Int)))] (ap ((zCP (by omega) (by omega)):I (IntKind.i64.wrap ((↑n.s.length:Int)-1))=I (↑(n.s.length-1):Int)) an)<|S_a [(10,.ret (PV.bool !inB c.snd 0 (↑(n.s.length-1):Int)) [])] (ap (f111 c.snd (0) ((↑(n.s.length-1):Int))) an)<|zAc 1<|zAa<|zDf (!inB c.snd 0 (↑(n.s.length-1):Int)) (fun k1=>(zAd 2<|zAa<|zAm<|E_a [] an (PV.tup [PV.own 2 [],I 1]) [] ?_ rfl)) (fun k1=>(zAj<|zAd 5<|S_a [(11,.ob),(0,.v (prs G)),(2,.ret (PV.own 2 (List.map prV R)) []),(1,.yes)] (ap (blz (List.map prV G))<|ap (frT prV G)<|ap hmd<|ap ((by exact zBF _):(PV.own 2 (List.map prV R)).free=true) an)<|zAc 2<|zAa<|zAm<|E_a [(1,.yes),(1,.v (PV.own 2 (List.map prV R)))] (ap (blz (List.map prV R))<|ap ((zAE zAz):PV.own 2 (List.take (List.map prV R).length (List.drop 0 (List.map prV R)))=PV.own 2 (List.map prV R)) an) (PV.tup [PV.own 2 (List.map prV R),I 0]) [] rfl rfl))))
 ·exfalso
  simp only [Bool.not_eq_true',inB,Bool.and_eq_false_iff,decide_eq_false_iff_not] at k0
  omega
 ·exfalso
  simp only [Bool.not_eq_true',inB,Bool.and_eq_false_iff,decide_eq_false_iff_not] at k1
  omega
theorem f43_2 (n:Nw) (cs:List (Int×Int)) (e:Int) (c:Int×Int) (ho:EvOk n cs e) (hc:zEt n c=false):FG 43 [nwV n,prs cs,I e,prV c] (.tup [.own 2 [],I 1]):=by
 have hn:=ho.cr.nw
 have ka:=hn.nl
 have hs6:=hn.sl
 have hlf:=f23_1 n cs e ho
 refine zAf Tryz.f43 ?_
 refine zAd 4<|zAa<|zAd 3<|S_a [(10,.ret (PV.tup [PV.own 2 (List.map prV (zAT n (zAL n cs e.toNat))),I 0]) [])] (ap hlf an)<|zAc 5<|zAa<|zAg<|zAd 2<|zAa<|zAW<|zAj<|zAg<|zAd 4<|S_a [(0,.n n.n.length)] (ap (lnS ntV n.n) an)<|S_a [(1,.v (I (↑(n.n.length-1):Int)))] (ap ((zCP (by omega) (by omega)):I (IntKind.i64.wrap ((↑n.n.length:Int)-1))=I (↑(n.n.length-1):Int)) an)<|S_a [(10,.ret (PV.bool !inB c.fst 0 (↑(n.n.length-1):Int)) [])] (ap (f111 c.fst (0) ((↑(n.n.length-1):Int))) an)<|zAc 1<|zDt 29 (!inB c.fst 0 (↑(n.n.length-1):Int)) (fun k0=>(zAc 8<|zAa<|zBM<|zAd 2<|zAa<|zAm<|E_a [] an (PV.tup [PV.own 2 [],I 1]) [] rfl rfl)) (fun k0=>(zAc 4<|S_a [(0,.n n.s.length)] (ap (lnS zAw n.s) an)<|S_a [(1,.v (I (↑(n.s.length-1):Int)))] (ap ((zCP (by omega) (by omega)):I (IntKind.i64.wrap ((↑n.s.length:Int)-1))=I (↑(n.s.length-1):Int)) an)<|S_a [(10,.ret (PV.bool !inB c.snd 0 (↑(n.s.length-1):Int)) [])] (ap (f111 c.snd (0) ((↑(n.s.length-1):Int))) an)<|zAc 1<|zAa<|zDf (!inB c.snd 0 (↑(n.s.length-1):Int)) (fun k1=>(zAd 2<|zAa<|zAm<|E_a [] an (PV.tup [PV.own 2 [],I 1]) [] rfl rfl)) (fun k1=>(zAj<|zAd 5<|S_a [(11,.ob),(0,.v (prs (zAT n (zAL n cs e.toNat)))),(2,.ret (PV.own 2 (List.map prV (zCn n (zAL n (cs++[c]) e.toNat) (zAT n (zAL n cs e.toNat))))) []),(1,.yes)] (ap (blz (List.map prV (zAT n (zAL n cs e.toNat))))<|ap (frT prV (zAT n (zAL n cs e.toNat)))<|ap (f120 n cs e c (zAT n (zAL n cs e.toNat)) ?_ ?_ ?_ ?_ ?_ ?_)<|ap ((by exact zBF _):(PV.own 2 (List.map prV (zCn n (zAL n (cs++[c]) e.toNat) (zAT n (zAL n cs e.toNat))))).free=true) an)<|zAc 2<|zAa<|zAm<|E_a [(1,.yes),(1,.v (PV.own 2 (List.map prV (zCn n (zAL n (cs++[c]) e.toNat) (zAT n (zAL n cs e.toNat))))))] (ap (blz (List.map prV (zCn n (zAL n (cs++[c]) e.toNat) (zAT n (zAL n cs e.toNat)))))<|ap ((zAE zAz):PV.own 2 (List.take (List.map prV (zCn n (zAL n (cs++[c]) e.toNat) (zAT n (zAL n cs e.toNat)))).length (List.drop 0 (List.map prV (zCn n (zAL n (cs++[c]) e.toNat) (zAT n (zAL n cs e.toNat))))))=PV.own 2 (List.map prV (zCn n (zAL n (cs++[c]) e.toNat) (zAT n (zAL n cs e.toNat))))) an) (PV.tup [PV.own 2 (List.map prV (zCn n (zAL n (cs++[c]) e.toNat) (zAT n (zAL n cs e.toNat)))),I 0]) [] ?_ rfl))))
 all_goals
  exfalso
  have h1:=zC6 (ntf k0)
  have h2:=zC6 (ntf k1)
  have:zEt n c=true:=by simp only [zEt,inB,Bool.and_eq_true,decide_eq_true_eq];omega
  rw [hc] at this;cases this
theorem f43_3 (n:Nw) (cs:List (Int×Int)) (e:Int) (c:Int×Int) (hs:Small n) (hl:cs.length<1000000) (ho:¬ zBT n cs e=0):FG 43 [nwV n,prs cs,I e,prV c] (.tup [.own 2 [],I (zBT n cs e)]):=by
 refine zAf Tryz.f43 ?_
 refine zAd 4<|zAa<|zAd 3<|S_a [(10,.ret (PV.tup [PV.own 2 [],I (zBT n cs e)]) [])] (ap (f23_2 n cs e (by omega) (by omega) (by omega)) an)<|zAc 5<|zAa<|zAg<|zAd 2<|zAa<|zCH (zBT n cs e=0) (by omega)<|zAd 3<|zAa<|zAm<|E_a [] an (PV.tup [PV.own 2 [],I (zBT n cs e)]) [] rfl rfl
theorem f126 (l:List (Int×Int)) (g:Int×Int) (hl:l.length<1000000):FG 126 [prs l,prV g] (.bool (has l g)):=by
 refine zAf Tryz.f126 ?_
 refine zAd 2<|zAa<|zAg<|zAd 1<|zAa<|zAh 0 ?_
 refine zAo (fun i=>i≤l.length∧∀ j,j<i→decide (l.getD j default=g)=false) (fun (i:Nat)=>[(5,I (i:Nat))]) (fun i=>l.length-i) (0:Nat) ⟨Nat.zero_le _,fun j hj=>absurd hj (Nat.not_lt_zero j)⟩ fun i ⟨hi,ha⟩=>?_
 by_cases yB:i<l.length
 ·have jG:=zGo ha
  have uh:decide (l.getD i default=g)=true→has l g=true:=fun h=>by
   rw [zAq yB] at h
   exact List.any_eq_true.2 ⟨_,List.getElem_mem yB,decide_eq_true (of_decide_eq_true h).symm⟩
  clear ha
  refine zAg<|zAd 2<|S_a [(0,.n l.length)] (ap (lnS prV l) an)<|zAc 1<|zAa<|zAJ ((↑i:Int)<(↑l.length:Int)) (by omega)<|zAj<|zAg<|zAh 1<|zAd 2<|S_a [(2,.v (PV.agg [I (l.getD i default).fst,I (l.getD i default).snd]))] (ap (zBx default (by omega):(List.map prV l)[i]? = some (PV.agg [I (l.getD i default).fst,I (l.getD i default).snd])) an)<|zAc 2<|S_a [(0,.v (PV.bool (decide ((l.getD i default).fst=g.fst)&&decide ((l.getD i default).snd=g.snd))))] (ap (zSd:zHx Tryz.prog BinOp.eql 49 (PV.agg [I (l.getD i default).fst,I (l.getD i default).snd]) (PV.agg [I g.fst,I g.snd])=some (PV.bool (decide ((l.getD i default).fst=g.fst)&&decide ((l.getD i default).snd=g.snd)))) an)<|zAa<|zDf (decide ((l.getD i default).fst=g.fst)&&decide ((l.getD i default).snd=g.snd)) (fun k0=>(zAd 1<|zAa<|zAm<|E_a [] an (PV.bool true) [] ?_ rfl)) (fun k0=>(zAj<|zAe<|zAc 1<|S_a [(1,.v (I (↑(i+1):Int)))] (ap (wrN i) an)<|zAc 1<|zAa ?_))
  ·rw [zMx] at k0
   rw [uh k0]
  ·rw [zMx] at k0
   exact ⟨i+1,⟨by omega,jG k0⟩,by omega,by kernel_rfl,by kernel_rfl⟩
 ·have hx:has l g=false:=by
   refine List.any_eq_false.2 fun y hy=>?_
   obtain ⟨j,hj,rfl⟩:=List.getElem_of_mem hy
   have:=ha j (by omega)
   rw [zAq hj,decide_eq_false_iff_not] at this
   rw [decide_eq_true_eq]
   exact fun h=>this h.symm
  rw [hx]
  clear ha
  refine zAg<|zAd 2<|S_a [(0,.n l.length)] (ap (lnS prV l) an)<|zAc 1<|zAa<|zAK ((↑i:Int)<(↑l.length:Int)) (by omega)<|zAs 0<|zAd 1<|zAa<|zAm<|E_a [] an (PV.bool false) [] rfl rfl
theorem f74 (n:Nw) (cs:List (Int×Int)) (e:Int) (st:List Int) (hs:Small n) (hl:cs.length<1000000) (yC:st.length<1000000):FG 74 [nwV n,prs cs,I e,zAw st] (I (zB7 n cs e st)):=by
 have h3:=hs.hs
 refine zAf Tryz.f74 ?_
 by_cases he:zBT n cs e=0
 ·have hx:zB7 n cs e st=if (!st.all fun x=>inB x 0 (n.s.length-1))=true then 1 else if st.Nodup then 0 else 5:=by simp only [zB7,he,if_true]
  rw [hx]
  clear hx
  refine zAd 2<|zAa<|zAg<|zAd 3<|S_a [(10,.ret (I (zBT n cs e)) [])] (ap (f93 n cs e (by omega) (by omega)) an)<|zAc 1<|zAa<|zAd 2<|zAa<|zFF (zBT n cs e=0) (by omega)<|zAj<|zAg<|zAd 1<|zAa<|zAh 0 ?_
  refine zAo (fun i=>i≤st.length∧∀ j,j<i→inB (st.getD j 0) 0 (n.s.length-1)=true) (fun (i:Nat)=>[(10,I (i:Nat))]) (fun i=>st.length-i) (0:Nat) ⟨Nat.zero_le _,fun j hj=>absurd hj (Nat.not_lt_zero j)⟩ fun i ⟨hi,ha⟩=>?_
  by_cases yB:i<st.length
  ·have jG:=zGo ha
   clear ha
   refine zAg<|zAd 2<|S_a [(0,.n st.length)] (ap (lnS I st) an)<|zAc 1<|zAa<|zAJ ((↑i:Int)<(↑st.length:Int)) (by omega)<|zAj<|zAg<|zAh 1<|zAd 2<|S_a [(2,.v (I (st.getD i 0)))] (ap (zBx (0) (by omega):(List.map I st)[i]? = some (I (st.getD i 0))) an)<|zAc 3<|S_a [(0,.n n.s.length)] (ap (lnS zAw n.s) an)<|S_a [(1,.v (I ((↑n.s.length:Int)-1)))] (ap ((zCP rfl (by omega)):I (IntKind.i64.wrap ((↑n.s.length:Int)-1))=I ((↑n.s.length:Int)-1)) an)<|S_a [(10,.ret (PV.bool !inB (st.getD i 0) 0 ((↑n.s.length:Int)-1)) [])] (ap (f111 (st.getD i 0) (0) ((↑n.s.length:Int)-1)) an)<|zAa<|zDf (!inB (st.getD i 0) 0 ((↑n.s.length:Int)-1)) (fun k0=>(zAd 1<|zAa<|zAm<|E_a [] an (I 1) [] ?_ rfl)) (fun k0=>(zAj<|zAe<|zAc 1<|S_a [(1,.v (I (↑(i+1):Int)))] (ap (wrN i) an)<|zAc 1<|zAa ?_))
   ·rw [zH0 yB (ntt k0)];rfl
   ·exact ⟨i+1,⟨by omega,jG (ntf k0)⟩,by omega,by kernel_rfl,by kernel_rfl⟩
  have hA:(st.all fun x=>inB x 0 (n.s.length-1))=true:=zJd (d:=0) fun i hi=>ha i (by omega)
  rw [hA]
  clear ha
  refine zAg<|zAd 2<|S_a [(0,.n st.length)] (ap (lnS I st) an)<|zAc 1<|zAa<|zAK ((↑i:Int)<(↑st.length:Int)) (by omega)<|zAs 0<|zAg<|zAd 1<|zAa<|zAh 2 ?_
  refine zAo (fun i=>i≤st.length∧∀ j,j<i→∀ k,k<j→st.getD j 0≠st.getD k 0) (fun (i:Nat)=>[(11,I (i:Nat))]) (fun i=>st.length-i) (0:Nat) ⟨Nat.zero_le _,fun j hj=>absurd hj (Nat.not_lt_zero j)⟩ fun i ⟨hi,ha⟩=>?_
  by_cases yB:i<st.length
  ·have jG:=zGo ha
   clear ha
   refine zAg<|zAd 2<|S_a [(0,.n st.length)] (ap (lnS I st) an)<|zAc 1<|zAa<|zAJ ((↑i:Int)<(↑st.length:Int)) (by omega)<|zAj<|zAg<|zAh 3<|zAd 1<|zAa<|zAh 4 ?_
   refine zAo (fun k=>k≤i∧∀ j,j<k→st.getD i 0≠st.getD j 0) (fun (k:Nat)=>[(12,I (k:Nat))]) (fun k=>i-k) (0:Nat) ⟨Nat.zero_le _,fun j hj=>absurd hj (Nat.not_lt_zero j)⟩ fun k ⟨hk,hb⟩=>?_
   by_cases jc:k<i
   ·have kb:=zGo hb
    clear hb jG
    refine zAg<|zAd 3<|zAa<|zAJ ((↑k:Int)<(↑i:Int)) (by omega)<|zAj<|zAg<|zAh 5<|zAd 2<|S_a [(2,.v (I (st.getD i 0)))] (ap (zBx (0) (by omega):(List.map I st)[i]? = some (I (st.getD i 0))) an)<|zAc 3<|S_a [(2,.v (I (st.getD k 0)))] (ap (zBx (0) (by omega):(List.map I st)[k]? = some (I (st.getD k 0))) an)<|zAc 2<|zAa<|zBZ (st.getD i 0=st.getD k 0) (fun k1=>(zAd 1<|zAa<|zAm<|E_a [] an (I 5) [] ?_ rfl)) (fun k1=>(zAj<|zAe<|zAc 1<|S_a [(1,.v (I (↑(k+1):Int)))] (ap (wrN k) an)<|zAc 1<|zAa ?_))
    ·rw [if_neg (by simp),if_neg (zR2 yB jc k1)]
    ·exact ⟨k+1,⟨by omega,kb k1⟩,by omega,by kernel_rfl,by kernel_rfl⟩
   ·have yQ:=jG fun j hj=>hb j (by omega)
    clear hb jG
    refine zAg<|zAd 3<|zAa<|zAK ((↑k:Int)<(↑i:Int)) (by omega)<|zAs 4<|zAe<|zAc 1<|S_a [(1,.v (I (↑(i+1):Int)))] (ap (wrN i) an)<|zAc 1<|zAa ?_
    exact ⟨i+1,⟨by omega,yQ⟩,by omega,by kernel_rfl,by kernel_rfl⟩
  have hN:st.Nodup:=zOn fun i hi=>ha i (by omega)
  clear ha
  refine zAg<|zAd 2<|S_a [(0,.n st.length)] (ap (lnS I st) an)<|zAc 1<|zAa<|zAK ((↑i:Int)<(↑st.length:Int)) (by omega)<|zAs 2<|zAd 1<|zAa<|zAm<|E_a [] an (I 0) [] (by simp [*]) rfl
 ·refine zAd 2<|zAa<|zAg<|zAd 3<|S_a [(10,.ret (I (zBT n cs e)) [])] (ap (f93 n cs e (by omega) (by omega)) an)<|zAc 1<|zAa<|zAd 2<|zAa<|zCH (zBT n cs e=0) (by omega)<|zAd 2<|zAa<|zAm<|E_a [] an (I (zBT n cs e)) [] ?_ rfl
  simp only [zB7,he,if_false]
abbrev gpO (l:List (Int×Int)):PV := .own 2 (l.map prV)
instance:FrzOf gpO prs:=⟨fun l=>by simp only [zAY,zAI (g:=prV) (g':=prV) l]⟩
theorem zLu {n:Nw} {cs:List (Int×Int)} {e:Nat} {G:List (Int×Int)} {st:List Int}:∀ i,(zNG n cs e G st i).length=i*st.length
 | 0=>by simp [zNG]
 | i+1=>by
  have:zNG n cs e G st (i+1)=zNG n cs e G st i++st.map fun s=>zCn n (zAL n (cs++[((i:Int),s)]) e) G:=by simp [zNG,List.range_succ,List.flatMap_append]
  rw [this,List.length_append,zLu i,List.length_map,Nat.succ_mul]
theorem f125 (n:Nw) (cs:List (Int×Int)) (e:Int) (st:List Int) (G:List (Int×Int)) (ho:OffOk n cs e st) (yC:st.length≤1000) (hG:G.length≤80) (jm:∀ g∈G,zVO n g):FG 125 [nwV n,prs cs,I e,zAw st,prs G] (.own 1 ((zNG n cs e.toNat G st n.n.length).map gpO)):=by
 have yi:=ho.ev
 have jf:=yi.cr
 have kg:=jf.w
 have hn:=jf.nw
 have ui:=jf.len
 have he:=yi.ev
 have ka:=hn.nl
 refine zAf Tryz.f125 ?_
 refine zAd 2<|zAa<|zAd 1<|zAa<|zAg<|zAd 1<|zAa<|zAh 0 ?_
 refine zAo (fun (i,L)=>i≤n.n.length∧L=zNG n cs e.toNat G st i) (fun ((i:Nat),(L:List (List (Int×Int))))=>[(11,.own 1 (L.map gpO)),(12,I (i:Nat))]) (fun (i,_)=>n.n.length-i) ((0:Nat),([]:List (List (Int×Int)))) ⟨Nat.zero_le _,rfl⟩ fun (i,L) ⟨hi,hL⟩=>?_
 have hLl:L.length≤8000:=by
  rw [hL,zLu]
  have:i*st.length≤8*1000:=Nat.mul_le_mul (by omega) yC
  omega
 by_cases yB:i<n.n.length
 ·have yQ:zNG n cs e.toNat G st (i+1)=L++st.map fun s=>zCn n (zAL n (cs++[((i:Int),s)]) e.toNat) G:=by rw [hL];simp [zNG,List.range_succ,List.flatMap_append]
  clear hL
  refine zAg<|zAd 3<|S_a [(0,.n n.n.length)] (ap (lnS ntV n.n) an)<|zAc 1<|zAa<|zAJ ((↑i:Int)<(↑n.n.length:Int)) (by omega)<|zAj<|zAg<|zAh 1<|zAd 1<|zAa<|zAh 2 ?_
  refine zAo (fun (j,M)=>j≤st.length∧M=L++(st.take j).map fun s=>zCn n (zAL n (cs++[((i:Int),s)]) e.toNat) G) (fun ((j:Nat),(M:List (List (Int×Int))))=>[(11,.own 1 (M.map gpO)),(13,I (j:Nat))]) (fun (j,_)=>st.length-j) ((0:Nat),L) ⟨Nat.zero_le _,by simp⟩ fun (j,M) ⟨hj,hM⟩=>?_
  have hMl:M.length≤9000:=by rw [hM,List.length_append,List.length_map,List.length_take];omega
  by_cases yz:j<st.length
  ·have yZ:=zBz (d:=(0:Int)) ho.rng j yz
   have je:(0≤(((i:Int),st.getD j 0):Int×Int).1∧(((i:Int),st.getD j 0):Int×Int).1<n.n.length)∧(0≤(((i:Int),st.getD j 0):Int×Int).2∧(((i:Int),st.getD j 0):Int×Int).2<n.s.length):=by simp only;omega
   have gg:=f120 n cs e ((i:Int),st.getD j 0) G kg ui (by omega) (by omega) jm je
   have yU:M++[zCn n (zAL n (cs++[((i:Int),st.getD j 0)]) e.toNat) G]=L++(st.take (j+1)).map fun s=>zCn n (zAL n (cs++[((i:Int),s)]) e.toNat) G:=by
    rw [hM,zBP (d:=0) yz,List.map_append,List.append_assoc];rfl
   clear hM yQ jm
   refine zAg<|zAd 2<|S_a [(0,.n st.length)] (ap (lnS I st) an)<|zAc 1<|zAa<|zAJ ((↑j:Int)<(↑st.length:Int)) (by omega)<|zAj<|zAg<|zAh 3<|zAe<|zAc 7<|S_a [(2,.v (I (st.getD j 0)))] (ap (zBx (0) (by omega):(List.map I st)[j]? = some (I (st.getD j 0))) an)<|zAc 3<|S_a [(14,.ret (PV.own 2 (List.map prV (zCn n (zAL n (cs++[((↑i:Int),st.getD j 0)]) e.toNat) G))) [])] (ap gg an)<|zAc 1<|S_a [(4,.ob),(0,.ob),(0,.yes),(2,.v (PV.own 1 (List.map gpO (M++[zCn n (zAL n (cs++[((↑i:Int),st.getD j 0)]) e.toNat) G]))))] (ap (blz (List.map gpO M))<|ap ((by exact zA9 (by simp only [List.length_map,zzLn,zA1]<;>omega)):((List.map gpO M).length + [PV.own 2 (List.map prV (zCn n (zAL n (cs++[((↑i:Int),st.getD j 0)]) e.toNat) G))].length).ble zA1=true)<|ap ((by exact zBj (by simp<;>omega)):(0+(List.map gpO M).length).beq (List.map gpO M).length=true)<|ap ((zAE (zB0 (by kernel_rfl))):PV.own 1 (List.map gpO M++[PV.own 2 (List.map prV (zCn n (zAL n (cs++[((↑i:Int),st.getD j 0)]) e.toNat) G))])=PV.own 1 (List.map gpO (M++[zCn n (zAL n (cs++[((↑i:Int),st.getD j 0)]) e.toNat) G]))) an)<|zAc 1<|zAa<|zAe<|zAc 1<|S_a [(1,.v (I (↑(j+1):Int)))] (ap (wrN j) an)<|zAc 1<|zAa ?_
   exact ⟨(j+1,M++[zCn n (zAL n (cs++[((i:Int),st.getD j 0)]) e.toNat) G]),⟨by omega,yU⟩,by simp only;omega,by kernel_rfl,by kernel_rfl⟩
  ·rw [List.take_of_length_le (by omega)] at hM
   rw [← hM] at yQ
   clear hM jm
   refine zAg<|zAd 2<|S_a [(0,.n st.length)] (ap (lnS I st) an)<|zAc 1<|zAa<|zAK ((↑j:Int)<(↑st.length:Int)) (by omega)<|zAs 2<|zAe<|zAc 1<|S_a [(1,.v (I (↑(i+1):Int)))] (ap (wrN i) an)<|zAc 1<|zAa ?_
   exact ⟨(i+1,M),⟨by omega,yQ.symm⟩,by simp only;omega,by kernel_rfl,by kernel_rfl⟩
 ·rw [show i=n.n.length by omega] at hL
  rw [← hL]
  clear hL jm
  refine zAg<|zAd 3<|S_a [(0,.n n.n.length)] (ap (lnS ntV n.n) an)<|zAc 1<|zAa<|zAK ((↑i:Int)<(↑n.n.length:Int)) (by omega)<|zAs 0<|zAd 1<|S_a [(2,.yes)] (ap ((by exact zBj (by simp<;>omega)):(Nat.beq 0 0&&(List.map gpO L).length.beq (List.map gpO L).length)=true) an)<|zAa<|zAm<|E_a [(1,.yes),(1,.v (PV.own 1 (List.map gpO L)))] (ap (blz (List.map gpO L))<|ap ((zAE zAz):PV.own 1 (List.take (List.map gpO L).length (List.drop 0 (List.map gpO L)))=PV.own 1 (List.map gpO L)) an) (PV.own 1 (List.map gpO L)) [] rfl rfl
theorem f45_1 (n:Nw) (cs:List (Int×Int)) (e:Int) (st:List Int) (ho:OffOk n cs e st) (yC:st.length≤1000):FG 45 [nwV n,prs cs,I e,zAw st] (.tup [.own 2 ((zWZ n cs e.toNat (zAT n (zAL n cs e.toNat)) st).map prV),I 0]):=by
 have yi:=ho.ev
 have jf:=yi.cr
 have hn:=jf.nw
 have jk:=hn.small
 have ui:=jf.len
 have herr:=ho.err
 have gb:=zDi (w:=zAL n cs e.toNat) hn
 have jm:∀ g∈zAT n (zAL n cs e.toNat),zVO n g:=zNE
 have hlf:=f23_1 n cs e yi
 have hcu:=f125 n cs e st _ ho yC gb jm
 have uR:=f74 n cs e st jk (by omega) (by omega)
 rw [herr] at uR
 unfold zWZ
 have hCl:∀ r∈zNG n cs e.toNat (zAT n (zAL n cs e.toNat)) st n.n.length,r.length≤80:=fun r hr=>by
  simp only [zNG,List.mem_flatMap,List.mem_map] at hr
  obtain ⟨i,_,s,_,rfl⟩:=hr
  exact Nat.le_trans (List.length_filter_le _ _) gb
 have hCn:(zNG n cs e.toNat (zAT n (zAL n cs e.toNat)) st n.n.length).length≤1000000:=by
  rw [zLu]
  have h8:=hn.nl.2
  have:n.n.length*st.length≤8*1000:=Nat.mul_le_mul h8 yC
  omega
 generalize zNG n cs e.toNat (zAT n (zAL n cs e.toNat)) st n.n.length=C at *
 generalize zAT n (zAL n cs e.toNat)=G at *
 clear jm herr
 refine zAf Tryz.f45 ?_
 refine zAd 3<|zAa<|zAg<|zAd 4<|S_a [(12,.ret (I 0) [])] (ap uR an)<|zAc 1<|zAa<|zAd 2<|zAa<|zAW<|zAj<|zAd 3<|S_a [(10,.ret (PV.tup [PV.own 2 (List.map prV G),I 0]) [])] (ap hlf an)<|zAc 5<|zAa<|zAd 5<|S_a [(11,.ob),(0,.v (prs G)),(2,.ret (PV.own 1 (List.map gpO C)) []),(1,.yes)] (ap (blz (List.map prV G))<|ap (frT prV G)<|ap hcu<|ap ((by simp [PV.free,zBF,zEE]):(PV.own 1 (List.map gpO C)).free=true) an)<|zAc 1<|zAa<|zAd 1<|zAa<|zAg<|zAd 1<|zAa<|zAh 0 ?_
 refine zAo (fun (i,q)=>i≤G.length∧q=(G.take i).filter fun g => !C.any fun r=>has r g) (fun ((i:Nat),(q:List (Int×Int)))=>[(14,.own 2 (q.map prV)),(15,I (i:Nat))]) (fun (i,_)=>G.length-i) ((0:Nat),([]:List (Int×Int))) ⟨Nat.zero_le _,rfl⟩ fun (i,q) ⟨hi,hq⟩=>?_
 have km:q.length≤i:=by rw [hq];exact Nat.le_trans (List.length_filter_le _ _) (by rw [List.length_take];omega)
 by_cases yB:i<G.length
 ·have yU:=zFn (fun g => !C.any fun r=>has r g) G i default yB
  rw [← hq] at yU
  clear hq
  refine zAg<|zAd 2<|S_a [(0,.n G.length)] (ap (lnS prV G) an)<|zAc 1<|zAa<|zAJ ((↑i:Int)<(↑G.length:Int)) (by omega)<|zAj<|zAg<|zAh 1<|zAd 1<|zAa<|zAg<|zAd 1<|zAa<|zAh 2 ?_
  refine zAo (fun (k,b)=>k≤C.length∧b=(C.take k).any fun r=>has r (G.getD i default)) (fun ((k:Nat),(b:Bool))=>[(16,.bool b),(17,I (k:Nat))]) (fun (k,_)=>C.length-k) ((0:Nat),false) ⟨Nat.zero_le _,rfl⟩ fun (k,b) ⟨hk,ww⟩=>?_
  by_cases kK:k<C.length
  ·have yQ:=zSY (p:=fun r=>has r (G.getD i default)) (d:=[]) kK
   rw [← ww] at yQ
   have ug:=zBz (d:=([]:List (Int×Int))) hCl k kK
   clear ww yU hCl
   refine zAg<|zAd 2<|S_a [(0,.n C.length)] (ap (lnS gpO C) an)<|zAc 1<|zAa<|zAJ ((↑k:Int)<(↑C.length:Int)) (by omega)<|zAj<|zAg<|zAh 3<|zAe<|zAc 2<|zDt 52 b (fun k1=>(zAc 11<|zAa<|zAe<|zAc 1<|S_a [(1,.v (I (↑(k+1):Int)))] (ap (wrN k) an)<|zAc 1<|zAa ?_)) (fun k1=>(zAc 2<|S_a [(2,.ob),(1,.n k)] (ap ((by exact zAr (by simp only [List.length_map,zzLn]<;>omega)):decide (k<(List.map gpO C).length)=true)<|ap ((by simp):some (0+k)=some k) an)<|S_a [(0,.cs false ([PV.bor 13 [(k,0)] 2 0 (List.map prV (C.getD k [])).length])),(0,.v (PV.bor 13 [(k,0)] 2 0 (C.getD k []).length))] (ap (zDb (q:=PV.own 1 (List.map gpO C)) (xs:=List.map gpO C) (x:=PV.own 2 (List.map prV (C.getD k []))) rfl (zBx [] (by omega)):zAv 13 (PV.own 1 (List.map gpO C)) [] k 0 1=some (false,[PV.bor 13 [(k,0)] 2 0 (List.map prV (C.getD k [])).length]))<|ap ((by simp):PV.bor 13 [(k,0)] 2 0 (List.map prV (C.getD k [])).length=PV.bor 13 [(k,0)] 2 0 (C.getD k []).length) an)<|zAc 2<|S_a [(2,.ob),(1,.n i)] (ap ((by exact zAr (by simp only [List.length_map,zzLn]<;>omega)):decide (i<(List.map prV G).length)=true)<|ap ((by simp):some (0+i)=some i) an)<|S_a [(0,.cs true ([I (G.getD i default).fst,I (G.getD i default).snd]))] (ap (zDb (q:=PV.own 2 (List.map prV G)) (xs:=List.map prV G) (x:=PV.agg [I (G.getD i default).fst,I (G.getD i default).snd]) rfl (zBx default (by omega)):zAv 11 (PV.own 2 (List.map prV G)) [] i 0 Tryz.prog.types[49].size=some (true,[I (G.getD i default).fst,I (G.getD i default).snd])) an)<|S_a [(2,.v (PV.own 2 (List.map prV (C.getD k [])))),(0,.ob),(0,.v (prs (C.getD k []))),(4,.ret (PV.bool (has (C.getD k []) (G.getD i default))) [])] (ap ((zKO (xs:=List.map gpO C) (x:=PV.own 2 (List.map prV (C.getD k []))) (y:=PV.own 2 (List.map prV (C.getD k []))) (zBx [] (by omega)) rfl):zAA (PV.own 1 (List.map gpO C)) [(k,0)]=some (PV.own 2 (List.map prV (C.getD k []))))<|ap ((by exact zA9 (by simp only [List.length_map,zzLn,zA1]<;>omega)):(0+(C.getD k []).length).ble (List.map prV (C.getD k [])).length=true)<|ap ((zPh (zCw (by simp [zB4]) (zAD _))):PV.sl (zAu (List.take (C.getD k []).length (List.drop 0 (List.map prV (C.getD k [])))))=prs (C.getD k []))<|ap (f126 (C.getD k []) (G.getD i default) (by omega)) an)<|zAc 2<|zAa<|zAe<|zAc 1<|S_a [(1,.v (I (↑(k+1):Int)))] (ap (wrN k) an)<|zAc 1<|zAa ?_))
   ·exact ⟨(k+1,true),⟨by omega,by rw [yQ,k1];rfl⟩,by simp only;omega,by kernel_rfl,by kernel_rfl⟩
   ·exact ⟨(k+1,has (C.getD k []) (G.getD i default)),⟨by omega,by rw [yQ,k1];rfl⟩,by simp only;omega,by kernel_rfl,by kernel_rfl⟩
  ·rw [List.take_of_length_le (by omega)] at ww
   simp only [← ww] at yU
   clear ww hCl
   refine zAg<|zAd 2<|S_a [(0,.n C.length)] (ap (lnS gpO C) an)<|zAc 1<|zAa<|zAK ((↑k:Int)<(↑C.length:Int)) (by omega)<|zAs 2<|zAd 2<|zAa<|zDf (!b) (fun k1=>(zAe<|zAc 3<|S_a [(2,.ob),(1,.n i)] (ap ((by exact zAr (by simp only [List.length_map,zzLn]<;>omega)):decide (i<(List.map prV G).length)=true)<|ap ((by simp):some (0+i)=some i) an)<|S_a [(0,.cs true ([I (G.getD i default).fst,I (G.getD i default).snd]))] (ap (zDb (q:=PV.own 2 (List.map prV G)) (xs:=List.map prV G) (x:=PV.agg [I (G.getD i default).fst,I (G.getD i default).snd]) rfl (zBx default (by omega)):zAv 11 (PV.own 2 (List.map prV G)) [] i 0 Tryz.prog.types[49].size=some (true,[I (G.getD i default).fst,I (G.getD i default).snd])) an)<|zAc 1<|S_a [(4,.ob),(0,.ob),(0,.yes),(2,.v (PV.own 2 (List.map prV (q++[G.getD i default]))))] (ap (blz (List.map prV q))<|ap ((by exact zA9 (by simp only [List.length_map,zzLn,zA1]<;>omega)):((List.map prV q).length + [PV.agg [I (G.getD i default).fst,I (G.getD i default).snd]].length).ble zA1=true)<|ap ((by exact zBj (by simp<;>omega)):(0+(List.map prV q).length).beq (List.map prV q).length=true)<|ap ((zAE (zB0 (by kernel_rfl))):PV.own 2 (List.map prV q++[PV.agg [I (G.getD i default).fst,I (G.getD i default).snd]])=PV.own 2 (List.map prV (q++[G.getD i default]))) an)<|zAc 1<|zAa<|zAe<|zAc 1<|S_a [(1,.v (I (↑(i+1):Int)))] (ap (wrN i) an)<|zAc 1<|zAa ?_)) (fun k1=>(zAj<|zAe<|zAc 1<|S_a [(1,.v (I (↑(i+1):Int)))] (ap (wrN i) an)<|zAc 1<|zAa ?_))
   ·rw [if_pos k1] at yU
    exact ⟨(i+1,q++[G.getD i default]),⟨by omega,yU.symm⟩,by simp only;omega,by kernel_rfl,by kernel_rfl⟩
   ·rw [if_neg (by rw [k1];simp)] at yU
    exact ⟨(i+1,q),⟨by omega,yU.symm⟩,by simp only;omega,by kernel_rfl,by kernel_rfl⟩
 ·rw [List.take_of_length_le (by omega)] at hq
  rw [← hq]
  clear hq
  refine zAg<|zAd 2<|S_a [(0,.n G.length)] (ap (lnS prV G) an)<|zAc 1<|zAa<|zAK ((↑i:Int)<(↑G.length:Int)) (by omega)<|zAs 0<|zAd 1<|S_a [(2,.yes)] (ap ((by exact zBj (by simp<;>omega)):(Nat.beq 0 0&&(List.map prV q).length.beq (List.map prV q).length)=true) an)<|zAc 1<|zAa<|zAm<|E_a [(1,.yes),(1,.v (PV.own 2 (List.map prV q)))] (ap (blz (List.map prV q))<|ap ((zAE zAz):PV.own 2 (List.take (List.map prV q).length (List.drop 0 (List.map prV q)))=PV.own 2 (List.map prV q)) an) (PV.tup [PV.own 2 (List.map prV q),I 0]) [] rfl rfl
theorem f45_2 (n:Nw) (cs:List (Int×Int)) (e:Int) (st:List Int) (hs:Small n) (hl:cs.length<1000000) (yC:st.length<1000000) (ho:¬ zB7 n cs e st=0):FG 45 [nwV n,prs cs,I e,zAw st] (.tup [.own 2 [],I (zB7 n cs e st)]):=by
 refine zAf Tryz.f45 ?_
 refine zAd 3<|zAa<|zAg<|zAd 4<|S_a [(12,.ret (I (zB7 n cs e st)) [])] (ap (f74 n cs e st (by omega) (by omega) (by omega)) an)<|zAc 1<|zAa<|zAd 2<|zAa<|zCH (zB7 n cs e st=0) (by omega)<|zAd 3<|zAa<|zAm<|E_a [] an (PV.tup [PV.own 2 [],I (zB7 n cs e st)]) [] rfl rfl
end Go.Eng
