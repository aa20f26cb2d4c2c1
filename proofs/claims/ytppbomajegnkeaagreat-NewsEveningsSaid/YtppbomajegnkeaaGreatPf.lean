/- For all numbers and cries the law NewsEvenings ends in true: from evening to evening no j3 j4 an earlier notice, all settles when it is told, and gaps are there as told; without conditions. -/
import Derived.Test.YtppbomajegnkeaaGreatPe
import Derived.Test.YtppbomajegnkeaaGreatPd
set_option linter.unusedVariables false
set_option linter.unusedSimpArgs false
set_option linter.unusedSectionVars false
set_option maxRecDepth 10000
set_option maxHeartbeats 4000000
namespace Go.Eng
open Go Go.Proofs
def zIV (h:Int) (x:Int×Int):Bool:=inB x.1 0 (h-1)&&inB x.2 0 (h-1)
def zJO (x:Int×Int):Bool:=decide (x.1≠x.2)
def zCF (h:Int) (l:List (Int×Int)):Int:=if (l.all fun x=>zIV h x)=true then if (l.all fun x=>zJO x)=true then if (l.map pr2).Nodup then 0 else 5 else 8 else 1
def zSc (l:List (Int×Bool)):Bool:=(List.range l.length).all fun i=>inB (l.getD i default).1 (-1) ((i:Int)-1)
def zMZ (l:List (Int×Bool)) (i:Nat):Bool:=decide ((l.getD i default).1≠-1)&&(l.take i).any fun y=>decide (y.1=(l.getD i default).1)
def zDQ (l:List (Int×Bool)):Int:=if zSc l=true then if (List.range l.length).any (zMZ l)=true then 5 else 0 else 1
def zDY (l:List Int):Bool:=zFp l&&decide ((zGE l).length=l.length)
def zKm (h:Int) (l:List Int):Bool:=l.all fun x=>inB x 0 (h-1)
def zGv (n:Nw):Int :=
 if (!inB n.h 1 10)=true then 2 else if (n.l.length:Int)>15 then 2 else if (!inB n.n.length 1 8)=true then 2 else if (!inB n.s.length 1 6)=true then 2
 else if zCF n.h n.l=0 then
  if zDQ n.n=0 then
   if (!n.s.all fun x=>zKm n.h x)=true then 1 else if (!n.s.all fun x=>zDY x)=true then 4 else 0
  else zDQ n.n
 else zCF n.h n.l
theorem zV3 {n lo hi:Int} (h:(!inB n lo hi)=false):lo≤n∧n≤hi:=by simpa [inB] using h
abbrev zBF (x:Int×Int):PV×PV:=(prV x,.bool true)
theorem zOi {M:List (Int×Int)} (x:Int×Int):zC9 Tryz.prog 87 (prV x) (M.map zBF) 0=some (M.findIdx? fun y=>decide (x=y)):=by
 rw [zMU (kx:=Prod.fst) (ky:=Prod.snd) (fun _=>rfl) (zSe) x.1 x.2 M 0]
 simp [zWr]
theorem zRv {M:List (Int×Int)} {x:Int×Int} (h:x∈M):∃ j,j<M.length∧zC9 Tryz.prog 87 (prV x) (M.map zBF) 0=some (some j):=by
 rw [zOi]
 cases hf:M.findIdx? fun y=>decide (x=y) with
 | none =>
  rw [List.findIdx?_eq_none_iff] at hf
  have:=hf x h;simp at this
 | some j=>exact ⟨j,(List.findIdx?_eq_some_iff_getElem.1 hf).1,rfl⟩
theorem zLr {M:List (Int×Int)} {x:Int×Int} (h:x∉M):zC9 Tryz.prog 87 (prV x) (M.map zBF) 0=some none:=by
 rw [zOi,List.findIdx?_eq_none_iff.2]
 intro y hy
 simp only [decide_eq_false_iff_not]
 intro e;subst e;exact h hy
structure Small (n:Nw):Prop where
 hl:n.l.length<1000000
 hn:n.n.length<1000000
 hs:n.s.length<1000000
 hr:∀ x∈n.s,x.length<1000000
section
variable [Yo]
theorem f196 (n:Nw) (x:Int×Int) (hb:1≤n.h∧n.h≤10):FG 196 [prV x,.ref (nwV n)] (.bool (zIV n.h x)):=by
 refine zAf Tryz.f196 ?_
 refine zAd 2<|zAa<|zAd 1<|zAc 1<|zAc 1<|S_a [(8,.ret (PV.bool (inB x.fst 0 (n.h-1))) [])] (ap (f109 n x.fst (by omega)) an)<|zAc 1<|zFg 8 (inB x.fst 0 (n.h-1)) (fun k0=>(zAc 1<|zAc 1<|zAc 1<|S_a [(8,.ret (PV.bool (inB x.snd 0 (n.h-1))) [])] (ap (f109 n x.snd (by omega)) an)<|zAc 2<|zAa<|zAn<|E_a [] an (PV.bool (inB x.snd 0 (n.h-1))) [] ?_ rfl)) (fun k0=>(zAc 6<|zAa<|zAn<|E_a [] an (PV.bool false) [] ?_ rfl))
 ·simp only [zIV,k0,Bool.true_and]
 ·simp only [zIV,k0,Bool.false_and]
theorem f197 (x:Int×Int):FG 197 [prV x] (.bool (zJO x)):=by
 refine zAf Tryz.f197 ?_
 refine zAd 2<|zAa<|zAd 1<|zAc 1<|zAc 1<|zAc 3<|zAa<|zAn<|E_a [] an (PV.bool (x.fst != x.snd)) [] ?_ rfl
 congr 1;rw [Bool.eq_iff_iff];simp [zJO]
theorem f199 (x y:Int×Bool):FG 199 [ntV y,.ref (ntV x)] (.bool (decide (y.1=x.1))):=by
 refine zAf Tryz.f199 ?_
 refine zAd 2<|zAa<|zAd 6<|zAa<|zAn<|E_a [] an (PV.bool (y.fst==x.fst)) [] rfl rfl
theorem f168_1 (n:Nw) (hb:1≤n.h∧n.h≤10) (x:Int):FG 168 [I x,.ref (.func 109 [nwV n] [])] (.bool (!(inB x 0 (n.h-1)))):=by
 refine zAf Tryz.f168 ?_
 refine zAd 1<|zAa<|zAd 2<|S_a [(8,.ret (PV.bool (inB x 0 (n.h-1))) [])] (ap (f109 n x (by omega)) an)<|zAc 2<|zAa<|zAn<|E_a [] an (PV.bool !inB x 0 (n.h-1)) [] rfl rfl
theorem f131_1 (n:Nw) (hb:1≤n.h∧n.h≤10) (l:List (Int)) (hl:l.length<4294967296):FG 131 [.sl (l.map I),.func 168 [] [.ref (.func 109 [nwV n] [])]] (I (zEf (fun x => !(inB x 0 (n.h-1))) l)):=by
 refine zAf Tryz.f131 ?_
 refine zAd 1<|zAa<|zAh<|zAd 1<|S_a [(0,.n l.length)] (ap (lnS I l) an)<|zAc 1<|zAa<|zAk 0 ?_
 refine zAz (fun i=>i≤l.length∧∀ j,j<i→(fun x => !(inB x 0 (n.h-1))) (l.getD j 0)=false) (fun i=>[(8,I (i:Nat))]) (fun i=>l.length-i) (0:Nat) (by simp) fun i ⟨hi,ha⟩=>?_
 refine zAd 1<|zAa<|zAh<|zCP ((↑i:Int)<(↑l.length:Int)) (fun k0=>(zAl<|zAh<|zAk 1<|zAd 2<|zAa<|zAd 3<|S_a [(2,.v (I (l.getD i 0)))] (ap (zDh (0) (by omega):(List.map I l)[i]? = some (I (l.getD i 0))) an)<|zAc 1<|S_a [(7,.ret (PV.bool !inB (l.getD i 0) 0 (n.h-1)) [])] (ap (f168_1 n (by omega) (l.getD i 0)) an)<|zAa<|zFM (!inB (l.getD i 0) 0 (n.h-1)) (fun k1=>(zAd 2<|zAa<|zAn<|E_a [] an (I (↑i:Int)) [] ?_ rfl)) (fun k1=>(zAl<|zAg<|S_a [(1,.v (I (↑(i+1):Int)))] (ap (wrN i) an)<|zAc 1<|zAa ?_)))) (fun k0=>(zAL 0<|zAd 1<|zAa<|zAn<|E_a [] an (I (-1)) [] ?_ rfl))
 ·rw [zBT (i:=i) (by omega) (fun j hj=>by rw [← zAA (d:=0)];exact ha j hj) (by rw [← zAA (d:=0)];first | assumption | exact decide_eq_true ‹_› | (simp only [Bool.not_eq_true',decide_eq_false_iff_not];assumption))]
 ·refine ⟨i+1,⟨by omega,fun j hj=>?_⟩,by omega,by kernel_rfl,by kernel_rfl⟩
  rcases Nat.lt_succ_iff_lt_or_eq.1 hj with h | rfl
  ·exact ha j h
  ·first | assumption | exact decide_eq_false ‹_› | (simp only [Bool.not_eq_false',decide_eq_true_eq];first | assumption | (apply Decidable.of_not_not;assumption))
 ·rw [zB9 fun j hj=>by rw [← zAA (d:=0)];exact ha j (by omega)]
theorem f52_1 (n:Nw) (hb:1≤n.h∧n.h≤10) (l:List (Int)) (hl:l.length<4294967296):FG 52 [.sl (l.map I),.func 168 [] [.ref (.func 109 [nwV n] [])]] (.bool (l.any (fun x => !(inB x 0 (n.h-1))))):=by
 refine zAf Tryz.f52 ?_
 refine zAd 1<|zAa<|zAd 2<|S_a [(7,.ret (I (zEf (fun x => !inB x 0 (n.h-1)) l)) [])] (ap (f131_1 n (by omega) l (by omega)) an)<|zAc 2<|zAa<|zAn<|E_a [] an (PV.bool (decide (zEf (fun x => !inB x 0 (n.h-1)) l≥0))) [] ?_ rfl
 rw [zDM]
theorem f108_1 (n:Nw) (hb:1≤n.h∧n.h≤10) (l:List (Int)) (hl:l.length<4294967296):FG 108 [.sl (l.map I),.func 109 [nwV n] []] (.bool (l.all (fun x=>inB x 0 (n.h-1)))):=by
 refine zAf Tryz.f108 ?_
 refine zAd 2<|zAa<|zAd 2<|S_a [(12,.ret (PV.bool (l.any fun x => !inB x 0 (n.h-1))) [])] (ap (f52_1 n (by omega) l (by omega)) an)<|zAc 2<|zAa<|zAn<|E_a [] an (PV.bool !l.any fun x => !inB x 0 (n.h-1)) [] ?_ rfl
 simp [List.not_any_eq_all_not]
theorem f221_1 (n:Nw) (hb:1≤n.h∧n.h≤10) (x:Int×Int):FG 221 [prV x,.ref (.func 196 [] [.ref (nwV n)])] (.bool (!(zIV n.h x))):=by
 refine zAf Tryz.f221 ?_
 refine zAd 2<|zAa<|zAd 2<|S_a [(7,.ret (PV.bool (zIV n.h x)) [])] (ap (f196 n x (by omega)) an)<|zAc 2<|zAa<|zAn<|E_a [] an (PV.bool !zIV n.h x) [] rfl rfl
theorem f202_1 (n:Nw) (hb:1≤n.h∧n.h≤10) (l:List (Int×Int)) (hl:l.length<4294967296):FG 202 [.sl (l.map prV),.func 221 [] [.ref (.func 196 [] [.ref (nwV n)])]] (I (zEf (fun x => !(zIV n.h x)) l)):=by
 refine zAf Tryz.f202 ?_
 refine zAd 1<|zAa<|zAh<|zAd 1<|S_a [(0,.n l.length)] (ap (lnS prV l) an)<|zAc 1<|zAa<|zAk 0 ?_
 refine zAz (fun i=>i≤l.length∧∀ j,j<i→(fun x => !(zIV n.h x)) (l.getD j default)=false) (fun i=>[(8,I (i:Nat))]) (fun i=>l.length-i) (0:Nat) (by simp) fun i ⟨hi,ha⟩=>?_
 refine zAd 1<|zAa<|zAh<|zCP ((↑i:Int)<(↑l.length:Int)) (fun k0=>(zAl<|zAh<|zAk 1<|zAd 2<|zAa<|zAd 3<|S_a [(2,.v (PV.agg [I (l.getD i default).fst,I (l.getD i default).snd]))] (ap (zDh default (by omega):(List.map prV l)[i]? = some (PV.agg [I (l.getD i default).fst,I (l.getD i default).snd])) an)<|zAc 1<|S_a [(7,.ret (PV.bool !zIV n.h (l.getD i default)) [])] (ap (f221_1 n (by omega) (l.getD i default)) an)<|zAa<|zFM (!zIV n.h (l.getD i default)) (fun k1=>(zAd 2<|zAa<|zAn<|E_a [] an (I (↑i:Int)) [] ?_ rfl)) (fun k1=>(zAl<|zAg<|S_a [(1,.v (I (↑(i+1):Int)))] (ap (wrN i) an)<|zAc 1<|zAa ?_)))) (fun k0=>(zAL 0<|zAd 1<|zAa<|zAn<|E_a [] an (I (-1)) [] ?_ rfl))
 ·rw [zBT (i:=i) (by omega) (fun j hj=>by rw [← zAA (d:=default)];exact ha j hj) (by rw [← zAA (d:=default)];first | assumption | exact decide_eq_true ‹_› | (simp only [Bool.not_eq_true',decide_eq_false_iff_not];assumption))]
 ·refine ⟨i+1,⟨by omega,fun j hj=>?_⟩,by omega,by kernel_rfl,by kernel_rfl⟩
  rcases Nat.lt_succ_iff_lt_or_eq.1 hj with h | rfl
  ·exact ha j h
  ·first | assumption | exact decide_eq_false ‹_› | (simp only [Bool.not_eq_false',decide_eq_true_eq];first | assumption | (apply Decidable.of_not_not;assumption))
 ·rw [zB9 fun j hj=>by rw [← zAA (d:=default)];exact ha j (by omega)]
theorem f156_1 (n:Nw) (hb:1≤n.h∧n.h≤10) (l:List (Int×Int)) (hl:l.length<4294967296):FG 156 [.sl (l.map prV),.func 221 [] [.ref (.func 196 [] [.ref (nwV n)])]] (.bool (l.any (fun x => !(zIV n.h x)))):=by
 refine zAf Tryz.f156 ?_
 refine zAd 1<|zAa<|zAd 2<|S_a [(7,.ret (I (zEf (fun x => !zIV n.h x) l)) [])] (ap (f202_1 n (by omega) l (by omega)) an)<|zAc 2<|zAa<|zAn<|E_a [] an (PV.bool (decide (zEf (fun x => !zIV n.h x) l≥0))) [] ?_ rfl
 rw [zDM]
theorem f195_1 (n:Nw) (hb:1≤n.h∧n.h≤10) (l:List (Int×Int)) (hl:l.length<4294967296):FG 195 [.sl (l.map prV),.func 196 [] [.ref (nwV n)]] (.bool (l.all (fun x=>zIV n.h x))):=by
 refine zAf Tryz.f195 ?_
 refine zAd 2<|zAa<|zAd 2<|S_a [(12,.ret (PV.bool (l.any fun x => !zIV n.h x)) [])] (ap (f156_1 n (by omega) l (by omega)) an)<|zAc 2<|zAa<|zAn<|E_a [] an (PV.bool !l.any fun x => !zIV n.h x) [] ?_ rfl
 simp [List.not_any_eq_all_not]
theorem f221_2  (x:Int×Int):FG 221 [prV x,.ref (.func 197 [] [])] (.bool (!(zJO x))):=by
 refine zAf Tryz.f221 ?_
 refine zAd 2<|zAa<|zAd 2<|S_a [(6,.ret (PV.bool (zJO x)) [])] (ap (f197 x) an)<|zAc 2<|zAa<|zAn<|E_a [] an (PV.bool !zJO x) [] rfl rfl
theorem f202_2  (l:List (Int×Int)) (hl:l.length<4294967296):FG 202 [.sl (l.map prV),.func 221 [] [.ref (.func 197 [] [])]] (I (zEf (fun x => !(zJO x)) l)):=by
 refine zAf Tryz.f202 ?_
 refine zAd 1<|zAa<|zAh<|zAd 1<|S_a [(0,.n l.length)] (ap (lnS prV l) an)<|zAc 1<|zAa<|zAk 0 ?_
 refine zAz (fun i=>i≤l.length∧∀ j,j<i→(fun x => !(zJO x)) (l.getD j default)=false) (fun i=>[(8,I (i:Nat))]) (fun i=>l.length-i) (0:Nat) (by simp) fun i ⟨hi,ha⟩=>?_
 refine zAd 1<|zAa<|zAh<|zCP ((↑i:Int)<(↑l.length:Int)) (fun k0=>(zAl<|zAh<|zAk 1<|zAd 2<|zAa<|zAd 3<|S_a [(2,.v (PV.agg [I (l.getD i default).fst,I (l.getD i default).snd]))] (ap (zDh default (by omega):(List.map prV l)[i]? = some (PV.agg [I (l.getD i default).fst,I (l.getD i default).snd])) an)<|zAc 1<|S_a [(7,.ret (PV.bool !zJO (l.getD i default)) [])] (ap (f221_2 (l.getD i default)) an)<|zAa<|zFM (!zJO (l.getD i default)) (fun k1=>(zAd 2<|zAa<|zAn<|E_a [] an (I (↑i:Int)) [] ?_ rfl)) (fun k1=>(zAl<|zAg<|S_a [(1,.v (I (↑(i+1):Int)))] (ap (wrN i) an)<|zAc 1<|zAa ?_)))) (fun k0=>(zAL 0<|zAd 1<|zAa<|zAn<|E_a [] an (I (-1)) [] ?_ rfl))
 ·rw [zBT (i:=i) (by omega) (fun j hj=>by rw [← zAA (d:=default)];exact ha j hj) (by rw [← zAA (d:=default)];first | assumption | exact decide_eq_true ‹_› | (simp only [Bool.not_eq_true',decide_eq_false_iff_not];assumption))]
 ·refine ⟨i+1,⟨by omega,fun j hj=>?_⟩,by omega,by kernel_rfl,by kernel_rfl⟩
  rcases Nat.lt_succ_iff_lt_or_eq.1 hj with h | rfl
  ·exact ha j h
  ·first | assumption | exact decide_eq_false ‹_› | (simp only [Bool.not_eq_false',decide_eq_true_eq];first | assumption | (apply Decidable.of_not_not;assumption))
 ·rw [zB9 fun j hj=>by rw [← zAA (d:=default)];exact ha j (by omega)]
theorem f156_2  (l:List (Int×Int)) (hl:l.length<4294967296):FG 156 [.sl (l.map prV),.func 221 [] [.ref (.func 197 [] [])]] (.bool (l.any (fun x => !(zJO x)))):=by
 refine zAf Tryz.f156 ?_
 refine zAd 1<|zAa<|zAd 2<|S_a [(7,.ret (I (zEf (fun x => !zJO x) l)) [])] (ap (f202_2 l (by omega)) an)<|zAc 2<|zAa<|zAn<|E_a [] an (PV.bool (decide (zEf (fun x => !zJO x) l≥0))) [] ?_ rfl
 rw [zDM]
theorem f195_2  (l:List (Int×Int)) (hl:l.length<4294967296):FG 195 [.sl (l.map prV),.func 197 [] []] (.bool (l.all (fun x=>zJO x))):=by
 refine zAf Tryz.f195 ?_
 refine zAd 2<|zAa<|zAd 2<|S_a [(12,.ret (PV.bool (l.any fun x => !zJO x)) [])] (ap (f156_2 l (by omega)) an)<|zAc 2<|zAa<|zAn<|E_a [] an (PV.bool !l.any fun x => !zJO x) [] ?_ rfl
 simp [List.not_any_eq_all_not]
theorem f222_1 (y:Int) (yb:Bool) (l:List (Int×Bool)) (hl:l.length<4294967296):FG 222 [.sl (l.map ntV),.func 199 [] [.ref (.agg [I y,.bool yb])]] (I (zEf (fun x=>decide (x.1=y)) l)):=by
 refine zAf Tryz.f222 ?_
 refine zAd 1<|zAa<|zAh<|zAd 1<|S_a [(0,.n l.length)] (ap (lnS ntV l) an)<|zAc 1<|zAa<|zAk 0 ?_
 refine zAz (fun i=>i≤l.length∧∀ j,j<i→(fun x=>decide (x.1=y)) (l.getD j default)=false) (fun i=>[(8,I (i:Nat))]) (fun i=>l.length-i) (0:Nat) (by simp) fun i ⟨hi,ha⟩=>?_
 refine zAd 1<|zAa<|zAh<|zCP ((↑i:Int)<(↑l.length:Int)) (fun k0=>(zAl<|zAh<|zAk 1<|zAd 2<|zAa<|zAd 3<|S_a [(2,.v (PV.agg [I (l.getD i default).fst,PV.bool (l.getD i default).snd]))] (ap (zDh default (by omega):(List.map ntV l)[i]? = some (PV.agg [I (l.getD i default).fst,PV.bool (l.getD i default).snd])) an)<|zAc 1<|S_a [(7,.ret (PV.bool (decide ((l.getD i default).fst=(y,yb).fst))) [])] (ap (f199 ((y,yb)) (l.getD i default)) an)<|zAa<|zCP ((l.getD i default).fst=(y,yb).fst) (fun k1=>(zAd 2<|zAa<|zAn<|E_a [] an (I (↑i:Int)) [] ?_ rfl)) (fun k1=>(zAl<|zAg<|S_a [(1,.v (I (↑(i+1):Int)))] (ap (wrN i) an)<|zAc 1<|zAa ?_)))) (fun k0=>(zAL 0<|zAd 1<|zAa<|zAn<|E_a [] an (I (-1)) [] ?_ rfl))
 ·rw [zBT (i:=i) (by omega) (fun j hj=>by rw [← zAA (d:=default)];exact ha j hj) (by rw [← zAA (d:=default)];first | assumption | exact decide_eq_true ‹_› | (simp only [Bool.not_eq_true',decide_eq_false_iff_not];assumption))]
 ·refine ⟨i+1,⟨by omega,fun j hj=>?_⟩,by omega,by kernel_rfl,by kernel_rfl⟩
  rcases Nat.lt_succ_iff_lt_or_eq.1 hj with h | rfl
  ·exact ha j h
  ·first | assumption | exact decide_eq_false ‹_› | (simp only [Bool.not_eq_false',decide_eq_true_eq];first | assumption | (apply Decidable.of_not_not;assumption))
 ·rw [zB9 fun j hj=>by rw [← zAA (d:=default)];exact ha j (by omega)]
theorem f198_1 (y:Int) (yb:Bool) (l:List (Int×Bool)) (hl:l.length<4294967296):FG 198 [.sl (l.map ntV),.func 199 [] [.ref (.agg [I y,.bool yb])]] (.bool (l.any (fun x=>decide (x.1=y)))):=by
 refine zAf Tryz.f198 ?_
 refine zAd 1<|zAa<|zAd 2<|S_a [(7,.ret (I (zEf (fun x=>decide (x.fst=y)) l)) [])] (ap (f222_1 y yb l (by omega)) an)<|zAc 2<|zAa<|zAn<|E_a [] an (PV.bool (decide (zEf (fun x=>decide (x.fst=y)) l≥0))) [] ?_ rfl
 rw [zDM]
theorem f150 (n:Nw) (hb:1≤n.h∧n.h≤10) (hl:n.l.length≤15):FG 150 [nwV n] (I (zCF n.h n.l)):=by
 refine zAf Tryz.f150 ?_
 refine zAd 2<|zAa<|zAh<|zAk 0<|zAd 3<|S_a [(13,.ret (PV.bool (n.l.all fun x=>zIV n.h x)) [])] (ap (f195_1 n (by omega) n.l (by omega)) an)<|zAc 2<|zAa<|zFM (!n.l.all fun x=>zIV n.h x) (fun k0=>(zAd 1<|zAa<|zAn<|E_a [] an (I 1) [] ?_ rfl)) (fun k0=>(zAd 2<|S_a [(7,.ret (PV.bool (n.l.all fun x=>zJO x)) [])] (ap (f195_2 n.l (by omega)) an)<|zAc 2<|zAa<|zFM (!n.l.all fun x=>zJO x) (fun k1=>(zAd 1<|zAa<|zAn<|E_a [] an (I 8) [] ?_ rfl)) (fun k1=>(zAl<|zAd 2<|zAa<|zAh<|zAd 2<|S_a [(0,.n n.l.length)] (ap (lnS prV n.l) an)<|zAc 1<|zAa<|zAk 1 ?_))))
 ·rw [Bool.not_eq_true'] at k0
  simp [zCF,k0]
 ·rw [Bool.not_eq_false'] at k0
  rw [Bool.not_eq_true'] at k1
  simp [zCF,k0,k1]
 ·refine zAz (fun (i,M)=>i≤n.l.length∧M=(n.l.take i).map pr2∧M.Nodup) (fun (i,M)=>[(3,.omap (M.map zBF)),(21,I (i:Nat))]) (fun (i,_)=>n.l.length-i) ((0:Nat),([]:List (Int×Int))) ⟨Nat.zero_le _,rfl,List.nodup_nil⟩ fun (i,M) ⟨hi,hM,hN⟩=>?_
  by_cases yT:i<n.l.length
  ·have yf:(n.l.take (i+1)).map pr2=M++[pr2 (n.l.getD i default)]:=by rw [zCO (d:=default) yT,List.map_append,← hM];rfl
   by_cases hin:pr2 (n.l.getD i default)∈M
   ·obtain ⟨j,hj,jJ⟩:=zRv hin
    have kL:zJy (M.map zBF) j=some (.bool true):=by simp [zJy,hj]
    refine zAd 1<|zAa<|zAh<|zBa ((↑i:Int)<(↑n.l.length:Int)) (by omega)<|zAl<|zAh<|zAk 2<|zAh<|zAg<|S_a [(2,.v (PV.agg [I (n.l.getD i default).fst,I (n.l.getD i default).snd]))] (ap (zDh default (by omega):(List.map prV n.l)[i]? = some (PV.agg [I (n.l.getD i default).fst,I (n.l.getD i default).snd])) an)<|zAc 3<|zAa<|zAh<|zAd 2<|S_a [(6,.ret (prV (pr2 (n.l.getD i default))) [])] (ap (f110 (n.l.getD i default)) an)<|S_a [(3,.ix (some j)),(0,.v (PV.bool true))] (ap jJ<|ap (kL:zJy (List.map zBF M) j=some (PV.bool true)) an)<|zAa<|zD8<|zAd 1<|zAa<|zAn<|E_a [] an (I 5) [] ?_ rfl
    rw [Bool.not_eq_false'] at k0 k1
    have yW:¬ (n.l.map pr2).Nodup:=fun h=>by
     rw [← List.take_append_drop (i+1) n.l,List.map_append,yf] at h
     have h2:=(List.nodup_append.1 h).1
     have h3:=(List.nodup_append.1 h2).2.2
     exact h3 _ hin _ (List.mem_singleton.2 rfl) rfl
    simp only [zCF,k0,k1,yW,if_true,if_false]
   ·have jJ:=zLr hin
    refine zAd 1<|zAa<|zAh<|zBa ((↑i:Int)<(↑n.l.length:Int)) (by omega)<|zAl<|zAh<|zAk 2<|zAh<|zAg<|S_a [(2,.v (PV.agg [I (n.l.getD i default).fst,I (n.l.getD i default).snd]))] (ap (zDh default (by omega):(List.map prV n.l)[i]? = some (PV.agg [I (n.l.getD i default).fst,I (n.l.getD i default).snd])) an)<|zAc 3<|zAa<|zAh<|zAd 2<|S_a [(6,.ret (prV (pr2 (n.l.getD i default))) [])] (ap (f110 (n.l.getD i default)) an)<|S_a [(3,.ix none)] (ap jJ an)<|zAa<|zAE<|zAl<|zAg<|zAc 2<|S_a [(6,.ret (prV (pr2 (n.l.getD i default))) [])] (ap (f110 (n.l.getD i default)) an)<|S_a [(4,.ix none),(0,.v (PV.omap (List.map zBF (M++[pr2 (n.l.getD i default)]))))] (ap jJ<|ap ((by simp):PV.omap (List.map zBF M++[(PV.agg [I (pr2 (n.l.getD i default)).fst,I (pr2 (n.l.getD i default)).snd],PV.bool true)])=PV.omap (List.map zBF (M++[pr2 (n.l.getD i default)]))) an)<|zAa<|zAg<|S_a [(1,.v (I (↑(i+1):Int)))] (ap (wrN i) an)<|zAc 1<|zAa ?_
    refine ⟨(i+1,M++[pr2 (n.l.getD i default)]),⟨by omega,yf.symm,?_⟩,by simp only;omega,by kernel_rfl,by kernel_rfl⟩
    rw [List.nodup_append]
    refine ⟨hN,by simp,fun a ha b hb=>?_⟩
    rw [List.mem_singleton] at hb;subst hb
    intro e;subst e;exact hin ha
  ·refine zAd 1<|zAa<|zAh<|zA0 ((↑i:Int)<(↑n.l.length:Int)) (by omega)<|zAL 1<|zAd 1<|zAa<|zAn<|E_a [] an (I 0) [] ?_ rfl
   rw [Bool.not_eq_false'] at k0 k1
   rw [List.take_of_length_le (by omega)] at hM
   rw [hM] at hN
   simp only [zCF,k0,k1,hN,if_true]
theorem f151 (n:Nw) (hl:n.n.length≤8):FG 151 [nwV n] (I (zDQ n.n)):=by
 refine zAf Tryz.f151 ?_
 refine zAd 2<|zAa<|zAh<|zAd 2<|S_a [(0,.n n.n.length)] (ap (lnS ntV n.n) an)<|zAc 1<|zAa<|zAk 0 ?_
 refine zAz (fun i=>i≤n.n.length∧∀ j,j<i→inB (n.n.getD j default).1 (-1) ((j:Int)-1)=true) (fun i=>[(10,I (i:Nat))]) (fun i=>n.n.length-i) (0:Nat) ⟨Nat.zero_le _,fun j h=>absurd h (Nat.not_lt_zero _)⟩ fun i ⟨hi,ha⟩=>?_
 refine zAd 1<|zAa<|zAh<|zCP ((↑i:Int)<(↑n.n.length:Int)) (fun k0=>(zAl<|zAh<|zAk 1<|zAd 1<|S_a [(2,.v (PV.agg [I (n.n.getD i default).fst,PV.bool (n.n.getD i default).snd]))] (ap (zDh default (by omega):(List.map ntV n.n)[i]? = some (PV.agg [I (n.n.getD i default).fst,PV.bool (n.n.getD i default).snd])) an)<|zAc 4<|zAa<|zAd 3<|S_a [(1,.v (I ((↑i:Int)-1)))] (ap ((zCr rfl (by omega)):I (IntKind.i64.wrap ((↑i:Int)-1))=I ((↑i:Int)-1)) an)<|S_a [(10,.ret (PV.bool (inB (n.n.getD i default).fst (-1) ((↑i:Int)-1))) [])] (ap (f107 ((n.n.getD i default).fst) (-1) ((↑i:Int)-1)) an)<|zAc 1<|zAa<|zFM (!inB (n.n.getD i default).fst (-1) ((↑i:Int)-1)) (fun k1=>(zAd 1<|zAa<|zAn<|E_a [] an (I 1) [] ?_ rfl)) (fun k1=>(zAl<|zAg<|S_a [(1,.v (I (↑(i+1):Int)))] (ap (wrN i) an)<|zAc 1<|zAa ?_)))) (fun k0=>(zAL 0<|zAh<|zAd 2<|S_a [(0,.n n.n.length)] (ap (lnS ntV n.n) an)<|zAc 1<|zAa<|zAk 2 ?_))
 ·rw [Bool.not_eq_true'] at k1
  have:zSc n.n=false:=by
   simp only [zSc,List.all_eq_false]
   exact ⟨i,List.mem_range.2 (by omega),by simpa using k1⟩
  simp [zDQ,this]
 ·rw [Bool.not_eq_false'] at k1
  refine ⟨i+1,⟨by omega,fun j hj=>?_⟩,by omega,by kernel_rfl,by kernel_rfl⟩
  rcases Nat.lt_succ_iff_lt_or_eq.1 hj with h | rfl
  ·exact ha j h
  ·exact k1
 ·have hin:zSc n.n=true:=by
   simp only [zSc,List.all_eq_true,List.mem_range]
   exact fun j hj=>ha j (by omega)
  clear ha
  refine zAz (fun i=>i≤n.n.length∧∀ j,j<i→zMZ n.n j=false) (fun i=>[(25,I (i:Nat))]) (fun i=>n.n.length-i) (0:Nat) ⟨Nat.zero_le _,fun j h=>absurd h (Nat.not_lt_zero _)⟩ fun k ⟨hk,hb⟩=>?_
  have yf:zMZ n.n k=false→∀ j,j<k+1→zMZ n.n j=false:=fun h j hj=>by
   rcases Nat.lt_succ_iff_lt_or_eq.1 hj with h2 | rfl
   ·exact hb j h2
   ·exact h
  refine zAd 1<|zAa<|zAh<|zCP ((↑k:Int)<(↑n.n.length:Int)) (fun k2=>(zAl<|zAh<|zAk 3<|zAd 1<|S_a [(2,.v (PV.agg [I (n.n.getD k default).fst,PV.bool (n.n.getD k default).snd]))] (ap (zDh default (by omega):(List.map ntV n.n)[k]? = some (PV.agg [I (n.n.getD k default).fst,PV.bool (n.n.getD k default).snd])) an)<|zAc 4<|zAa<|zAd 4<|zWA 33 ((n.n.getD k default).fst = -1) (fun k3=>(zAc 3<|S_a [(3,.ob),(0,.ob),(0,.v (PV.sl (List.map ntV (List.take k n.n))))] (ap ((by exact zBb (by simp only [List.length_map,zzLn,zA1]<;>omega)):k.ble (List.map ntV n.n).length=true)<|ap ((by exact all_map _):((List.map ntV n.n).all fun x=>x.cells.length.beq ((fun x=>x.size) Tryz.prog.types[99]))=true)<|ap ((by simp):PV.sl (List.take k (List.drop 0 (List.map ntV n.n)))=PV.sl (List.map ntV (List.take k n.n))) an)<|zAc 1<|S_a [(13,.ret (PV.bool ((List.take k n.n).any fun x=>decide (x.fst=(n.n.getD k default).fst))) [])] (ap (f198_1 ((n.n.getD k default).fst) ((n.n.getD k default).snd) (List.take k n.n) (by first | omega | (simp<;>omega))) an)<|zAc 1<|zAa<|zFM ((List.take k n.n).any fun x=>decide (x.fst=(n.n.getD k default).fst)) (fun k4=>(zAd 1<|zAa<|zAn<|E_a [] an (I 5) [] ?_ rfl)) (fun k4=>(zAl<|zAg<|S_a [(1,.v (I (↑(k+1):Int)))] (ap (wrN k) an)<|zAc 1<|zAa ?_)))) (fun k3=>(zAc 7<|zAa<|zAE<|zAl<|zAg<|S_a [(1,.v (I (↑(k+1):Int)))] (ap (wrN k) an)<|zAc 1<|zAa ?_)))) (fun k2=>(zAL 2<|zAd 1<|zAa<|zAn<|E_a [] an (I 0) [] ?_ rfl))
  ·have h1:zMZ n.n k=true:=by
    have k4:((n.n.take k).any fun y=>decide (y.1=(n.n.getD k default).1))=true:=k4
    simp only [zMZ,k4,Bool.and_true,decide_eq_true_eq];assumption
   have:(List.range n.n.length).any (zMZ n.n)=true:=List.any_eq_true.2 ⟨k,List.mem_range.2 (by omega),h1⟩
   simp only [zDQ,hin,this,if_true]
  ·have h1:zMZ n.n k=false:=by
    have k4:((n.n.take k).any fun y=>decide (y.1=(n.n.getD k default).1))=false:=k4
    simp only [zMZ,k4,Bool.and_false]
   exact ⟨k+1,⟨by omega,yf h1⟩,by omega,by kernel_rfl,by kernel_rfl⟩
  ·have h1:zMZ n.n k=false:=by
    simp only [zMZ,Bool.and_eq_false_iff,decide_eq_false_iff_not]
    exact .inl (by simpa using k3)
   exact ⟨k+1,⟨by omega,yf h1⟩,by omega,by kernel_rfl,by kernel_rfl⟩
  ·have:(List.range n.n.length).any (zMZ n.n)=false:=by
    simp only [List.any_eq_false,List.mem_range,Bool.not_eq_true]
    exact fun j hj=>hb j (by omega)
   simp only [zDQ,hin,this,if_true];rfl
theorem f153 (n:Nw) (l:List Int) (hb:1≤n.h∧n.h≤10) (hl:l.length<1000000):FG 153 [zBk l,.ref (nwV n)] (.bool (zKm n.h l)):=by
 refine zAf Tryz.f153 ?_
 refine zAd 1<|zAa<|zAd 3<|S_a [(7,.ret (PV.bool (l.all fun x=>inB x 0 (n.h-1))) [])] (ap (f108_1 n (by omega) l (by omega)) an)<|zAc 1<|zAa<|zAn<|E_a [] an (PV.bool (l.all fun x=>inB x 0 (n.h-1))) [] rfl rfl
theorem f154 (l:List Int) (hl:l.length<1000000):FG 154 [zBk l] (.bool (zDY l)):=by
 refine zAf Tryz.f154 ?_
 refine zAd 1<|zAa<|zAd 1<|S_a [(6,.ret (PV.bool (zFp l)) [])] (ap (f155 l (by omega)) an)<|zAc 1<|zFg 5 (zFp l) (fun k0=>(zAc 1<|S_a [(6,.ret (PV.own 1 (List.map I l)) [])] (ap (f65 l (by omega)) an)<|S_a [(3,.ob),(1,.v (PV.own 1 (List.map I l))),(2,.ret (PV.own 1 (List.map I (zGE l))) [])] (ap ((by exact zBb (by simp only [List.length_map,zzLn,zA1]<;>omega)):(List.map I l).length.ble (List.map I l).length=true)<|ap ((zA9 zBz):PV.own 1 (List.take (List.map I l).length (List.drop 0 (List.map I l)))=PV.own 1 (List.map I l))<|ap (f97 l (by omega)) an)<|S_a [(0,.n ((zGE l).length))] (ap (lnS I (zGE l)) an)<|zAc 1<|S_a [(0,.n l.length)] (ap (lnS I l) an)<|zAc 3<|zAa<|zAn<|E_a [] an (PV.bool ((↑(zGE l).length:Int)==(↑l.length:Int))) [] ?_ rfl)) (fun k0=>(zAc 9<|zAa<|zAn<|E_a [] an (PV.bool false) [] ?_ rfl))
 ·simp only [zDY,k0,Bool.true_and];congr 1;rw [Bool.eq_iff_iff];simp;omega
 ·simp only [zDY,k0,Bool.false_and]
theorem f201_1 (n:Nw) (hb:1≤n.h∧n.h≤10) (x:List Int) (hx:x.length<1000000):FG 201 [zBk x,.ref (.func 153 [] [.ref (nwV n)])] (.bool (!(zKm n.h x))):=by
 refine zAf Tryz.f201 ?_
 refine zAd 1<|zAa<|zAd 2<|S_a [(7,.ret (PV.bool (zKm n.h x)) [])] (ap (f153 n x (by omega) (by omega)) an)<|zAc 2<|zAa<|zAn<|E_a [] an (PV.bool !zKm n.h x) [] rfl rfl
theorem f223_1 (n:Nw) (hb:1≤n.h∧n.h≤10) (l:List (List Int)) (hl:l.length<4294967296) (hr:∀ x∈l,x.length<1000000):FG 223 [.sl (l.map zBk),.func 201 [] [.ref (.func 153 [] [.ref (nwV n)])]] (I (zEf (fun x => !(zKm n.h x)) l)):=by
 refine zAf Tryz.f223 ?_
 refine zAd 1<|zAa<|zAh<|zAd 1<|S_a [(0,.n l.length)] (ap (lnS zBk l) an)<|zAc 1<|zAa<|zAk 0 ?_
 refine zAz (fun i=>i≤l.length∧∀ j,j<i→(fun x => !(zKm n.h x)) (l.getD j [])=false) (fun i=>[(8,I (i:Nat))]) (fun i=>l.length-i) (0:Nat) (by simp) fun i ⟨hi,ha⟩=>?_
 by_cases yT:i<l.length
 ·have hri:=zCk (d:=[]) hr i yT
  refine zAd 1<|zAa<|zAh<|zBa ((↑i:Int)<(↑l.length:Int)) (by omega)<|zAl<|zAh<|zAk 1<|zAd 2<|zAa<|zAd 3<|S_a [(2,.v (zBk (l.getD i [])))] (ap (zDh [] (by omega):(List.map zBk l)[i]? = some (zBk (l.getD i []))) an)<|zAc 1<|S_a [(7,.ret (PV.bool !zKm n.h (l.getD i [])) [])] (ap (f201_1 n (by omega) (l.getD i []) (by omega)) an)<|zAa<|zFM (!zKm n.h (l.getD i [])) (fun k0=>(zAd 2<|zAa<|zAn<|E_a [] an (I (↑i:Int)) [] ?_ rfl)) (fun k0=>(zAl<|zAg<|S_a [(1,.v (I (↑(i+1):Int)))] (ap (wrN i) an)<|zAc 1<|zAa ?_))
  ·rw [zBT (i:=i) yT (fun j hj=>by rw [← zAA (d:=[])];exact ha j hj) (by rw [← zAA (d:=[])];first | assumption | exact decide_eq_true ‹_›)]
  ·refine ⟨i+1,⟨by omega,fun j hj=>?_⟩,by omega,by kernel_rfl,by kernel_rfl⟩
   rcases Nat.lt_succ_iff_lt_or_eq.1 hj with h | rfl
   ·exact ha j h
   ·first | assumption | exact decide_eq_false ‹_› | (simp only [Bool.not_eq_false',decide_eq_true_eq];assumption)
 ·refine zAd 1<|zAa<|zAh<|zA0 ((↑i:Int)<(↑l.length:Int)) (by omega)<|zAL 0<|zAd 1<|zAa<|zAn<|E_a [] an (I (-1)) [] ?_ rfl
  rw [zB9 fun j hj=>by rw [← zAA (d:=[])];exact ha j (by omega)]
theorem f200_1 (n:Nw) (hb:1≤n.h∧n.h≤10) (l:List (List Int)) (hl:l.length<4294967296) (hr:∀ x∈l,x.length<1000000):FG 200 [.sl (l.map zBk),.func 201 [] [.ref (.func 153 [] [.ref (nwV n)])]] (.bool (l.any (fun x => !(zKm n.h x)))):=by
 refine zAf Tryz.f200 ?_
 refine zAd 1<|zAa<|zAd 2<|S_a [(7,.ret (I (zEf (fun x => !zKm n.h x) l)) [])] (ap (f223_1 n (by omega) l (by omega) (by omega)) an)<|zAc 2<|zAa<|zAn<|E_a [] an (PV.bool (decide (zEf (fun x => !zKm n.h x) l≥0))) [] ?_ rfl
 rw [zDM]
theorem f152_1 (n:Nw) (hb:1≤n.h∧n.h≤10) (l:List (List Int)) (hl:l.length<4294967296) (hr:∀ x∈l,x.length<1000000):FG 152 [.sl (l.map zBk),.func 153 [] [.ref (nwV n)]] (.bool (l.all (fun x=>zKm n.h x))):=by
 refine zAf Tryz.f152 ?_
 refine zAd 2<|zAa<|zAd 2<|S_a [(12,.ret (PV.bool (l.any fun x => !zKm n.h x)) [])] (ap (f200_1 n (by omega) l (by omega) (by omega)) an)<|zAc 2<|zAa<|zAn<|E_a [] an (PV.bool !l.any fun x => !zKm n.h x) [] ?_ rfl
 simp [List.not_any_eq_all_not]
theorem f201_2  (x:List Int) (hx:x.length<1000000):FG 201 [zBk x,.ref (.func 154 [] [])] (.bool (!(zDY x))):=by
 refine zAf Tryz.f201 ?_
 refine zAd 1<|zAa<|zAd 2<|S_a [(6,.ret (PV.bool (zDY x)) [])] (ap (f154 x (by omega)) an)<|zAc 2<|zAa<|zAn<|E_a [] an (PV.bool !zDY x) [] rfl rfl
theorem f223_2  (l:List (List Int)) (hl:l.length<4294967296) (hr:∀ x∈l,x.length<1000000):FG 223 [.sl (l.map zBk),.func 201 [] [.ref (.func 154 [] [])]] (I (zEf (fun x => !(zDY x)) l)):=by
 refine zAf Tryz.f223 ?_
 refine zAd 1<|zAa<|zAh<|zAd 1<|S_a [(0,.n l.length)] (ap (lnS zBk l) an)<|zAc 1<|zAa<|zAk 0 ?_
 refine zAz (fun i=>i≤l.length∧∀ j,j<i→(fun x => !(zDY x)) (l.getD j [])=false) (fun i=>[(8,I (i:Nat))]) (fun i=>l.length-i) (0:Nat) (by simp) fun i ⟨hi,ha⟩=>?_
 by_cases yT:i<l.length
 ·have hri:=zCk (d:=[]) hr i yT
  refine zAd 1<|zAa<|zAh<|zBa ((↑i:Int)<(↑l.length:Int)) (by omega)<|zAl<|zAh<|zAk 1<|zAd 2<|zAa<|zAd 3<|S_a [(2,.v (zBk (l.getD i [])))] (ap (zDh [] (by omega):(List.map zBk l)[i]? = some (zBk (l.getD i []))) an)<|zAc 1<|S_a [(7,.ret (PV.bool !zDY (l.getD i [])) [])] (ap (f201_2 (l.getD i []) (by omega)) an)<|zAa<|zFM (!zDY (l.getD i [])) (fun k0=>(zAd 2<|zAa<|zAn<|E_a [] an (I (↑i:Int)) [] ?_ rfl)) (fun k0=>(zAl<|zAg<|S_a [(1,.v (I (↑(i+1):Int)))] (ap (wrN i) an)<|zAc 1<|zAa ?_))
  ·rw [zBT (i:=i) yT (fun j hj=>by rw [← zAA (d:=[])];exact ha j hj) (by rw [← zAA (d:=[])];first | assumption | exact decide_eq_true ‹_›)]
  ·refine ⟨i+1,⟨by omega,fun j hj=>?_⟩,by omega,by kernel_rfl,by kernel_rfl⟩
   rcases Nat.lt_succ_iff_lt_or_eq.1 hj with h | rfl
   ·exact ha j h
   ·first | assumption | exact decide_eq_false ‹_› | (simp only [Bool.not_eq_false',decide_eq_true_eq];assumption)
 ·refine zAd 1<|zAa<|zAh<|zA0 ((↑i:Int)<(↑l.length:Int)) (by omega)<|zAL 0<|zAd 1<|zAa<|zAn<|E_a [] an (I (-1)) [] ?_ rfl
  rw [zB9 fun j hj=>by rw [← zAA (d:=[])];exact ha j (by omega)]
theorem f200_2  (l:List (List Int)) (hl:l.length<4294967296) (hr:∀ x∈l,x.length<1000000):FG 200 [.sl (l.map zBk),.func 201 [] [.ref (.func 154 [] [])]] (.bool (l.any (fun x => !(zDY x)))):=by
 refine zAf Tryz.f200 ?_
 refine zAd 1<|zAa<|zAd 2<|S_a [(7,.ret (I (zEf (fun x => !zDY x) l)) [])] (ap (f223_2 l (by omega) (by omega)) an)<|zAc 2<|zAa<|zAn<|E_a [] an (PV.bool (decide (zEf (fun x => !zDY x) l≥0))) [] ?_ rfl
 rw [zDM]
theorem f152_2  (l:List (List Int)) (hl:l.length<4294967296) (hr:∀ x∈l,x.length<1000000):FG 152 [.sl (l.map zBk),.func 154 [] []] (.bool (l.all (fun x=>zDY x))):=by
 refine zAf Tryz.f152 ?_
 refine zAd 2<|zAa<|zAd 2<|S_a [(12,.ret (PV.bool (l.any fun x => !zDY x)) [])] (ap (f200_2 l (by omega) (by omega)) an)<|zAc 2<|zAa<|zAn<|E_a [] an (PV.bool !l.any fun x => !zDY x) [] ?_ rfl
 simp [List.not_any_eq_all_not]
theorem f76 (n:Nw) (hs:Small n):FG 76 [nwV n] (I (zGv n)):=by
 refine zAf Tryz.f76 ?_
 have h1:=hs.hl
 have h2:=hs.hn
 have h3:=hs.hs
 have h4:=hs.hr
 refine zAd 2<|zAa<|zAh<|zAd 2<|S_a [(10,.ret (PV.bool (inB n.h 1 10)) [])] (ap (f107 n.h (1) (10)) an)<|zAc 2<|zFg 9 (!inB n.h 1 10) (fun k0=>(zAc 19<|zAa<|zD8<|zAd 1<|zAa<|zAn<|E_a [] an (I 2) [] ?_ rfl)) (fun k0=>(zAc 2<|S_a [(0,.n n.l.length)] (ap (lnS prV n.l) an)<|zAc 3<|zLN 15 ((↑n.l.length:Int)>15) (fun k1=>(zAc 13<|zAa<|zD8<|zAd 1<|zAa<|zAn<|E_a [] an (I 2) [] ?_ rfl)) (fun k1=>(zAc 2<|S_a [(0,.n n.n.length)] (ap (lnS ntV n.n) an)<|S_a [(10,.ret (PV.bool (inB (↑n.n.length:Int) 1 8)) [])] (ap (f107 ((↑n.n.length:Int)) (1) (8)) an)<|zAc 3<|zFg 22 (!inB (↑n.n.length:Int) 1 8) (fun k2=>(zAc 6<|zAa<|zD8<|zAd 1<|zAa<|zAn<|E_a [] an (I 2) [] ?_ rfl)) (fun k2=>(zAc 2<|S_a [(0,.n n.s.length)] (ap (lnS zBk n.s) an)<|S_a [(10,.ret (PV.bool (inB (↑n.s.length:Int) 1 6)) [])] (ap (f107 ((↑n.s.length:Int)) (1) (6)) an)<|zAc 2<|zAa<|zFM (!inB (↑n.s.length:Int) 1 6) (fun k3=>(zAd 1<|zAa<|zAn<|E_a [] an (I 2) [] ?_ rfl)) (fun k3=>(zAl<|zAh<|zAd 1<|S_a [(6,.ret (I (zCF n.h n.l)) [])] (ap (f150 n ?_ (by first | omega | (simp<;>omega))) an)<|zAc 1<|zAa<|zAd 2<|zAa<|zDT (zCF n.h n.l=0) (fun k4=>(zAd 2<|zAa<|zAn<|E_a [] an (I (zCF n.h n.l)) [] ?_ rfl)) (fun k4=>(zAl<|zAh<|zAd 1<|S_a [(6,.ret (I (zDQ n.n)) [])] (ap (f151 n ?_) an)<|zAc 1<|zAa<|zAd 2<|zAa<|zDT (zDQ n.n=0) (fun k5=>(zAd 2<|zAa<|zAn<|E_a [] an (I (zDQ n.n)) [] ?_ rfl)) (fun k5=>(zAl<|zAh<|zAk 0<|zAd 3<|S_a [(13,.ret (PV.bool (n.s.all fun x=>zKm n.h x)) [])] (ap (f152_1 n ?_ n.s (by omega) (by omega)) an)<|zAc 2<|zAa<|zFM (!n.s.all fun x=>zKm n.h x) (fun k6=>(zAd 1<|zAa<|zAn<|E_a [] an (I 1) [] ?_ rfl)) (fun k6=>(zAd 2<|S_a [(7,.ret (PV.bool (n.s.all fun x=>zDY x)) [])] (ap (f152_2 n.s (by omega) (by omega)) an)<|zAc 2<|zAa<|zFM (!n.s.all fun x=>zDY x) (fun k7=>(zAd 1<|zAa<|zAn<|E_a [] an (I 4) [] ?_ rfl)) (fun k7=>(zAl<|zAd 1<|zAa<|zAn<|E_a [] an (I 0) [] ?_ rfl))))))))))))))))
 all_goals first | exact zV3 k0 | (have:=zV3 k2;omega) | (simp [zGv, *];done)
end
end Go.Eng
set_option maxRecDepth 10000
set_option maxHeartbeats 4000000
namespace Go.Eng
open Go Go.Proofs
theorem zRf {l:List Int}:∀ k,k≤l.length→(zGE (l.take k)).length≤k∧((∃ j,1≤j∧j<k∧l.getD j 0=l.getD (j-1) 0)→(zGE (l.take k)).length<k)
 | 0,_=>⟨by simp [zGE],fun ⟨j,h1,h2,_⟩=>by omega⟩
 | k + 1,hk=>by
  obtain ⟨h1,h2⟩:=zRf (l:=l) k (by omega)
  cases k with
  | zero =>
   rw [zHd (show 0<l.length by omega)]
   exact ⟨by simp [zGE,zUO],fun ⟨j,h1,h2,_⟩=>by omega⟩
  | succ k =>
   rw [zG3 (by omega) (by omega)]
   split
   ·exact ⟨by omega,fun _=>by omega⟩
   ·rename_i hI
    refine ⟨by rw [List.length_append];simp;omega,fun ⟨j,g1,g2,g3⟩=>?_⟩
    have hj:j<k+1:=by
     by_cases h:j=k+1
     ·subst h;exact absurd g3 hI
     ·omega
    have:=h2 ⟨j,g1,hj,g3⟩
    rw [List.length_append];simp;omega
theorem zRi {l:List Int} (h:zFp l=true) (j:Nat) (hj:j+1<l.length):l.getD j 0≤l.getD (j+1) 0:=by
 simp only [zFp,List.all_eq_true,List.mem_range,decide_eq_true_eq] at h
 exact h j (by omega)
theorem zKs {l:List Int}:zDY l=zSh l:=by
 rw [Bool.eq_iff_iff]
 constructor
 ·intro h
  simp only [zDY,Bool.and_eq_true,decide_eq_true_eq] at h
  simp only [zSh,List.all_eq_true,List.mem_range,decide_eq_true_eq]
  intro j hj
  have h1:=zRi h.1 j (by omega)
  have h2:=(zRf (l:=l) l.length (Nat.le_refl _)).2
  rw [List.take_length] at h2
  by_cases he:l.getD (j+1) 0=l.getD j 0
  ·have:=h2 ⟨j+1,by omega,by omega,by simpa using he⟩
   omega
  ·omega
 ·intro h
  simp only [zSh,List.all_eq_true,List.mem_range,decide_eq_true_eq] at h
  simp only [zDY,zFp,Bool.and_eq_true,decide_eq_true_eq,List.all_eq_true,List.mem_range]
  refine ⟨fun j hj=>by have:=h j hj;omega,?_⟩
  have:=zGO (l:=l) l.length (Nat.le_refl _) fun j h1 h2=>by
   have:=h (j-1) (by omega)
   rw [show j-1+1=j by omega] at this
   omega
  rw [List.take_length] at this
  rw [this]
structure NwOk (n:Nw):Prop where
 err:zGv n=0
 h:1≤n.h∧n.h≤10
 ll:n.l.length≤15
 nl:1≤n.n.length∧n.n.length≤8
 sl:1≤n.s.length∧n.s.length≤6
 lr:∀ x∈n.l,(0≤x.1∧x.1<n.h)∧(0≤x.2∧x.2<n.h)
 lne:∀ x∈n.l,x.1≠x.2
 ld:(n.l.map pr2).Nodup
 na:∀ i,i<n.n.length→-1≤(n.n.getD i default).1∧(n.n.getD i default).1<i
 nd:∀ i k,k<i→i<n.n.length→(n.n.getD i default).1≠-1→(n.n.getD k default).1≠(n.n.getD i default).1
 sr:∀ l∈n.s,∀ x∈l,0≤x∧x<n.h
 ss:∀ l∈n.s,zSh l=true
theorem zR5 {l:List Int} (h:zSh l=true):∀ i j,i<j→j<l.length→l.getD i 0<l.getD j 0:=by
 simp only [zSh,List.all_eq_true,List.mem_range,decide_eq_true_eq] at h
 intro i j hij hj
 induction j with
 | zero=>omega
 | succ j ih =>
  have h1:=h j (by omega)
  by_cases he:i=j
  ·subst he;exact h1
  ·have:=ih (by omega) (by omega);omega
theorem zS9 {l:List Int} (h:zSh l=true) {B:Int} (hb:∀ x∈l,0≤x∧x<B):(l.length:Int)≤B∨l.length=0:=by
 by_cases h0:l.length=0
 ·exact .inr h0
 ·left
  have key:∀ j,j<l.length→(j:Int)≤l.getD j 0:=by
   intro j
   induction j with
   | zero=>intro hj;exact (zCk hb 0 hj).1
   | succ j ih =>
    intro hj
    have h1:=ih (by omega)
    have h2:=zR5 h j (j+1) (by omega) hj
    omega
  have h1:=key (l.length-1) (by omega)
  have h2:=(zCk (d:=(0:Int)) hb (l.length-1) (by omega)).2
  omega
theorem NwOk.rows {n:Nw} (ho:NwOk n):∀ l∈n.s,l.length≤10:=fun l hl=>by
 have h1:=zS9 (ho.ss l hl) (ho.sr l hl)
 have:=ho.h
 omega
theorem NwOk.small {n:Nw} (ho:NwOk n):Small n:=⟨by have:=ho.ll;omega,by have:=ho.nl;omega,by have:=ho.sl;omega,fun l hl=>by have:=ho.rows l hl;omega⟩
theorem zFs {n lo hi:Int} (h:inB n lo hi=true):lo≤n∧n≤hi:=by simpa [inB] using h
theorem zPQ {h:Int} {l:List (Int×Int)} (he:zCF h l=0):(l.all fun x=>zIV h x)=true∧(l.all fun x=>zJO x)=true∧(l.map pr2).Nodup:=by
 unfold zCF at he
 split at he
 ·split at he
  ·split at he
   ·exact ⟨by assumption,by assumption,by assumption⟩
   ·cases he
  ·cases he
 ·cases he
theorem zQV {l:List (Int×Bool)} (he:zDQ l=0):zSc l=true∧(List.range l.length).any (zMZ l)=false:=by
 unfold zDQ at he
 split at he
 ·split at he
  ·cases he
  ·rename_i h1 h2;exact ⟨h1,by rw [Bool.not_eq_true] at h2;exact h2⟩
 ·cases he
theorem zU2 {n:Nw} (he:zGv n=0):NwOk n:=by
 have he0:=he
 unfold zGv at he
 split at he
 ·cases he
 split at he
 ·cases he
 split at he
 ·cases he
 split at he
 ·cases he
 rename_i c1 c2 c3 c4
 split at he
 case isFalse h=>exact absurd he h
 rename_i c5
 split at he
 case isFalse h=>exact absurd he h
 rename_i c6
 split at he
 ·cases he
 split at he
 ·cases he
 rename_i c7 c8
 simp only [Bool.not_eq_true,Bool.not_eq_false'] at c1 c3 c4 c7 c8
 obtain ⟨d1,d2,d3⟩:=zPQ c5
 obtain ⟨e1,e2⟩:=zQV c6
 rw [List.all_eq_true] at c7 c8 d1 d2
 simp only [zSc,List.all_eq_true,List.mem_range] at e1
 simp only [List.any_eq_false,List.mem_range] at e2
 have a3:=zFs c3
 have a4:=zFs c4
 refine ⟨he0,zFs c1,by omega,by omega,by omega,fun x hx=>?_,fun x hx=>by have:=d2 x hx;simpa [zJO] using this,d3,fun i hi=>?_,fun i k hk hi hI hx=>?_,fun l hl x hx=>?_,fun l hl=>by rw [← zKs];exact c8 l hl⟩
 ·have:=d1 x hx
  simp only [zIV,Bool.and_eq_true] at this
  have b1:=zFs this.1
  have b2:=zFs this.2
  omega
 ·have:=zFs (e1 i hi);omega
 ·refine e2 i hi ?_
  simp only [zMZ,Bool.and_eq_true,decide_eq_true_eq,List.any_eq_true]
  refine ⟨hI,n.n.getD k default,?_,hx⟩
  rw [zAA (by omega)]
  exact List.mem_take_iff_getElem.2 ⟨k,by omega,rfl⟩
 ·have:=c7 l hl
  simp only [zKm,List.all_eq_true] at this
  have:=zFs (this x hx);omega
def zMA (F:List Int) (i:Nat) (a:Int):List Int:=if a = -1 then F.set i i else (F.set i i).set i ((F.set i i).getD a.toNat 0)
def zOM (l:List (Int×Bool)):Nat→List Int
 | 0=>List.replicate 8 0
 | i+1=>zMA (zOM l i) i (l.getD i default).1
def zPA (F:List Int) (L:List Int) (i k:Nat):List Int:=if F.getD k 0=F.getD i 0 then L.set i (max (L.getD i 0) k) else L
def zVu (F:List Int) (i:Nat) (L:List Int) (k:Nat):List Int:=(List.range k).foldl (fun L k=>zPA F L i k) L
def zUf (F:List Int) (m i:Nat):List Int:=(List.range i).foldl (fun L i=>zVu F i L m) (List.replicate 8 0)
theorem zQS {F:List Int} {i:Nat} {a:Int}:(zMA F i a).length=F.length:=by unfold zMA;split<;>simp
theorem zG9 {l:List (Int×Bool)}:∀ i,(zOM l i).length=8
 | 0=>by simp [zOM]
 | i+1=>by rw [zOM,zQS];exact zG9 i
theorem zSn {F L:List Int} {i k:Nat}:(zPA F L i k).length=L.length:=by unfold zPA;split<;>simp
theorem zLX {F L:List Int} {i k:Nat}:zVu F i L (k+1)=zPA F (zVu F i L k) i k:=by
 simp only [zVu,List.range_succ,List.foldl_append,List.foldl_cons,List.foldl_nil]
theorem zLq {F L:List Int} {i:Nat}:∀ k,(zVu F i L k).length=L.length
 | 0=>rfl
 | k+1=>by rw [zLX,zSn];exact zLq k
theorem zL0 {F:List Int} {m i:Nat}:zUf F m (i+1)=zVu F i (zUf F m i) m:=by
 simp only [zUf,List.range_succ,List.foldl_append,List.foldl_cons,List.foldl_nil]
theorem zOY {F:List Int} {m:Nat}:∀ i,(zUf F m i).length=8
 | 0=>by simp [zUf]
 | i+1=>by rw [zL0,zLq];exact zOY i
def zAj (n:Nw):List Int:=zOM n.n n.n.length
def zBl (n:Nw):List Int:=zUf (zAj n) n.n.length n.n.length
abbrev zCJ (n:Nw) (cs ms:PV) (F L:List Int):PV := .agg [I n.h,.sl (n.l.map prV),.sl (n.n.map ntV),.sl (n.s.map zBk),cs,ms,I (F.getD 0 0),I (F.getD 1 0),I (F.getD 2 0),I (F.getD 3 0),I (F.getD 4 0),I (F.getD 5 0),I (F.getD 6 0),I (F.getD 7 0),I (L.getD 0 0),I (L.getD 1 0),I (L.getD 2 0),I (L.getD 3 0),I (L.getD 4 0),I (L.getD 5 0),I (L.getD 6 0),I (L.getD 7 0)]
abbrev zUP (M:List (Int×Int)):PV := .omap (M.map zBF)
section
variable [Yo]
theorem f139_1 (n:Nw) (ho:NwOk n):FG 139 [nwV n] (.tup [.box (zCJ n (.own 2 []) (zUP (n.l.map pr2)) (zAj n) (zBl n)),I 0]):=by
 have hs:=ho.small
 have he:=ho.err
 have h1:=ho.nl.2
 have h2:=ho.ll
 have h3:=ho.ld
 have h4:=ho.na
 refine zAf Tryz.f139 ?_
 refine zAd 3<|zAa<|zAh<|zAd 1<|S_a [(6,.ret (I (zGv n)) [])] (ap (f76 n (by omega)) an)<|zAc 1<|zAa<|zAd 2<|zAa<|zK6 (zGv n=0) (by omega)<|zAl<|zAd 5<|zAa<|zAh<|zAd 2<|S_a [(0,.n n.l.length)] (ap (lnS prV n.l) an)<|zAc 1<|zAa<|zAk 0 ?_
 refine zAz (fun (i,M)=>i≤n.l.length∧M=(n.l.take i).map pr2) (fun (i,M)=>[(5,.box (zCJ n (.own 2 []) (zUP M) (List.replicate 8 0) (List.replicate 8 0))),(24,I (i:Nat))]) (fun (i,_)=>n.l.length-i) ((0:Nat),([]:List (Int×Int))) ⟨Nat.zero_le _,rfl⟩ fun (i,M) ⟨hi,hM⟩=>?_
 by_cases yT:i<n.l.length
 ·have yf:(n.l.take (i+1)).map pr2=M++[pr2 (n.l.getD i default)]:=by rw [zCO (d:=default) yT,List.map_append,← hM];rfl
  have hin:pr2 (n.l.getD i default)∉M:=fun hm=>by
   rw [← List.take_append_drop (i+1) n.l,List.map_append,yf] at h3
   have h2:=(List.nodup_append.1 h3).1
   have h3:=(List.nodup_append.1 h2).2.2
   exact h3 _ hm _ (List.mem_singleton.2 rfl) rfl
  have jJ:=zLr hin
  refine zAd 1<|zAa<|zAh<|zBa ((↑i:Int)<(↑n.l.length:Int)) (by omega)<|zAl<|zAh<|zAk 1<|zAh<|zAg<|S_a [(2,.v (PV.agg [I (n.l.getD i default).fst,I (n.l.getD i default).snd]))] (ap (zDh default (by omega):(List.map prV n.l)[i]? = some (PV.agg [I (n.l.getD i default).fst,I (n.l.getD i default).snd])) an)<|zAc 3<|zAa<|zAg<|zAc 5<|S_a [(6,.ret (prV (pr2 (n.l.getD i default))) [])] (ap (f110 (n.l.getD i default)) an)<|S_a [(4,.ix none),(0,.v (PV.omap (List.map zBF (M++[pr2 (n.l.getD i default)]))))] (ap jJ<|ap ((by simp):PV.omap (List.map zBF M++[(PV.agg [I (pr2 (n.l.getD i default)).fst,I (pr2 (n.l.getD i default)).snd],PV.bool true)])=PV.omap (List.map zBF (M++[pr2 (n.l.getD i default)]))) an)<|zAa<|zAg<|S_a [(1,.v (I (↑(i+1):Int)))] (ap (wrN i) an)<|zAc 1<|zAa ?_
  exact ⟨(i+1,M++[pr2 (n.l.getD i default)]),⟨by omega,yf.symm⟩,by simp only;omega,by kernel_rfl,by kernel_rfl⟩
 ·refine zAd 1<|zAa<|zAh<|zA0 ((↑i:Int)<(↑n.l.length:Int)) (by omega)<|zAL 0<|zAh<|zAd 2<|S_a [(0,.n n.n.length)] (ap (lnS ntV n.n) an)<|zAc 1<|zAa<|zAk 2 ?_
  rw [List.take_of_length_le (by omega)] at hM
  subst hM
  clear h3
  generalize hMM:n.l.map pr2=MM
  refine zAz (fun (i,F)=>i≤n.n.length∧F=zOM n.n i) (fun (i,F)=>[(5,.box (zCJ n (.own 2 []) (zUP MM) F (List.replicate 8 0))),(38,I (i:Nat))]) (fun (i,_)=>n.n.length-i) ((0:Nat),List.replicate 8 0) ⟨Nat.zero_le _,rfl⟩ fun (i,F) ⟨hi,hF⟩=>?_
  have hFl:F.length=8:=by rw [hF];exact zG9 i
  by_cases yT:i<n.n.length
  ·have h4i:=h4 i yT
   have yK:zOM n.n (i+1)=zMA F i (n.n.getD i default).1:=by rw [hF];rfl
   refine zAd 1<|zAa<|zAh<|zBa ((↑i:Int)<(↑n.n.length:Int)) (by omega)<|zAl<|zAh<|zAk 3<|zAd 1<|S_a [(2,.v (PV.agg [I (n.n.getD i default).fst,PV.bool (n.n.getD i default).snd]))] (ap (zDh default (by omega):(List.map ntV n.n)[i]? = some (PV.agg [I (n.n.getD i default).fst,PV.bool (n.n.getD i default).snd])) an)<|zAc 4<|zAa<|zAd 5<|S_a [(2,.ob),(1,.v (PV.addr 5 [] 0 (6+i) none))] (ap ((by exact zAu (by omega)):decide (i<8)=true)<|ap ((zFq (by kernel_rfl)):PV.addr 5 [] 0 (6+i*(fun x=>x.size) Tryz.prog.types[3]) none=PV.addr 5 [] 0 (6+i) none) an)<|S_a [(8,.root ((PV.agg [I n.h,prs n.l,PV.sl (List.map ntV n.n),PV.sl (List.map zBk n.s),PV.own 2 [],PV.omap (List.map zBF MM),zs F i 0,zs F i 1,zs F i 2,zs F i 3,zs F i 4,zs F i 5,zs F i 6,zs F i 7,z8 0,z8 1,z8 2,z8 3,z8 4,z8 5,z8 6,z8 7]).box) true)] (ap (zP4 (zKq (q:=(PV.agg [I n.h,prs n.l,PV.sl (List.map ntV n.n),PV.sl (List.map zBk n.s),PV.own 2 [],PV.omap (List.map zBF MM),I (F.getD 0 0),I (F.getD 1 0),I (F.getD 2 0),I (F.getD 3 0),I (F.getD 4 0),I (F.getD 5 0),I (F.getD 6 0),I (F.getD 7 0),z8 0,z8 1,z8 2,z8 3,z8 4,z8 5,z8 6,z8 7]).box) (xs:=[PV.agg [I n.h,prs n.l,PV.sl (List.map ntV n.n),PV.sl (List.map zBk n.s),PV.own 2 [],PV.omap (List.map zBF MM),I (F.getD 0 0),I (F.getD 1 0),I (F.getD 2 0),I (F.getD 3 0),I (F.getD 4 0),I (F.getD 5 0),I (F.getD 6 0),I (F.getD 7 0),z8 0,z8 1,z8 2,z8 3,z8 4,z8 5,z8 6,z8 7]]) (x:=PV.agg [I n.h,prs n.l,PV.sl (List.map ntV n.n),PV.sl (List.map zBk n.s),PV.own 2 [],PV.omap (List.map zBF MM),I (F.getD 0 0),I (F.getD 1 0),I (F.getD 2 0),I (F.getD 3 0),I (F.getD 4 0),I (F.getD 5 0),I (F.getD 6 0),I (F.getD 7 0),z8 0,z8 1,z8 2,z8 3,z8 4,z8 5,z8 6,z8 7]) (y:=PV.agg [I n.h,prs n.l,PV.sl (List.map ntV n.n),PV.sl (List.map zBk n.s),PV.own 2 [],PV.omap (List.map zBF MM),zs F i 0,zs F i 1,zs F i 2,zs F i 3,zs F i 4,zs F i 5,zs F i 6,zs F i 7,z8 0,z8 1,z8 2,z8 3,z8 4,z8 5,z8 6,z8 7]) (q':=(PV.agg [I n.h,prs n.l,PV.sl (List.map ntV n.n),PV.sl (List.map zBk n.s),PV.own 2 [],PV.omap (List.map zBF MM),zs F i 0,zs F i 1,zs F i 2,zs F i 3,zs F i 4,zs F i 5,zs F i 6,zs F i 7,z8 0,z8 1,z8 2,z8 3,z8 4,z8 5,z8 6,z8 7]).box) rfl (zON (A:=[I n.h,prs n.l,PV.sl (List.map ntV n.n),PV.sl (List.map zBk n.s),PV.own 2 [],PV.omap (List.map zBF MM)]) (B:=[z8 0,z8 1,z8 2,z8 3,z8 4,z8 5,z8 6,z8 7]) (F:=F) (m:=8) (j:=i) (u:=(↑i:Int)) (by first | rfl | exact zB1 (by kernel_rfl) | exact zB2 (by kernel_rfl) | (simp;done)) (by omega) (by omega)) rfl (hb:=zOC (A:=[I n.h,prs n.l,PV.sl (List.map ntV n.n),PV.sl (List.map zBk n.s),PV.own 2 [],PV.omap (List.map zBF MM)]) (B:=[z8 0,z8 1,z8 2,z8 3,z8 4,z8 5,z8 6,z8 7]) (F:=F) (m:=8) (j:=i) (by first | rfl | exact zB1 (by kernel_rfl) | exact zB2 (by kernel_rfl) | (simp;done)) (by omega))) rfl:zBS (PV.agg [I n.h,prs n.l,PV.sl (List.map ntV n.n),PV.sl (List.map zBk n.s),PV.own 2 [],PV.omap (List.map zBF MM),I (F.getD 0 0),I (F.getD 1 0),I (F.getD 2 0),I (F.getD 3 0),I (F.getD 4 0),I (F.getD 5 0),I (F.getD 6 0),I (F.getD 7 0),z8 0,z8 1,z8 2,z8 3,z8 4,z8 5,z8 6,z8 7]).box [] 0 (6+i) (I (↑i:Int)).cells=some (PV.agg [I n.h,prs n.l,PV.sl (List.map ntV n.n),PV.sl (List.map zBk n.s),PV.own 2 [],PV.omap (List.map zBF MM),zs F i 0,zs F i 1,zs F i 2,zs F i 3,zs F i 4,zs F i 5,zs F i 6,zs F i 7,z8 0,z8 1,z8 2,z8 3,z8 4,z8 5,z8 6,z8 7]).box∧zAP (PV.agg [I n.h,prs n.l,PV.sl (List.map ntV n.n),PV.sl (List.map zBk n.s),PV.own 2 [],PV.omap (List.map zBF MM),I (F.getD 0 0),I (F.getD 1 0),I (F.getD 2 0),I (F.getD 3 0),I (F.getD 4 0),I (F.getD 5 0),I (F.getD 6 0),I (F.getD 7 0),z8 0,z8 1,z8 2,z8 3,z8 4,z8 5,z8 6,z8 7]).box (PV.agg [I n.h,prs n.l,PV.sl (List.map ntV n.n),PV.sl (List.map zBk n.s),PV.own 2 [],PV.omap (List.map zBF MM),zs F i 0,zs F i 1,zs F i 2,zs F i 3,zs F i 4,zs F i 5,zs F i 6,zs F i 7,z8 0,z8 1,z8 2,z8 3,z8 4,z8 5,z8 6,z8 7]).box []=true) an)<|zAa<|zAd 3<|zAa<|zDT ((n.n.getD i default).fst = -1) (fun k0=>(zAg<|zAc 7<|S_a [(0,.ob),(1,.ob),(1,.v (PV.addr 5 [] 0 (6+(n.n.getD i default).fst.toNat) none))] (ap ((by exact zAu (by omega)):decide (0≤(n.n.getD i default).fst)=true)<|ap ((by exact zAu (by omega)):decide ((n.n.getD i default).fst.toNat<8)=true)<|ap ((zFq (by kernel_rfl)):PV.addr 5 [] 0 (6+(n.n.getD i default).fst.toNat*(fun x=>x.size) Tryz.prog.types[3]) none=PV.addr 5 [] 0 (6+(n.n.getD i default).fst.toNat) none) an)<|S_a [(0,.cs true ([I ((F.set i (↑i:Int)).getD (n.n.getD i default).fst.toNat 0)]))] (ap (zC8 (q:=(PV.agg [I n.h,prs n.l,PV.sl (List.map ntV n.n),PV.sl (List.map zBk n.s),PV.own 2 [],PV.omap (List.map zBF MM),zs F i 0,zs F i 1,zs F i 2,zs F i 3,zs F i 4,zs F i 5,zs F i 6,zs F i 7,z8 0,z8 1,z8 2,z8 3,z8 4,z8 5,z8 6,z8 7]).box) (xs:=[PV.agg [I n.h,prs n.l,PV.sl (List.map ntV n.n),PV.sl (List.map zBk n.s),PV.own 2 [],PV.omap (List.map zBF MM),zs F i 0,zs F i 1,zs F i 2,zs F i 3,zs F i 4,zs F i 5,zs F i 6,zs F i 7,z8 0,z8 1,z8 2,z8 3,z8 4,z8 5,z8 6,z8 7]]) (x:=PV.agg [I n.h,prs n.l,PV.sl (List.map ntV n.n),PV.sl (List.map zBk n.s),PV.own 2 [],PV.omap (List.map zBF MM),zs F i 0,zs F i 1,zs F i 2,zs F i 3,zs F i 4,zs F i 5,zs F i 6,zs F i 7,z8 0,z8 1,z8 2,z8 3,z8 4,z8 5,z8 6,z8 7]) rfl rfl (zKC (A:=[I n.h,prs n.l,PV.sl (List.map ntV n.n),PV.sl (List.map zBk n.s),PV.own 2 [],PV.omap (List.map zBF MM)]) (B:=[z8 0,z8 1,z8 2,z8 3,z8 4,z8 5,z8 6,z8 7]) (F:=F.set i (↑i:Int)) (m:=8) (j:=(n.n.getD i default).fst.toNat) (by first | rfl | exact zB1 (by kernel_rfl) | exact zB2 (by kernel_rfl) | (simp;done)) (by omega)):zAr 5 (PV.agg [I n.h,prs n.l,PV.sl (List.map ntV n.n),PV.sl (List.map zBk n.s),PV.own 2 [],PV.omap (List.map zBF MM),zs F i 0,zs F i 1,zs F i 2,zs F i 3,zs F i 4,zs F i 5,zs F i 6,zs F i 7,z8 0,z8 1,z8 2,z8 3,z8 4,z8 5,z8 6,z8 7]).box [] 0 (6+(n.n.getD i default).fst.toNat) 1=some (true,[I ((F.set i (↑i:Int)).getD (n.n.getD i default).fst.toNat 0)])) an)<|zAc 2<|S_a [(2,.ob),(1,.v (PV.addr 5 [] 0 (6+i) none))] (ap ((by exact zAu (by omega)):decide (i<8)=true)<|ap ((zFq (by kernel_rfl)):PV.addr 5 [] 0 (6+i*(fun x=>x.size) Tryz.prog.types[3]) none=PV.addr 5 [] 0 (6+i) none) an)<|S_a [(8,.root ((PV.agg [I n.h,prs n.l,PV.sl (List.map ntV n.n),PV.sl (List.map zBk n.s),PV.own 2 [],PV.omap (List.map zBF MM),I (((F.set i (↑i:Int)).set i ((F.set i (↑i:Int)).getD (n.n.getD i default).fst.toNat 0)).getD 0 0),I (((F.set i (↑i:Int)).set i ((F.set i (↑i:Int)).getD (n.n.getD i default).fst.toNat 0)).getD 1 0),I (((F.set i (↑i:Int)).set i ((F.set i (↑i:Int)).getD (n.n.getD i default).fst.toNat 0)).getD 2 0),I (((F.set i (↑i:Int)).set i ((F.set i (↑i:Int)).getD (n.n.getD i default).fst.toNat 0)).getD 3 0),I (((F.set i (↑i:Int)).set i ((F.set i (↑i:Int)).getD (n.n.getD i default).fst.toNat 0)).getD 4 0),I (((F.set i (↑i:Int)).set i ((F.set i (↑i:Int)).getD (n.n.getD i default).fst.toNat 0)).getD 5 0),I (((F.set i (↑i:Int)).set i ((F.set i (↑i:Int)).getD (n.n.getD i default).fst.toNat 0)).getD 6 0),I (((F.set i (↑i:Int)).set i ((F.set i (↑i:Int)).getD (n.n.getD i default).fst.toNat 0)).getD 7 0),z8 0,z8 1,z8 2,z8 3,z8 4,z8 5,z8 6,z8 7]).box) true)] (ap (zP4 (zKq (q:=(PV.agg [I n.h,prs n.l,PV.sl (List.map ntV n.n),PV.sl (List.map zBk n.s),PV.own 2 [],PV.omap (List.map zBF MM),zs F i 0,zs F i 1,zs F i 2,zs F i 3,zs F i 4,zs F i 5,zs F i 6,zs F i 7,z8 0,z8 1,z8 2,z8 3,z8 4,z8 5,z8 6,z8 7]).box) (xs:=[PV.agg [I n.h,prs n.l,PV.sl (List.map ntV n.n),PV.sl (List.map zBk n.s),PV.own 2 [],PV.omap (List.map zBF MM),zs F i 0,zs F i 1,zs F i 2,zs F i 3,zs F i 4,zs F i 5,zs F i 6,zs F i 7,z8 0,z8 1,z8 2,z8 3,z8 4,z8 5,z8 6,z8 7]]) (x:=PV.agg [I n.h,prs n.l,PV.sl (List.map ntV n.n),PV.sl (List.map zBk n.s),PV.own 2 [],PV.omap (List.map zBF MM),zs F i 0,zs F i 1,zs F i 2,zs F i 3,zs F i 4,zs F i 5,zs F i 6,zs F i 7,z8 0,z8 1,z8 2,z8 3,z8 4,z8 5,z8 6,z8 7]) (y:=PV.agg [I n.h,prs n.l,PV.sl (List.map ntV n.n),PV.sl (List.map zBk n.s),PV.own 2 [],PV.omap (List.map zBF MM),I (((F.set i (↑i:Int)).set i ((F.set i (↑i:Int)).getD (n.n.getD i default).fst.toNat 0)).getD 0 0),I (((F.set i (↑i:Int)).set i ((F.set i (↑i:Int)).getD (n.n.getD i default).fst.toNat 0)).getD 1 0),I (((F.set i (↑i:Int)).set i ((F.set i (↑i:Int)).getD (n.n.getD i default).fst.toNat 0)).getD 2 0),I (((F.set i (↑i:Int)).set i ((F.set i (↑i:Int)).getD (n.n.getD i default).fst.toNat 0)).getD 3 0),I (((F.set i (↑i:Int)).set i ((F.set i (↑i:Int)).getD (n.n.getD i default).fst.toNat 0)).getD 4 0),I (((F.set i (↑i:Int)).set i ((F.set i (↑i:Int)).getD (n.n.getD i default).fst.toNat 0)).getD 5 0),I (((F.set i (↑i:Int)).set i ((F.set i (↑i:Int)).getD (n.n.getD i default).fst.toNat 0)).getD 6 0),I (((F.set i (↑i:Int)).set i ((F.set i (↑i:Int)).getD (n.n.getD i default).fst.toNat 0)).getD 7 0),z8 0,z8 1,z8 2,z8 3,z8 4,z8 5,z8 6,z8 7]) (q':=(PV.agg [I n.h,prs n.l,PV.sl (List.map ntV n.n),PV.sl (List.map zBk n.s),PV.own 2 [],PV.omap (List.map zBF MM),I (((F.set i (↑i:Int)).set i ((F.set i (↑i:Int)).getD (n.n.getD i default).fst.toNat 0)).getD 0 0),I (((F.set i (↑i:Int)).set i ((F.set i (↑i:Int)).getD (n.n.getD i default).fst.toNat 0)).getD 1 0),I (((F.set i (↑i:Int)).set i ((F.set i (↑i:Int)).getD (n.n.getD i default).fst.toNat 0)).getD 2 0),I (((F.set i (↑i:Int)).set i ((F.set i (↑i:Int)).getD (n.n.getD i default).fst.toNat 0)).getD 3 0),I (((F.set i (↑i:Int)).set i ((F.set i (↑i:Int)).getD (n.n.getD i default).fst.toNat 0)).getD 4 0),I (((F.set i (↑i:Int)).set i ((F.set i (↑i:Int)).getD (n.n.getD i default).fst.toNat 0)).getD 5 0),I (((F.set i (↑i:Int)).set i ((F.set i (↑i:Int)).getD (n.n.getD i default).fst.toNat 0)).getD 6 0),I (((F.set i (↑i:Int)).set i ((F.set i (↑i:Int)).getD (n.n.getD i default).fst.toNat 0)).getD 7 0),z8 0,z8 1,z8 2,z8 3,z8 4,z8 5,z8 6,z8 7]).box) rfl (zON (A:=[I n.h,prs n.l,PV.sl (List.map ntV n.n),PV.sl (List.map zBk n.s),PV.own 2 [],PV.omap (List.map zBF MM)]) (B:=[z8 0,z8 1,z8 2,z8 3,z8 4,z8 5,z8 6,z8 7]) (F:=F.set i (↑i:Int)) (m:=8) (j:=i) (u:=(F.set i (↑i:Int)).getD (n.n.getD i default).fst.toNat 0) (by first | rfl | exact zB1 (by kernel_rfl) | exact zB2 (by kernel_rfl) | (simp;done)) (by omega) (by first | omega | (simp<;>omega))) rfl (hb:=zOC (A:=[I n.h,prs n.l,PV.sl (List.map ntV n.n),PV.sl (List.map zBk n.s),PV.own 2 [],PV.omap (List.map zBF MM)]) (B:=[z8 0,z8 1,z8 2,z8 3,z8 4,z8 5,z8 6,z8 7]) (F:=F.set i (↑i:Int)) (m:=8) (j:=i) (by first | rfl | exact zB1 (by kernel_rfl) | exact zB2 (by kernel_rfl) | (simp;done)) (by omega))) rfl:zBS (PV.agg [I n.h,prs n.l,PV.sl (List.map ntV n.n),PV.sl (List.map zBk n.s),PV.own 2 [],PV.omap (List.map zBF MM),zs F i 0,zs F i 1,zs F i 2,zs F i 3,zs F i 4,zs F i 5,zs F i 6,zs F i 7,z8 0,z8 1,z8 2,z8 3,z8 4,z8 5,z8 6,z8 7]).box [] 0 (6+i) (I ((F.set i (↑i:Int)).getD (n.n.getD i default).fst.toNat 0)).cells=some (PV.agg [I n.h,prs n.l,PV.sl (List.map ntV n.n),PV.sl (List.map zBk n.s),PV.own 2 [],PV.omap (List.map zBF MM),I (((F.set i (↑i:Int)).set i ((F.set i (↑i:Int)).getD (n.n.getD i default).fst.toNat 0)).getD 0 0),I (((F.set i (↑i:Int)).set i ((F.set i (↑i:Int)).getD (n.n.getD i default).fst.toNat 0)).getD 1 0),I (((F.set i (↑i:Int)).set i ((F.set i (↑i:Int)).getD (n.n.getD i default).fst.toNat 0)).getD 2 0),I (((F.set i (↑i:Int)).set i ((F.set i (↑i:Int)).getD (n.n.getD i default).fst.toNat 0)).getD 3 0),I (((F.set i (↑i:Int)).set i ((F.set i (↑i:Int)).getD (n.n.getD i default).fst.toNat 0)).getD 4 0),I (((F.set i (↑i:Int)).set i ((F.set i (↑i:Int)).getD (n.n.getD i default).fst.toNat 0)).getD 5 0),I (((F.set i (↑i:Int)).set i ((F.set i (↑i:Int)).getD (n.n.getD i default).fst.toNat 0)).getD 6 0),I (((F.set i (↑i:Int)).set i ((F.set i (↑i:Int)).getD (n.n.getD i default).fst.toNat 0)).getD 7 0),z8 0,z8 1,z8 2,z8 3,z8 4,z8 5,z8 6,z8 7]).box∧zAP (PV.agg [I n.h,prs n.l,PV.sl (List.map ntV n.n),PV.sl (List.map zBk n.s),PV.own 2 [],PV.omap (List.map zBF MM),zs F i 0,zs F i 1,zs F i 2,zs F i 3,zs F i 4,zs F i 5,zs F i 6,zs F i 7,z8 0,z8 1,z8 2,z8 3,z8 4,z8 5,z8 6,z8 7]).box (PV.agg [I n.h,prs n.l,PV.sl (List.map ntV n.n),PV.sl (List.map zBk n.s),PV.own 2 [],PV.omap (List.map zBF MM),I (((F.set i (↑i:Int)).set i ((F.set i (↑i:Int)).getD (n.n.getD i default).fst.toNat 0)).getD 0 0),I (((F.set i (↑i:Int)).set i ((F.set i (↑i:Int)).getD (n.n.getD i default).fst.toNat 0)).getD 1 0),I (((F.set i (↑i:Int)).set i ((F.set i (↑i:Int)).getD (n.n.getD i default).fst.toNat 0)).getD 2 0),I (((F.set i (↑i:Int)).set i ((F.set i (↑i:Int)).getD (n.n.getD i default).fst.toNat 0)).getD 3 0),I (((F.set i (↑i:Int)).set i ((F.set i (↑i:Int)).getD (n.n.getD i default).fst.toNat 0)).getD 4 0),I (((F.set i (↑i:Int)).set i ((F.set i (↑i:Int)).getD (n.n.getD i default).fst.toNat 0)).getD 5 0),I (((F.set i (↑i:Int)).set i ((F.set i (↑i:Int)).getD (n.n.getD i default).fst.toNat 0)).getD 6 0),I (((F.set i (↑i:Int)).set i ((F.set i (↑i:Int)).getD (n.n.getD i default).fst.toNat 0)).getD 7 0),z8 0,z8 1,z8 2,z8 3,z8 4,z8 5,z8 6,z8 7]).box []=true) an)<|zAa<|zAg<|S_a [(1,.v (I (↑(i+1):Int)))] (ap (wrN i) an)<|zAc 1<|zAa ?_)) (fun k0=>(zAl<|zAg<|S_a [(1,.v (I (↑(i+1):Int)))] (ap (wrN i) an)<|zAc 1<|zAa ?_))
   ·rw [zMA,if_neg k0] at yK
    exact ⟨(i+1,(F.set i i).set i ((F.set i i).getD (n.n.getD i default).1.toNat 0)),⟨by omega,yK.symm⟩,by simp only;omega,by kernel_rfl,by kernel_rfl⟩
   ·rw [zMA,if_pos k0] at yK
    exact ⟨(i+1,F.set i i),⟨by omega,yK.symm⟩,by simp only;omega,by kernel_rfl,by kernel_rfl⟩
  ·have hFF:F=zAj n:=by rw [hF,zAj,show i=n.n.length by omega]
   subst hFF
   clear hF
   have qt:zBl n=zUf (zAj n) n.n.length n.n.length:=rfl
   rw [qt]
   generalize hG:zAj n=F at *
   clear qt h4
   refine zAd 1<|zAa<|zAh<|zA0 ((↑i:Int)<(↑n.n.length:Int)) (by omega)<|zAL 2<|zAh<|zAd 2<|S_a [(0,.n n.n.length)] (ap (lnS ntV n.n) an)<|zAc 1<|zAa<|zAk 4 ?_
   refine zAz (fun (i,L)=>i≤n.n.length∧L=zUf F n.n.length i) (fun (i,L)=>[(5,.box (zCJ n (.own 2 []) (zUP MM) F L)),(68,I (i:Nat))]) (fun (i,_)=>n.n.length-i) ((0:Nat),List.replicate 8 0) ⟨Nat.zero_le _,rfl⟩ fun (i,L) ⟨hi,hL⟩=>?_
   have hLl:L.length=8:=by rw [hL];exact zOY i
   by_cases yT:i<n.n.length
   ·have yK:=zL0 (F:=F) (m:=n.n.length) (i:=i)
    rw [← hL] at yK
    refine zAd 1<|zAa<|zAh<|zBa ((↑i:Int)<(↑n.n.length:Int)) (by omega)<|zAl<|zAh<|zAk 5<|zAd 2<|zAa<|zAd 2<|S_a [(0,.n n.n.length)] (ap (lnS ntV n.n) an)<|zAc 1<|zAa<|zAk 6 ?_
    refine zAz (fun (k,Q)=>k≤n.n.length∧Q=zVu F i L k) (fun (k,Q)=>[(5,.box (zCJ n (.own 2 []) (zUP MM) F Q)),(74,I (k:Nat))]) (fun (k,_)=>n.n.length-k) ((0:Nat),L) ⟨Nat.zero_le _,rfl⟩ fun (k,Q) ⟨hk,hQ⟩=>?_
    have hQl:Q.length=8:=by rw [hQ,zLq];exact hLl
    by_cases v6:k<n.n.length
    ·have jO:=zLX (F:=F) (L:=L) (i:=i) (k:=k)
     rw [← hQ] at jO
     clear yK hL hQ
     refine zAd 1<|zAa<|zAh<|zBa ((↑k:Int)<(↑n.n.length:Int)) (by omega)<|zAl<|zAh<|zAk 7<|zAd 2<|zAa<|zAd 4<|S_a [(2,.ob),(1,.v (PV.addr 5 [] 0 (6+k) none))] (ap ((by exact zAu (by omega)):decide (k<8)=true)<|ap ((zFq (by kernel_rfl)):PV.addr 5 [] 0 (6+k*(fun x=>x.size) Tryz.prog.types[3]) none=PV.addr 5 [] 0 (6+k) none) an)<|S_a [(0,.cs true ([I (F.getD k 0)]))] (ap (zC8 (q:=(PV.agg [I n.h,prs n.l,PV.sl (List.map ntV n.n),PV.sl (List.map zBk n.s),PV.own 2 [],PV.omap (List.map zBF MM),I (F.getD 0 0),I (F.getD 1 0),I (F.getD 2 0),I (F.getD 3 0),I (F.getD 4 0),I (F.getD 5 0),I (F.getD 6 0),I (F.getD 7 0),I (Q.getD 0 0),I (Q.getD 1 0),I (Q.getD 2 0),I (Q.getD 3 0),I (Q.getD 4 0),I (Q.getD 5 0),I (Q.getD 6 0),I (Q.getD 7 0)]).box) (xs:=[PV.agg [I n.h,prs n.l,PV.sl (List.map ntV n.n),PV.sl (List.map zBk n.s),PV.own 2 [],PV.omap (List.map zBF MM),I (F.getD 0 0),I (F.getD 1 0),I (F.getD 2 0),I (F.getD 3 0),I (F.getD 4 0),I (F.getD 5 0),I (F.getD 6 0),I (F.getD 7 0),I (Q.getD 0 0),I (Q.getD 1 0),I (Q.getD 2 0),I (Q.getD 3 0),I (Q.getD 4 0),I (Q.getD 5 0),I (Q.getD 6 0),I (Q.getD 7 0)]]) (x:=PV.agg [I n.h,prs n.l,PV.sl (List.map ntV n.n),PV.sl (List.map zBk n.s),PV.own 2 [],PV.omap (List.map zBF MM),I (F.getD 0 0),I (F.getD 1 0),I (F.getD 2 0),I (F.getD 3 0),I (F.getD 4 0),I (F.getD 5 0),I (F.getD 6 0),I (F.getD 7 0),I (Q.getD 0 0),I (Q.getD 1 0),I (Q.getD 2 0),I (Q.getD 3 0),I (Q.getD 4 0),I (Q.getD 5 0),I (Q.getD 6 0),I (Q.getD 7 0)]) rfl rfl (zKC (A:=[I n.h,prs n.l,PV.sl (List.map ntV n.n),PV.sl (List.map zBk n.s),PV.own 2 [],PV.omap (List.map zBF MM)]) (B:=[I (Q.getD 0 0),I (Q.getD 1 0),I (Q.getD 2 0),I (Q.getD 3 0),I (Q.getD 4 0),I (Q.getD 5 0),I (Q.getD 6 0),I (Q.getD 7 0)]) (F:=F) (m:=8) (j:=k) (by first | rfl | exact zB1 (by kernel_rfl) | exact zB2 (by kernel_rfl) | (simp;done)) (by omega)):zAr 5 (PV.agg [I n.h,prs n.l,PV.sl (List.map ntV n.n),PV.sl (List.map zBk n.s),PV.own 2 [],PV.omap (List.map zBF MM),I (F.getD 0 0),I (F.getD 1 0),I (F.getD 2 0),I (F.getD 3 0),I (F.getD 4 0),I (F.getD 5 0),I (F.getD 6 0),I (F.getD 7 0),I (Q.getD 0 0),I (Q.getD 1 0),I (Q.getD 2 0),I (Q.getD 3 0),I (Q.getD 4 0),I (Q.getD 5 0),I (Q.getD 6 0),I (Q.getD 7 0)]).box [] 0 (6+k) 1=some (true,[I (F.getD k 0)])) an)<|zAc 4<|S_a [(2,.ob),(1,.v (PV.addr 5 [] 0 (6+i) none))] (ap ((by exact zAu (by omega)):decide (i<8)=true)<|ap ((zFq (by kernel_rfl)):PV.addr 5 [] 0 (6+i*(fun x=>x.size) Tryz.prog.types[3]) none=PV.addr 5 [] 0 (6+i) none) an)<|S_a [(0,.cs true ([I (F.getD i 0)]))] (ap (zC8 (q:=(PV.agg [I n.h,prs n.l,PV.sl (List.map ntV n.n),PV.sl (List.map zBk n.s),PV.own 2 [],PV.omap (List.map zBF MM),I (F.getD 0 0),I (F.getD 1 0),I (F.getD 2 0),I (F.getD 3 0),I (F.getD 4 0),I (F.getD 5 0),I (F.getD 6 0),I (F.getD 7 0),I (Q.getD 0 0),I (Q.getD 1 0),I (Q.getD 2 0),I (Q.getD 3 0),I (Q.getD 4 0),I (Q.getD 5 0),I (Q.getD 6 0),I (Q.getD 7 0)]).box) (xs:=[PV.agg [I n.h,prs n.l,PV.sl (List.map ntV n.n),PV.sl (List.map zBk n.s),PV.own 2 [],PV.omap (List.map zBF MM),I (F.getD 0 0),I (F.getD 1 0),I (F.getD 2 0),I (F.getD 3 0),I (F.getD 4 0),I (F.getD 5 0),I (F.getD 6 0),I (F.getD 7 0),I (Q.getD 0 0),I (Q.getD 1 0),I (Q.getD 2 0),I (Q.getD 3 0),I (Q.getD 4 0),I (Q.getD 5 0),I (Q.getD 6 0),I (Q.getD 7 0)]]) (x:=PV.agg [I n.h,prs n.l,PV.sl (List.map ntV n.n),PV.sl (List.map zBk n.s),PV.own 2 [],PV.omap (List.map zBF MM),I (F.getD 0 0),I (F.getD 1 0),I (F.getD 2 0),I (F.getD 3 0),I (F.getD 4 0),I (F.getD 5 0),I (F.getD 6 0),I (F.getD 7 0),I (Q.getD 0 0),I (Q.getD 1 0),I (Q.getD 2 0),I (Q.getD 3 0),I (Q.getD 4 0),I (Q.getD 5 0),I (Q.getD 6 0),I (Q.getD 7 0)]) rfl rfl (zKC (A:=[I n.h,prs n.l,PV.sl (List.map ntV n.n),PV.sl (List.map zBk n.s),PV.own 2 [],PV.omap (List.map zBF MM)]) (B:=[I (Q.getD 0 0),I (Q.getD 1 0),I (Q.getD 2 0),I (Q.getD 3 0),I (Q.getD 4 0),I (Q.getD 5 0),I (Q.getD 6 0),I (Q.getD 7 0)]) (F:=F) (m:=8) (j:=i) (by first | rfl | exact zB1 (by kernel_rfl) | exact zB2 (by kernel_rfl) | (simp;done)) (by omega)):zAr 5 (PV.agg [I n.h,prs n.l,PV.sl (List.map ntV n.n),PV.sl (List.map zBk n.s),PV.own 2 [],PV.omap (List.map zBF MM),I (F.getD 0 0),I (F.getD 1 0),I (F.getD 2 0),I (F.getD 3 0),I (F.getD 4 0),I (F.getD 5 0),I (F.getD 6 0),I (F.getD 7 0),I (Q.getD 0 0),I (Q.getD 1 0),I (Q.getD 2 0),I (Q.getD 3 0),I (Q.getD 4 0),I (Q.getD 5 0),I (Q.getD 6 0),I (Q.getD 7 0)]).box [] 0 (6+i) 1=some (true,[I (F.getD i 0)])) an)<|zAc 1<|zAa<|zCP (F.getD k 0=F.getD i 0) (fun k1=>(zAg<|zAc 6<|S_a [(2,.ob),(1,.v (PV.addr 5 [] 0 (14+i) none))] (ap ((by exact zAu (by omega)):decide (i<8)=true)<|ap ((zFq (by kernel_rfl)):PV.addr 5 [] 0 (14+i*(fun x=>x.size) Tryz.prog.types[3]) none=PV.addr 5 [] 0 (14+i) none) an)<|S_a [(0,.cs true ([I (Q.getD i 0)]))] (ap (zC8 (q:=(PV.agg [I n.h,prs n.l,PV.sl (List.map ntV n.n),PV.sl (List.map zBk n.s),PV.own 2 [],PV.omap (List.map zBF MM),I (F.getD 0 0),I (F.getD 1 0),I (F.getD 2 0),I (F.getD 3 0),I (F.getD 4 0),I (F.getD 5 0),I (F.getD 6 0),I (F.getD 7 0),I (Q.getD 0 0),I (Q.getD 1 0),I (Q.getD 2 0),I (Q.getD 3 0),I (Q.getD 4 0),I (Q.getD 5 0),I (Q.getD 6 0),I (Q.getD 7 0)]).box) (xs:=[PV.agg [I n.h,prs n.l,PV.sl (List.map ntV n.n),PV.sl (List.map zBk n.s),PV.own 2 [],PV.omap (List.map zBF MM),I (F.getD 0 0),I (F.getD 1 0),I (F.getD 2 0),I (F.getD 3 0),I (F.getD 4 0),I (F.getD 5 0),I (F.getD 6 0),I (F.getD 7 0),I (Q.getD 0 0),I (Q.getD 1 0),I (Q.getD 2 0),I (Q.getD 3 0),I (Q.getD 4 0),I (Q.getD 5 0),I (Q.getD 6 0),I (Q.getD 7 0)]]) (x:=PV.agg [I n.h,prs n.l,PV.sl (List.map ntV n.n),PV.sl (List.map zBk n.s),PV.own 2 [],PV.omap (List.map zBF MM),I (F.getD 0 0),I (F.getD 1 0),I (F.getD 2 0),I (F.getD 3 0),I (F.getD 4 0),I (F.getD 5 0),I (F.getD 6 0),I (F.getD 7 0),I (Q.getD 0 0),I (Q.getD 1 0),I (Q.getD 2 0),I (Q.getD 3 0),I (Q.getD 4 0),I (Q.getD 5 0),I (Q.getD 6 0),I (Q.getD 7 0)]) rfl rfl (zKC (A:=[I n.h,prs n.l,PV.sl (List.map ntV n.n),PV.sl (List.map zBk n.s),PV.own 2 [],PV.omap (List.map zBF MM),I (F.getD 0 0),I (F.getD 1 0),I (F.getD 2 0),I (F.getD 3 0),I (F.getD 4 0),I (F.getD 5 0),I (F.getD 6 0),I (F.getD 7 0)]) (B:=[]) (F:=Q) (m:=8) (j:=i) (by first | rfl | exact zB1 (by kernel_rfl) | exact zB2 (by kernel_rfl) | (simp;done)) (by omega)):zAr 5 (PV.agg [I n.h,prs n.l,PV.sl (List.map ntV n.n),PV.sl (List.map zBk n.s),PV.own 2 [],PV.omap (List.map zBF MM),I (F.getD 0 0),I (F.getD 1 0),I (F.getD 2 0),I (F.getD 3 0),I (F.getD 4 0),I (F.getD 5 0),I (F.getD 6 0),I (F.getD 7 0),I (Q.getD 0 0),I (Q.getD 1 0),I (Q.getD 2 0),I (Q.getD 3 0),I (Q.getD 4 0),I (Q.getD 5 0),I (Q.getD 6 0),I (Q.getD 7 0)]).box [] 0 (14+i) 1=some (true,[I (Q.getD i 0)])) an)<|zAc 2<|S_a [(9,.ret (I (max (Q.getD i 0) (↑k:Int))) [])] (ap (f165 (Q.getD i 0) ((↑k:Int))) an)<|zAc 2<|S_a [(2,.ob),(1,.v (PV.addr 5 [] 0 (14+i) none))] (ap ((by exact zAu (by omega)):decide (i<8)=true)<|ap ((zFq (by kernel_rfl)):PV.addr 5 [] 0 (14+i*(fun x=>x.size) Tryz.prog.types[3]) none=PV.addr 5 [] 0 (14+i) none) an)<|S_a [(8,.root ((PV.agg [I n.h,prs n.l,PV.sl (List.map ntV n.n),PV.sl (List.map zBk n.s),PV.own 2 [],PV.omap (List.map zBF MM),I (F.getD 0 0),I (F.getD 1 0),I (F.getD 2 0),I (F.getD 3 0),I (F.getD 4 0),I (F.getD 5 0),I (F.getD 6 0),I (F.getD 7 0),I ((Q.set i (max (Q.getD i 0) (↑k:Int))).getD 0 0),I ((Q.set i (max (Q.getD i 0) (↑k:Int))).getD 1 0),I ((Q.set i (max (Q.getD i 0) (↑k:Int))).getD 2 0),I ((Q.set i (max (Q.getD i 0) (↑k:Int))).getD 3 0),I ((Q.set i (max (Q.getD i 0) (↑k:Int))).getD 4 0),I ((Q.set i (max (Q.getD i 0) (↑k:Int))).getD 5 0),I ((Q.set i (max (Q.getD i 0) (↑k:Int))).getD 6 0),I ((Q.set i (max (Q.getD i 0) (↑k:Int))).getD 7 0)]).box) true)] (ap (zP4 (zKq (q:=(PV.agg [I n.h,prs n.l,PV.sl (List.map ntV n.n),PV.sl (List.map zBk n.s),PV.own 2 [],PV.omap (List.map zBF MM),I (F.getD 0 0),I (F.getD 1 0),I (F.getD 2 0),I (F.getD 3 0),I (F.getD 4 0),I (F.getD 5 0),I (F.getD 6 0),I (F.getD 7 0),I (Q.getD 0 0),I (Q.getD 1 0),I (Q.getD 2 0),I (Q.getD 3 0),I (Q.getD 4 0),I (Q.getD 5 0),I (Q.getD 6 0),I (Q.getD 7 0)]).box) (xs:=[PV.agg [I n.h,prs n.l,PV.sl (List.map ntV n.n),PV.sl (List.map zBk n.s),PV.own 2 [],PV.omap (List.map zBF MM),I (F.getD 0 0),I (F.getD 1 0),I (F.getD 2 0),I (F.getD 3 0),I (F.getD 4 0),I (F.getD 5 0),I (F.getD 6 0),I (F.getD 7 0),I (Q.getD 0 0),I (Q.getD 1 0),I (Q.getD 2 0),I (Q.getD 3 0),I (Q.getD 4 0),I (Q.getD 5 0),I (Q.getD 6 0),I (Q.getD 7 0)]]) (x:=PV.agg [I n.h,prs n.l,PV.sl (List.map ntV n.n),PV.sl (List.map zBk n.s),PV.own 2 [],PV.omap (List.map zBF MM),I (F.getD 0 0),I (F.getD 1 0),I (F.getD 2 0),I (F.getD 3 0),I (F.getD 4 0),I (F.getD 5 0),I (F.getD 6 0),I (F.getD 7 0),I (Q.getD 0 0),I (Q.getD 1 0),I (Q.getD 2 0),I (Q.getD 3 0),I (Q.getD 4 0),I (Q.getD 5 0),I (Q.getD 6 0),I (Q.getD 7 0)]) (y:=PV.agg [I n.h,prs n.l,PV.sl (List.map ntV n.n),PV.sl (List.map zBk n.s),PV.own 2 [],PV.omap (List.map zBF MM),I (F.getD 0 0),I (F.getD 1 0),I (F.getD 2 0),I (F.getD 3 0),I (F.getD 4 0),I (F.getD 5 0),I (F.getD 6 0),I (F.getD 7 0),I ((Q.set i (max (Q.getD i 0) (↑k:Int))).getD 0 0),I ((Q.set i (max (Q.getD i 0) (↑k:Int))).getD 1 0),I ((Q.set i (max (Q.getD i 0) (↑k:Int))).getD 2 0),I ((Q.set i (max (Q.getD i 0) (↑k:Int))).getD 3 0),I ((Q.set i (max (Q.getD i 0) (↑k:Int))).getD 4 0),I ((Q.set i (max (Q.getD i 0) (↑k:Int))).getD 5 0),I ((Q.set i (max (Q.getD i 0) (↑k:Int))).getD 6 0),I ((Q.set i (max (Q.getD i 0) (↑k:Int))).getD 7 0)]) (q':=(PV.agg [I n.h,prs n.l,PV.sl (List.map ntV n.n),PV.sl (List.map zBk n.s),PV.own 2 [],PV.omap (List.map zBF MM),I (F.getD 0 0),I (F.getD 1 0),I (F.getD 2 0),I (F.getD 3 0),I (F.getD 4 0),I (F.getD 5 0),I (F.getD 6 0),I (F.getD 7 0),I ((Q.set i (max (Q.getD i 0) (↑k:Int))).getD 0 0),I ((Q.set i (max (Q.getD i 0) (↑k:Int))).getD 1 0),I ((Q.set i (max (Q.getD i 0) (↑k:Int))).getD 2 0),I ((Q.set i (max (Q.getD i 0) (↑k:Int))).getD 3 0),I ((Q.set i (max (Q.getD i 0) (↑k:Int))).getD 4 0),I ((Q.set i (max (Q.getD i 0) (↑k:Int))).getD 5 0),I ((Q.set i (max (Q.getD i 0) (↑k:Int))).getD 6 0),I ((Q.set i (max (Q.getD i 0) (↑k:Int))).getD 7 0)]).box) rfl (zON (A:=[I n.h,prs n.l,PV.sl (List.map ntV n.n),PV.sl (List.map zBk n.s),PV.own 2 [],PV.omap (List.map zBF MM),I (F.getD 0 0),I (F.getD 1 0),I (F.getD 2 0),I (F.getD 3 0),I (F.getD 4 0),I (F.getD 5 0),I (F.getD 6 0),I (F.getD 7 0)]) (B:=[]) (F:=Q) (m:=8) (j:=i) (u:=max (Q.getD i 0) (↑k:Int)) (by first | rfl | exact zB1 (by kernel_rfl) | exact zB2 (by kernel_rfl) | (simp;done)) (by omega) (by omega)) rfl (hb:=zOC (A:=[I n.h,prs n.l,PV.sl (List.map ntV n.n),PV.sl (List.map zBk n.s),PV.own 2 [],PV.omap (List.map zBF MM),I (F.getD 0 0),I (F.getD 1 0),I (F.getD 2 0),I (F.getD 3 0),I (F.getD 4 0),I (F.getD 5 0),I (F.getD 6 0),I (F.getD 7 0)]) (B:=[]) (F:=Q) (m:=8) (j:=i) (by first | rfl | exact zB1 (by kernel_rfl) | exact zB2 (by kernel_rfl) | (simp;done)) (by omega))) rfl:zBS (PV.agg [I n.h,prs n.l,PV.sl (List.map ntV n.n),PV.sl (List.map zBk n.s),PV.own 2 [],PV.omap (List.map zBF MM),I (F.getD 0 0),I (F.getD 1 0),I (F.getD 2 0),I (F.getD 3 0),I (F.getD 4 0),I (F.getD 5 0),I (F.getD 6 0),I (F.getD 7 0),I (Q.getD 0 0),I (Q.getD 1 0),I (Q.getD 2 0),I (Q.getD 3 0),I (Q.getD 4 0),I (Q.getD 5 0),I (Q.getD 6 0),I (Q.getD 7 0)]).box [] 0 (14+i) (I (max (Q.getD i 0) (↑k:Int))).cells=some (PV.agg [I n.h,prs n.l,PV.sl (List.map ntV n.n),PV.sl (List.map zBk n.s),PV.own 2 [],PV.omap (List.map zBF MM),I (F.getD 0 0),I (F.getD 1 0),I (F.getD 2 0),I (F.getD 3 0),I (F.getD 4 0),I (F.getD 5 0),I (F.getD 6 0),I (F.getD 7 0),I ((Q.set i (max (Q.getD i 0) (↑k:Int))).getD 0 0),I ((Q.set i (max (Q.getD i 0) (↑k:Int))).getD 1 0),I ((Q.set i (max (Q.getD i 0) (↑k:Int))).getD 2 0),I ((Q.set i (max (Q.getD i 0) (↑k:Int))).getD 3 0),I ((Q.set i (max (Q.getD i 0) (↑k:Int))).getD 4 0),I ((Q.set i (max (Q.getD i 0) (↑k:Int))).getD 5 0),I ((Q.set i (max (Q.getD i 0) (↑k:Int))).getD 6 0),I ((Q.set i (max (Q.getD i 0) (↑k:Int))).getD 7 0)]).box∧zAP (PV.agg [I n.h,prs n.l,PV.sl (List.map ntV n.n),PV.sl (List.map zBk n.s),PV.own 2 [],PV.omap (List.map zBF MM),I (F.getD 0 0),I (F.getD 1 0),I (F.getD 2 0),I (F.getD 3 0),I (F.getD 4 0),I (F.getD 5 0),I (F.getD 6 0),I (F.getD 7 0),I (Q.getD 0 0),I (Q.getD 1 0),I (Q.getD 2 0),I (Q.getD 3 0),I (Q.getD 4 0),I (Q.getD 5 0),I (Q.getD 6 0),I (Q.getD 7 0)]).box (PV.agg [I n.h,prs n.l,PV.sl (List.map ntV n.n),PV.sl (List.map zBk n.s),PV.own 2 [],PV.omap (List.map zBF MM),I (F.getD 0 0),I (F.getD 1 0),I (F.getD 2 0),I (F.getD 3 0),I (F.getD 4 0),I (F.getD 5 0),I (F.getD 6 0),I (F.getD 7 0),I ((Q.set i (max (Q.getD i 0) (↑k:Int))).getD 0 0),I ((Q.set i (max (Q.getD i 0) (↑k:Int))).getD 1 0),I ((Q.set i (max (Q.getD i 0) (↑k:Int))).getD 2 0),I ((Q.set i (max (Q.getD i 0) (↑k:Int))).getD 3 0),I ((Q.set i (max (Q.getD i 0) (↑k:Int))).getD 4 0),I ((Q.set i (max (Q.getD i 0) (↑k:Int))).getD 5 0),I ((Q.set i (max (Q.getD i 0) (↑k:Int))).getD 6 0),I ((Q.set i (max (Q.getD i 0) (↑k:Int))).getD 7 0)]).box []=true) an)<|zAa<|zAg<|S_a [(1,.v (I (↑(k+1):Int)))] (ap (wrN k) an)<|zAc 1<|zAa ?_)) (fun k1=>(zAl<|zAg<|S_a [(1,.v (I (↑(k+1):Int)))] (ap (wrN k) an)<|zAc 1<|zAa ?_))
     ·rw [zPA,if_pos (by assumption)] at jO
      exact ⟨(k+1,Q.set i (max (Q.getD i 0) k)),⟨by omega,jO.symm⟩,by simp only;omega,by kernel_rfl,by kernel_rfl⟩
     ·rw [zPA,if_neg (by assumption)] at jO
      exact ⟨(k+1,Q),⟨by omega,jO.symm⟩,by simp only;omega,by kernel_rfl,by kernel_rfl⟩
    ·refine zAd 1<|zAa<|zAh<|zA0 ((↑k:Int)<(↑n.n.length:Int)) (by omega)<|zAL 6<|zAg<|S_a [(1,.v (I (↑(i+1):Int)))] (ap (wrN i) an)<|zAc 1<|zAa ?_
     exact ⟨(i+1,Q),⟨by omega,by rw [yK,hQ,show k=n.n.length by omega]⟩,by simp only;omega,by kernel_rfl,by kernel_rfl⟩
   ·refine zAd 1<|zAa<|zAh<|zA0 ((↑i:Int)<(↑n.n.length:Int)) (by omega)<|zAL 4<|zAd 1<|zAc 1<|zAc 1<|zAa<|zAn<|E_a [] an (PV.tup [(PV.agg [I n.h,prs n.l,PV.sl (List.map ntV n.n),PV.sl (List.map zBk n.s),PV.own 2 [],PV.omap (List.map zBF MM),I (F.getD 0 0),I (F.getD 1 0),I (F.getD 2 0),I (F.getD 3 0),I (F.getD 4 0),I (F.getD 5 0),I (F.getD 6 0),I (F.getD 7 0),I (L.getD 0 0),I (L.getD 1 0),I (L.getD 2 0),I (L.getD 3 0),I (L.getD 4 0),I (L.getD 5 0),I (L.getD 6 0),I (L.getD 7 0)]).box,I 0]) [] ?_ rfl
    rw [hL,show i=n.n.length by omega]
end
end Go.Eng
set_option maxRecDepth 10000
set_option maxHeartbeats 4000000
namespace Go.Eng
open Go Go.Proofs
abbrev mapM (M:List (Int×Int)):PV := .map (M.map zBF)
abbrev zDN (n:Nw) (cs:List (Int×Int)):PV := .ref (zCJ n (prs cs) (mapM (n.l.map pr2)) (zAj n) (zBl n))
def zIn (n:Nw) (c:Int×Int):Bool:=inB c.1 0 (n.n.length-1)&&inB c.2 0 (n.s.length-1)
def zP5 (n:Nw) (cs:List (Int×Int)):Int:=if zGv n=0 then if (cs.length:Int)>16 then 2 else if (!cs.all fun c=>zIn n c)=true then 1 else 0 else zGv n
def zP3 (n:Nw) (cs:List (Int×Int)) (e:Int):Int:=if zP5 n cs=0 then if inB e 0 12=true then 0 else 3 else zP5 n cs
structure CrOk (n:Nw) (cs:List (Int×Int)):Prop where
 err:zP5 n cs=0
 nw:NwOk n
 len:cs.length≤16
 cs:∀ c∈cs,(0≤c.1∧c.1<n.n.length)∧(0≤c.2∧c.2<n.s.length)
structure CrW (n:Nw) (cs:List (Int×Int)):Prop where
 nw:NwOk n
 len:cs.length≤1000
 cs:∀ c∈cs,(0≤c.1∧c.1<n.n.length)∧(0≤c.2∧c.2<n.s.length)
theorem CrOk.w {n:Nw} {cs:List (Int×Int)} (h:CrOk n cs):CrW n cs:=⟨h.nw,by have:=h.len;omega,h.cs⟩
theorem zVa {n:Nw} {cs:List (Int×Int)} (he:zP5 n cs=0):CrOk n cs:=by
 have he0:=he
 unfold zP5 at he
 split at he
 case isFalse h=>exact absurd he h
 rename_i c1
 split at he
 ·cases he
 split at he
 ·cases he
 rename_i c2 c3
 simp only [Bool.not_eq_true,Bool.not_eq_false',List.all_eq_true] at c3
 refine ⟨he0,zU2 c1,by omega,fun c hc=>?_⟩
 have:=c3 c hc
 simp only [zIn,Bool.and_eq_true] at this
 have b1:=zFs this.1
 have b2:=zFs this.2
 omega
structure EvOk (n:Nw) (cs:List (Int×Int)) (e:Int):Prop where
 err:zP3 n cs e=0
 cr:CrOk n cs
 ev:0≤e∧e≤12
theorem zTK {n:Nw} {cs:List (Int×Int)} {e:Int} (he:zP3 n cs e=0):EvOk n cs e:=by
 have he0:=he
 unfold zP3 at he
 split at he
 case isFalse h=>exact absurd he h
 rename_i c1
 split at he
 ·rename_i h;exact ⟨he0,zVa c1,zFs h⟩
 ·cases he
section
variable [Yo]
theorem f170 (n:Nw) (x:Int) (hb:n.s.length≤6):FG 170 [nwV n,I x] (.bool (inB x 0 (n.s.length-1))):=by
 refine zAf Tryz.f170 ?_
 refine zAd 2<|zAa<|zAd 3<|S_a [(0,.n n.s.length)] (ap (lnS zBk n.s) an)<|S_a [(1,.v (I ((↑n.s.length:Int)-1)))] (ap ((zCr rfl (by omega)):I (IntKind.i64.wrap ((↑n.s.length:Int)-1))=I ((↑n.s.length:Int)-1)) an)<|S_a [(10,.ret (PV.bool (inB x 0 ((↑n.s.length:Int)-1))) [])] (ap (f107 x (0) ((↑n.s.length:Int)-1)) an)<|zAc 1<|zAa<|zAn<|E_a [] an (PV.bool (inB x 0 ((↑n.s.length:Int)-1))) [] rfl rfl
theorem f118 (n:Nw) (c:Int×Int) (cp:PV) (M:List (Int×Int)) (F L:List Int) (ho:NwOk n):FG 118 [.ref (zCJ n cp (mapM M) F L),prV c] (.bool (zIn n c)):=by
 have h1:=ho.nl.2
 have h2:=ho.sl.2
 refine zAf Tryz.f118 ?_
 refine zAd 2<|zAa<|zAd 6<|S_a [(8,.ret (PV.bool (inB c.fst 0 ((↑n.n.length:Int)-1))) [])] (ap (f106 n c.fst (by omega)) an)<|zAc 1<|zFg 12 (inB c.fst 0 ((↑n.n.length:Int)-1)) (fun k0=>(zAc 6<|S_a [(8,.ret (PV.bool (inB c.snd 0 ((↑n.s.length:Int)-1))) [])] (ap (f170 n c.snd (by omega)) an)<|zAc 2<|zAa<|zAn<|E_a [] an (PV.bool (inB c.snd 0 ((↑n.s.length:Int)-1))) [] ?_ rfl)) (fun k0=>(zAc 9<|zAa<|zAn<|E_a [] an (PV.bool false) [] ?_ rfl))
 ·simp only [zIn,k0,Bool.true_and]
 ·simp only [zIn,k0,Bool.false_and]
theorem f204_1 (n:Nw) (M:List (Int×Int)) (F L:List Int) (ho:NwOk n) (x:Int×Int):FG 204 [prV x,.ref (.func 118 [.ref (zCJ n (.sl []) (mapM M) F L)] [])] (.bool (!(zIn n x))):=by
 refine zAf Tryz.f204 ?_
 refine zAd 2<|zAa<|zAd 2<|S_a [(7,.ret (PV.bool (zIn n x)) [])] (ap (f118 n x (PV.sl []) M F L (by omega)) an)<|zAc 2<|zAa<|zAn<|E_a [] an (PV.bool !zIn n x) [] rfl rfl
theorem f203_1 (n:Nw) (M:List (Int×Int)) (F L:List Int) (ho:NwOk n) (l:List (Int×Int)) (hl:l.length<4294967296):FG 203 [.sl (l.map prV),.func 204 [] [.ref (.func 118 [.ref (zCJ n (.sl []) (mapM M) F L)] [])]] (I (zEf (fun x => !(zIn n x)) l)):=by
 refine zAf Tryz.f203 ?_
 refine zAd 1<|zAa<|zAh<|zAd 1<|S_a [(0,.n l.length)] (ap (lnS prV l) an)<|zAc 1<|zAa<|zAk 0 ?_
 refine zAz (fun i=>i≤l.length∧∀ j,j<i→(fun x => !(zIn n x)) (l.getD j default)=false) (fun i=>[(8,I (i:Nat))]) (fun i=>l.length-i) (0:Nat) (by simp) fun i ⟨hi,ha⟩=>?_
 refine zAd 1<|zAa<|zAh<|zCP ((↑i:Int)<(↑l.length:Int)) (fun k0=>(zAl<|zAh<|zAk 1<|zAd 2<|zAa<|zAd 3<|S_a [(2,.v (PV.agg [I (l.getD i default).fst,I (l.getD i default).snd]))] (ap (zDh default (by omega):(List.map prV l)[i]? = some (PV.agg [I (l.getD i default).fst,I (l.getD i default).snd])) an)<|zAc 1<|S_a [(7,.ret (PV.bool !zIn n (l.getD i default)) [])] (ap (f204_1 n M F L (by omega) (l.getD i default)) an)<|zAa<|zFM (!zIn n (l.getD i default)) (fun k1=>(zAd 2<|zAa<|zAn<|E_a [] an (I (↑i:Int)) [] ?_ rfl)) (fun k1=>(zAl<|zAg<|S_a [(1,.v (I (↑(i+1):Int)))] (ap (wrN i) an)<|zAc 1<|zAa ?_)))) (fun k0=>(zAL 0<|zAd 1<|zAa<|zAn<|E_a [] an (I (-1)) [] ?_ rfl))
 ·rw [zBT (i:=i) (by omega) (fun j hj=>by rw [← zAA (d:=default)];exact ha j hj) (by rw [← zAA (d:=default)];first | assumption | exact decide_eq_true ‹_› | (simp only [Bool.not_eq_true',decide_eq_false_iff_not];assumption))]
 ·refine ⟨i+1,⟨by omega,fun j hj=>?_⟩,by omega,by kernel_rfl,by kernel_rfl⟩
  rcases Nat.lt_succ_iff_lt_or_eq.1 hj with h | rfl
  ·exact ha j h
  ·first | assumption | exact decide_eq_false ‹_› | (simp only [Bool.not_eq_false',decide_eq_true_eq];first | assumption | (apply Decidable.of_not_not;assumption))
 ·rw [zB9 fun j hj=>by rw [← zAA (d:=default)];exact ha j (by omega)]
theorem f159_1 (n:Nw) (M:List (Int×Int)) (F L:List Int) (ho:NwOk n) (l:List (Int×Int)) (hl:l.length<4294967296):FG 159 [.sl (l.map prV),.func 204 [] [.ref (.func 118 [.ref (zCJ n (.sl []) (mapM M) F L)] [])]] (.bool (l.any (fun x => !(zIn n x)))):=by
 refine zAf Tryz.f159 ?_
 refine zAd 1<|zAa<|zAd 2<|S_a [(7,.ret (I (zEf (fun x => !zIn n x) l)) [])] (ap (f203_1 n M F L (by omega) l (by omega)) an)<|zAc 2<|zAa<|zAn<|E_a [] an (PV.bool (decide (zEf (fun x => !zIn n x) l≥0))) [] ?_ rfl
 rw [zDM]
theorem f164_1 (n:Nw) (M:List (Int×Int)) (F L:List Int) (ho:NwOk n) (l:List (Int×Int)) (hl:l.length<4294967296):FG 164 [.sl (l.map prV),.func 118 [.ref (zCJ n (.sl []) (mapM M) F L)] []] (.bool (l.all (fun x=>zIn n x))):=by
 refine zAf Tryz.f164 ?_
 refine zAd 2<|zAa<|zAd 2<|S_a [(12,.ret (PV.bool (l.any fun x => !zIn n x)) [])] (ap (f159_1 n M F L (by omega) l (by omega)) an)<|zAc 2<|zAa<|zAn<|E_a [] an (PV.bool !l.any fun x => !zIn n x) [] ?_ rfl
 simp [List.not_any_eq_all_not]
theorem f99_1 (n:Nw) (cs:List (Int×Int)) (ho:CrOk n cs):FG 99 [nwV n,prs cs] (.tup [zDN n cs,I 0]):=by
 have hn:=ho.nw
 have hl:=ho.len
 have ha:(!cs.all fun c=>zIn n c)=false:=by
  simp only [Bool.not_eq_false',List.all_eq_true]
  intro c hc
  have:=ho.cs c hc
  simp only [zIn,inB,Bool.and_eq_true,decide_eq_true_eq];omega
 refine zAf Tryz.f99 ?_
 refine zAd 3<|zAa<|zAd 1<|S_a [(6,.ret (PV.tup [(zCJ n (PV.own 2 []) (zUP (List.map pr2 n.l)) (zAj n) (zBl n)).box,I 0]) [])] (ap (f139_1 n (by omega)) an)<|zAc 5<|zAa<|zAh<|zAk 0<|zAd 3<|zAa<|zAE<|zAd 1<|S_a [(0,.n cs.length)] (ap (lnS prV cs) an)<|zAc 2<|zAa<|zA0 ((↑cs.length:Int)>16) (by omega)<|zAd 3<|S_a [(13,.ret (PV.bool (cs.all fun x=>zIn n x)) [])] (ap (f164_1 n (List.map pr2 n.l) (zAj n) (zBl n) (by omega) cs (by omega)) an)<|zAc 2<|zAa<|zFM (!cs.all fun x=>zIn n x) (fun k0=>(zAd 2<|zAa<|zAn<|E_a [] an (PV.tup [PV.nilp,I 1]) [] ?_ rfl)) (fun k0=>(zAl<|zAd 5<|zAa<|zAd 1<|zAc 1<|zAc 1<|zAa<|zAn<|E_a [] an (PV.tup [(PV.agg (I n.h::prs n.l::PV.sl (List.map ntV n.n)::PV.sl (List.map zBk n.s)::prs cs::PV.map (List.map zBF (List.map pr2 n.l))::(zAV (zAj n) 8++zAV (zBl n) 8))).ref,I 0]) [] rfl rfl))
 rw [ha] at k0;cases k0
theorem f90_1 (n:Nw) (cs:List (Int×Int)) (e:Int) (ho:EvOk n cs e):FG 90 [nwV n,prs cs,I e] (.tup [zDN n cs,I 0]):=by
 have hc:=ho.cr
 have he:inB e 0 12=true:=by have:=ho.ev;simp only [inB,Bool.and_eq_true,decide_eq_true_eq];omega
 refine zAf Tryz.f90 ?_
 refine zAd 3<|zAa<|zAd 2<|S_a [(8,.ret (PV.tup [zDN n cs,I 0]) [])] (ap (f99_1 n cs (by omega)) an)<|zAc 5<|zAa<|zAh<|zAd 4<|S_a [(10,.ret (PV.bool (inB e 0 12)) [])] (ap (f107 e (0) (12)) an)<|zAc 2<|zAa<|zFM (!inB e 0 12) (fun k0=>(zAg<|zAc 1<|zAa<|zAh<|zAd 2<|zAa<|zD8<|zAd 3<|zAa<|zAn<|E_a [] an (PV.tup [PV.nilp,I 3]) [] ?_ rfl)) (fun k0=>(zAl<|zAh<|zAd 2<|zAa<|zAE<|zAl<|zAd 3<|zAa<|zAn<|E_a [] an (PV.tup [(PV.agg (I n.h::prs n.l::PV.sl (List.map ntV n.n)::PV.sl (List.map zBk n.s)::prs cs::PV.map (List.map zBF (List.map pr2 n.l))::(zAV (zAj n) 8++zAV (zBl n) 8))).ref,I 0]) [] rfl rfl))
 rw [he] at k0;cases k0
theorem f140 (n:Nw) (cp:PV) (M:List (Int×Int)) (F L:List Int) (ho:NwOk n) (h:Int) (s:Int) (hs:0≤s∧s<n.s.length):FG 140 [.ref (zCJ n cp (mapM M) F L),I h,I s] (.bool (has (n.s.getD s.toNat []) h)):=by
 have h1:=zCk (d:=[]) ho.rows s.toNat (by omega)
 refine zAf Tryz.f140 ?_
 refine zAd 1<|zAa<|zAd 6<|S_a [(0,.ob),(1,.v (zBk (n.s.getD s.toNat [])))] (ap ((by exact zAu (by omega)):decide (0≤s)=true)<|ap (zDh [] (by omega):(List.map zBk n.s)[s.toNat]? = some (zBk (n.s.getD s.toNat []))) an)<|zAc 2<|S_a [(8,.ret (PV.bool (has (n.s.getD s.toNat []) h)) [])] (ap (f58 (n.s.getD s.toNat []) h (by omega)) an)<|zAc 1<|zAa<|zAn<|E_a [] an (PV.bool (has (n.s.getD s.toNat []) h)) [] rfl rfl
theorem f116 (n:Nw) (cs:List (Int×Int)) (h:Int):FG 116 [zDN n cs,I h] (.func 169 [] [.ref (zDN n cs),.ref (I h)]):=by
 refine zAf Tryz.f116 ?_
 refine zAd 3<|zAa<|zAd 2<|zAa<|zAn<|E_a [] an (PV.func 169 [] [(PV.agg (I n.h::prs n.l::PV.sl (List.map ntV n.n)::PV.sl (List.map zBk n.s)::prs cs::PV.map (List.map zBF (List.map pr2 n.l))::(zAV (zAj n) 8++zAV (zBl n) 8))).ref.ref,(I h).ref]) [] rfl rfl
end
def zF7 (n:Nw) (a b:Int):Bool:=decide (pr2 (a,b)∈n.l.map pr2)
def zHi (n:Nw) (h:Nat) (o:Nat):List Nat:=(List.range o).filter fun o=>zF7 n h o
theorem zMV {n:Nw} {h o:Nat}:zHi n h (o+1)=if zF7 n h o=true then zHi n h o++[o] else zHi n h o:=by
 unfold zHi;rw [List.range_succ,List.filter_append]
 by_cases hn:zF7 n h o=true
 ·rw [if_pos hn];simp [hn]
 ·rw [if_neg hn];simp [hn]
theorem zS7 {n:Nw} {h t m:Nat} (ht:t≤m):zHi n h t <+: zHi n h m:=by
  induction ht with
  | refl=>exact List.prefix_refl _
  | step _ ih => rw [zMV];split
                 · exact ih.trans (List.prefix_append _ _)
                 · exact ih
theorem zTc {α:Type} {x y:List α} (h:x <+: y) {k:Int} (hk:k=x.length):x=y.take k.toNat:=by
 rw [hk,Int.toNat_natCast];exact List.prefix_iff_eq_take.1 h
abbrev zIC (n:Nw) (h o:Nat):List (List PV):=(zHi n h o).map fun (o:Nat)=>[I o]
abbrev zSq (n:Nw) (cs:List (Int×Int)) (h:Nat):List PV:=[.ref (zDN n cs),.ref (I h)]
theorem zVG [Yo] (n:Nw) (cs:List (Int×Int)) (h:Nat) (ho:NwOk n) (hh:(h:Int)<n.h) (k:Int) (hk:k = -1∨1≤k∧k≤(zHi n h n.h.toNat).length) (i:Nat):W Tryz.prog zCK 169 Tryz.f169.ntmps (Tryz.f169.body.getD .ret) (zA7 ([]++PV.yld i::zSq n cs h) []) (some ⟨[],k,i⟩) fun x _ lg=>(x = .norm∨x = .ret)∧lg.map (·.xs)=some (if k = -1 then zIC n h n.h.toNat else (zIC n h n.h.toNat).take k.toNat):=by
 have hb:=ho.h
 refine zAd 6<|zAa<|zAk 0 ?_
 refine zU5 (fun (o,xs,kc)=>o≤n.h.toNat∧xs=zIC n h o∧kc=k-xs.length∧(k = -1∨1≤kc)) (fun (o,_,_)=>[(10,I (o:Nat))]) (fun (_,xs,kc)=>some ⟨xs,kc,i⟩) (fun (o,_,_)=>n.h.toNat-o) ((0:Nat),([]:List (List PV)),k) ⟨Nat.zero_le _,rfl,by simp,by omega⟩ fun (o,xs,kc) ⟨hr,jW,hkc,jP⟩=>?_
 by_cases hol:(o:Int)<n.h
 ·have yp:=zMV (n:=n) (h:=h) (o:=o)
  by_cases hI:zF7 n h o=true
  ·rw [if_pos hI] at yp
   have gq:pr2 ((h:Int),(o:Int))∈n.l.map pr2:=by simpa [zF7] using hI
   obtain ⟨j,hj,jJ⟩:=zRv gq
   have kL:zJy ((n.l.map pr2).map zBF) j=some (.bool true):=by
    have:j<n.l.length:=by simpa using hj
    simp [zJy,this]
   have qc:xs++[[I o]]=zIC n h (o+1):=by rw [zIC,yp,List.map_append,jW];rfl
   have uc:xs++[[I o]] <+: zIC n h n.h.toNat:=by rw [qc];exact (zS7 (by omega)).map _
   refine zAd 1<|zAa<|zAh<|zBa ((↑o:Int)<n.h) (by omega)<|zAl<|zAh<|zAk 1<|zAd 2<|zAa<|zAd 7<|S_a [(6,.ret (prV (pr2 ((↑h:Int),(↑o:Int)))) [])] (ap (f110 (((↑h:Int),(↑o:Int)))) an)<|S_a [(2,.ix (some j)),(0,.v (PV.bool true))] (ap jJ<|ap (kL:zJy (List.map zBF (List.map pr2 n.l)) j=some (PV.bool true)) an)<|zAc 3 ?_
   refine zVt kc xs [I o] i (fun hk3=>?_) (fun hk3=>?_) (by omega)
   ·refine zAc 2<|zAa<|zD8<|zAn ?_
    refine ⟨.inr rfl,?_⟩
    have w7:k=(xs++[[I (o:Int)]]).length:=by simp;omega
    have jP:¬ k = -1:=by omega
    rw [if_neg jP,← zTc uc w7];show Option.map _ _=_;kernel_rfl
   ·refine zAc 2<|zAa<|zAE<|zAl<|zAg<|S_a [(1,.v (I (↑(o+1):Int)))] (ap (wrN o) an)<|zAc 1<|zAa ?_
    exact ⟨(o+1,xs++[[I o]],kc-1),⟨by omega,qc,by simp;omega,by omega⟩,by simp only;omega,by kernel_rfl,by kernel_rfl⟩
  ·rw [if_neg hI] at yp
   have gq:pr2 ((h:Int),(o:Int))∉n.l.map pr2:=by simpa [zF7] using hI
   have jJ:=zLr gq
   refine zAd 1<|zAa<|zAh<|zBa ((↑o:Int)<n.h) (by omega)<|zAl<|zAh<|zAk 1<|zAd 2<|zAa<|zAd 7<|S_a [(6,.ret (prV (pr2 ((↑h:Int),(↑o:Int)))) [])] (ap (f110 (((↑h:Int),(↑o:Int)))) an)<|S_a [(2,.ix none)] (ap jJ an)<|zAc 6<|zAa<|zAE<|zAl<|zAg<|S_a [(1,.v (I (↑(o+1):Int)))] (ap (wrN o) an)<|zAc 1<|zAa ?_
   exact ⟨(o+1,xs,kc),⟨by omega,by rw [zIC,yp];exact jW,hkc,jP⟩,by simp only;omega,by kernel_rfl,by kernel_rfl⟩
 ·have e:o=n.h.toNat:=by omega
  subst e
  have hZ:xs.length=(zHi n h n.h.toNat).length:=by rw [jW];simp
  have jP:k = -1:=by omega
  refine zAd 1<|zAa<|zAh<|zA0 ((↑n.h.toNat:Int)<n.h) (by omega)<|zAL 0 ?_
  refine ⟨.inl rfl,?_⟩
  rw [if_pos jP,← jW];show Option.map _ _=_;kernel_rfl
theorem zY9 (n:Nw) (cs:List (Int×Int)) (h:Nat) (ho:NwOk n) (hh:(h:Int)<n.h) (k:Int) (hk:k = -1∨1≤k∧k≤(zHi n h n.h.toNat).length):@zSx (yo1 Tryz.prog zCK) 169 [] (zSq n cs h) k (if k = -1 then zIC n h n.h.toNat else (zIC n h n.h.toNat).take k.toNat) :=
 zSZ Tryz.f169 (fun i=>@zVG yo0 n cs h ho hh k hk i) (by omega)
noncomputable instance nwYo:Yo:=yo1 Tryz.prog zCK
theorem zT9 (n:Nw) (cs:List (Int×Int)) (h:Nat) (ho:NwOk n) (hh:(h:Int)<n.h):zFQ 169 [] (zSq n cs h) (zIC n h n.h.toNat):=by
 refine ⟨?_,fun j h1 h2=>?_⟩
 ·have:=zY9 n cs h ho hh (-1) (.inl rfl)
  rwa [if_pos rfl] at this
 ·have:=zY9 n cs h ho hh (j:Int) (.inr ⟨by omega,by simpa using h2⟩)
  rw [if_neg (by omega)] at this
  exact this
end Go.Eng
