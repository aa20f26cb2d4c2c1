/- For whatever news, cries, evenings, cry and stands, the law NewsMends returns true and changes no argument: the gaps that a further cry mends, and those that none does, are as the reference tells them. -/
import Derived.Test.YtppbomajegnkeaaGreatPe
import Derived.Test.YtppbomajegnkeaaGreatPd
set_option linter.unusedVariables false
set_option linter.unusedSimpArgs false
set_option linter.unusedSectionVars false
set_option maxRecDepth 10000
set_option maxHeartbeats 4000000
namespace Go.Eng
open Go Go.Proofs
def zGU (h:Int) (x:Int×Int):Bool:=inB x.1 0 (h-1)&&inB x.2 0 (h-1)
def zHS (x:Int×Int):Bool:=decide (x.1≠x.2)
def zBB (h:Int) (l:List (Int×Int)):Int:=if (l.all fun x=>zGU h x)=true then if (l.all fun x=>zHS x)=true then if (l.map pr2).Nodup then 0 else 5 else 8 else 1
def zNt (l:List (Int×Bool)):Bool:=(List.range l.length).all fun i=>inB (l.getD i default).1 (-1) ((i:Int)-1)
def zLQ (l:List (Int×Bool)) (i:Nat):Bool:=decide ((l.getD i default).1≠-1)&&(l.take i).any fun y=>decide (y.1=(l.getD i default).1)
def zCF (l:List (Int×Bool)):Int:=if zNt l=true then if (List.range l.length).any (zLQ l)=true then 5 else 0 else 1
def zDl (l:List Int):Bool:=zFK l&&decide ((zGT l).length=l.length)
def zIB (h:Int) (l:List Int):Bool:=l.all fun x=>inB x 0 (h-1)
def zC2 (n:Nw):Int :=
 if (!inB n.h 1 10)=true then 2 else if (n.l.length:Int)>15 then 2 else if (!inB n.n.length 1 8)=true then 2 else if (!inB n.s.length 1 6)=true then 2
 else if zBB n.h n.l=0 then
  if zCF n.n=0 then
   if (!n.s.all fun x=>zIB n.h x)=true then 1 else if (!n.s.all fun x=>zDl x)=true then 4 else 0
  else zCF n.n
 else zBB n.h n.l
theorem zWt {n lo hi:Int} (h:(!inB n lo hi)=false):lo≤n∧n≤hi:=by simpa [inB] using h
abbrev zBv (x:Int×Int):PV×PV:=(prV x,.bool true)
theorem zOq {M:List (Int×Int)} (x:Int×Int):zDc Tryz.prog 87 (prV x) (M.map zBv) 0=some (M.findIdx? fun y=>decide (x=y)):=by
 rw [zL5 (kx:=Prod.fst) (ky:=Prod.snd) (fun _=>rfl) (zSg) x.1 x.2 M 0]
 simp [zMx]
theorem zRx {M:List (Int×Int)} {x:Int×Int} (h:x∈M):∃ j,j<M.length∧zDc Tryz.prog 87 (prV x) (M.map zBv) 0=some (some j):=by
 rw [zOq]
 cases hf:M.findIdx? fun y=>decide (x=y) with
 | none =>
  rw [List.findIdx?_eq_none_iff] at hf
  have:=hf x h;simp at this
 | some j=>exact ⟨j,(List.findIdx?_eq_some_iff_getElem.1 hf).1,rfl⟩
theorem zLx {M:List (Int×Int)} {x:Int×Int} (h:x∉M):zDc Tryz.prog 87 (prV x) (M.map zBv) 0=some none:=by
 rw [zOq,List.findIdx?_eq_none_iff.2]
 intro y hy
 simp only [decide_eq_false_iff_not]
 intro e;subst e;exact h hy
structure Small (n:Nw):Prop where
 hl:n.l.length<1000000
 hn:n.n.length<1000000
 hs:n.s.length<1000000
 hr:∀ x∈n.s,x.length<1000000
section
variable [Yo]
theorem f196 (n:Nw) (x:Int×Int) (hb:1≤n.h∧n.h≤10):FG 196 [prV x,.ref (nwV n)] (.bool (zGU n.h x)):=by
 refine zAf Tryz.f196 ?_
 refine zAd 2<|zAa<|zAd 1<|zAc 1<|zAc 1<|S_a [(8,.ret (PV.bool (inB x.fst 0 (n.h-1))) [])] (ap (f109 n x.fst (by omega)) an)<|zAc 1<|zDt 8 (inB x.fst 0 (n.h-1)) (fun k0=>(zAc 1<|zAc 1<|zAc 1<|S_a [(8,.ret (PV.bool (inB x.snd 0 (n.h-1))) [])] (ap (f109 n x.snd (by omega)) an)<|zAc 2<|zAa<|zAm<|E_a [] an (PV.bool (inB x.snd 0 (n.h-1))) [] ?_ rfl)) (fun k0=>(zAc 6<|zAa<|zAm<|E_a [] an (PV.bool false) [] ?_ rfl))
 ·simp only [zGU,k0,Bool.true_and]
 ·simp only [zGU,k0,Bool.false_and]
theorem f197 (x:Int×Int):FG 197 [prV x] (.bool (zHS x)):=by
 refine zAf Tryz.f197 ?_
 refine zAd 2<|zAa<|zAd 1<|zAc 1<|zAc 1<|zAc 3<|zAa<|zAm<|E_a [] an (PV.bool (x.fst != x.snd)) [] ?_ rfl
 congr 1;rw [Bool.eq_iff_iff];simp [zHS]
theorem f199 (x y:Int×Bool):FG 199 [ntV y,.ref (ntV x)] (.bool (decide (y.1=x.1))):=by
 refine zAf Tryz.f199 ?_
 refine zAd 2<|zAa<|zAd 6<|zAa<|zAm<|E_a [] an (PV.bool (y.fst==x.fst)) [] rfl rfl
theorem f168_1 (n:Nw) (hb:1≤n.h∧n.h≤10) (x:Int):FG 168 [I x,.ref (.func 109 [nwV n] [])] (.bool (!(inB x 0 (n.h-1)))):=by
 refine zAf Tryz.f168 ?_
 refine zAd 1<|zAa<|zAd 2<|S_a [(8,.ret (PV.bool (inB x 0 (n.h-1))) [])] (ap (f109 n x (by omega)) an)<|zAc 2<|zAa<|zAm<|E_a [] an (PV.bool !inB x 0 (n.h-1)) [] rfl rfl
theorem f131_1 (n:Nw) (hb:1≤n.h∧n.h≤10) (l:List (Int)) (hl:l.length<4294967296):FG 131 [.sl (l.map I),.func 168 [] [.ref (.func 109 [nwV n] [])]] (I (zEo (fun x => !(inB x 0 (n.h-1))) l)):=by
 refine zAf Tryz.f131 ?_
 refine zAd 1<|zAa<|zAg<|zAd 1<|S_a [(0,.n l.length)] (ap (lnS I l) an)<|zAc 1<|zAa<|zAh 0 ?_
 refine zAo (fun i=>i≤l.length∧∀ j,j<i→(fun x => !(inB x 0 (n.h-1))) (l.getD j 0)=false) (fun i=>[(8,I (i:Nat))]) (fun i=>l.length-i) (0:Nat) (by simp) fun i ⟨hi,ha⟩=>?_
 refine zAd 1<|zAa<|zAg<|zBZ ((↑i:Int)<(↑l.length:Int)) (fun k0=>(zAj<|zAg<|zAh 1<|zAd 2<|zAa<|zAd 3<|S_a [(2,.v (I (l.getD i 0)))] (ap (zBx (0) (by omega):(List.map I l)[i]? = some (I (l.getD i 0))) an)<|zAc 1<|S_a [(7,.ret (PV.bool !inB (l.getD i 0) 0 (n.h-1)) [])] (ap (f168_1 n (by omega) (l.getD i 0)) an)<|zAa<|zDf (!inB (l.getD i 0) 0 (n.h-1)) (fun k1=>(zAd 2<|zAa<|zAm<|E_a [] an (I (↑i:Int)) [] ?_ rfl)) (fun k1=>(zAj<|zAe<|S_a [(1,.v (I (↑(i+1):Int)))] (ap (wrN i) an)<|zAc 1<|zAa ?_)))) (fun k0=>(zAs 0<|zAd 1<|zAa<|zAm<|E_a [] an (I (-1)) [] ?_ rfl))
 ·rw [zBO (i:=i) (by omega) (fun j hj=>by rw [← zAq (d:=0)];exact ha j hj) (by rw [← zAq (d:=0)];first | assumption | exact decide_eq_true ‹_› | (simp only [Bool.not_eq_true',decide_eq_false_iff_not];assumption))]
 ·refine ⟨i+1,⟨by omega,fun j hj=>?_⟩,by omega,by kernel_rfl,by kernel_rfl⟩
  rcases Nat.lt_succ_iff_lt_or_eq.1 hj with h | rfl
  ·exact ha j h
  ·first | assumption | exact decide_eq_false ‹_› | (simp only [Bool.not_eq_false',decide_eq_true_eq];first | assumption | (apply Decidable.of_not_not;assumption))
 ·rw [zB1 fun j hj=>by rw [← zAq (d:=0)];exact ha j (by omega)]
theorem f52_1 (n:Nw) (hb:1≤n.h∧n.h≤10) (l:List (Int)) (hl:l.length<4294967296):FG 52 [.sl (l.map I),.func 168 [] [.ref (.func 109 [nwV n] [])]] (.bool (l.any (fun x => !(inB x 0 (n.h-1))))):=by
 refine zAf Tryz.f52 ?_
 refine zAd 1<|zAa<|zAd 2<|S_a [(7,.ret (I (zEo (fun x => !inB x 0 (n.h-1)) l)) [])] (ap (f131_1 n (by omega) l (by omega)) an)<|zAc 2<|zAa<|zAm<|E_a [] an (PV.bool (decide (zEo (fun x => !inB x 0 (n.h-1)) l≥0))) [] ?_ rfl
 rw [zD2]
theorem f108_1 (n:Nw) (hb:1≤n.h∧n.h≤10) (l:List (Int)) (hl:l.length<4294967296):FG 108 [.sl (l.map I),.func 109 [nwV n] []] (.bool (l.all (fun x=>inB x 0 (n.h-1)))):=by
 refine zAf Tryz.f108 ?_
 refine zAd 2<|zAa<|zAd 2<|S_a [(12,.ret (PV.bool (l.any fun x => !inB x 0 (n.h-1))) [])] (ap (f52_1 n (by omega) l (by omega)) an)<|zAc 2<|zAa<|zAm<|E_a [] an (PV.bool !l.any fun x => !inB x 0 (n.h-1)) [] ?_ rfl
 simp [List.not_any_eq_all_not]
theorem f221_1 (n:Nw) (hb:1≤n.h∧n.h≤10) (x:Int×Int):FG 221 [prV x,.ref (.func 196 [] [.ref (nwV n)])] (.bool (!(zGU n.h x))):=by
 refine zAf Tryz.f221 ?_
 refine zAd 2<|zAa<|zAd 2<|S_a [(7,.ret (PV.bool (zGU n.h x)) [])] (ap (f196 n x (by omega)) an)<|zAc 2<|zAa<|zAm<|E_a [] an (PV.bool !zGU n.h x) [] rfl rfl
theorem f202_1 (n:Nw) (hb:1≤n.h∧n.h≤10) (l:List (Int×Int)) (hl:l.length<4294967296):FG 202 [.sl (l.map prV),.func 221 [] [.ref (.func 196 [] [.ref (nwV n)])]] (I (zEo (fun x => !(zGU n.h x)) l)):=by
 refine zAf Tryz.f202 ?_
 refine zAd 1<|zAa<|zAg<|zAd 1<|S_a [(0,.n l.length)] (ap (lnS prV l) an)<|zAc 1<|zAa<|zAh 0 ?_
 refine zAo (fun i=>i≤l.length∧∀ j,j<i→(fun x => !(zGU n.h x)) (l.getD j default)=false) (fun i=>[(8,I (i:Nat))]) (fun i=>l.length-i) (0:Nat) (by simp) fun i ⟨hi,ha⟩=>?_
 refine zAd 1<|zAa<|zAg<|zBZ ((↑i:Int)<(↑l.length:Int)) (fun k0=>(zAj<|zAg<|zAh 1<|zAd 2<|zAa<|zAd 3<|S_a [(2,.v (PV.agg [I (l.getD i default).fst,I (l.getD i default).snd]))] (ap (zBx default (by omega):(List.map prV l)[i]? = some (PV.agg [I (l.getD i default).fst,I (l.getD i default).snd])) an)<|zAc 1<|S_a [(7,.ret (PV.bool !zGU n.h (l.getD i default)) [])] (ap (f221_1 n (by omega) (l.getD i default)) an)<|zAa<|zDf (!zGU n.h (l.getD i default)) (fun k1=>(zAd 2<|zAa<|zAm<|E_a [] an (I (↑i:Int)) [] ?_ rfl)) (fun k1=>(zAj<|zAe<|S_a [(1,.v (I (↑(i+1):Int)))] (ap (wrN i) an)<|zAc 1<|zAa ?_)))) (fun k0=>(zAs 0<|zAd 1<|zAa<|zAm<|E_a [] an (I (-1)) [] ?_ rfl))
 ·rw [zBO (i:=i) (by omega) (fun j hj=>by rw [← zAq (d:=default)];exact ha j hj) (by rw [← zAq (d:=default)];first | assumption | exact decide_eq_true ‹_› | (simp only [Bool.not_eq_true',decide_eq_false_iff_not];assumption))]
 ·refine ⟨i+1,⟨by omega,fun j hj=>?_⟩,by omega,by kernel_rfl,by kernel_rfl⟩
  rcases Nat.lt_succ_iff_lt_or_eq.1 hj with h | rfl
  ·exact ha j h
  ·first | assumption | exact decide_eq_false ‹_› | (simp only [Bool.not_eq_false',decide_eq_true_eq];first | assumption | (apply Decidable.of_not_not;assumption))
 ·rw [zB1 fun j hj=>by rw [← zAq (d:=default)];exact ha j (by omega)]
theorem f156_1 (n:Nw) (hb:1≤n.h∧n.h≤10) (l:List (Int×Int)) (hl:l.length<4294967296):FG 156 [.sl (l.map prV),.func 221 [] [.ref (.func 196 [] [.ref (nwV n)])]] (.bool (l.any (fun x => !(zGU n.h x)))):=by
 refine zAf Tryz.f156 ?_
 refine zAd 1<|zAa<|zAd 2<|S_a [(7,.ret (I (zEo (fun x => !zGU n.h x) l)) [])] (ap (f202_1 n (by omega) l (by omega)) an)<|zAc 2<|zAa<|zAm<|E_a [] an (PV.bool (decide (zEo (fun x => !zGU n.h x) l≥0))) [] ?_ rfl
 rw [zD2]
theorem f195_1 (n:Nw) (hb:1≤n.h∧n.h≤10) (l:List (Int×Int)) (hl:l.length<4294967296):FG 195 [.sl (l.map prV),.func 196 [] [.ref (nwV n)]] (.bool (l.all (fun x=>zGU n.h x))):=by
 refine zAf Tryz.f195 ?_
 refine zAd 2<|zAa<|zAd 2<|S_a [(12,.ret (PV.bool (l.any fun x => !zGU n.h x)) [])] (ap (f156_1 n (by omega) l (by omega)) an)<|zAc 2<|zAa<|zAm<|E_a [] an (PV.bool !l.any fun x => !zGU n.h x) [] ?_ rfl
 simp [List.not_any_eq_all_not]
theorem f221_2  (x:Int×Int):FG 221 [prV x,.ref (.func 197 [] [])] (.bool (!(zHS x))):=by
 refine zAf Tryz.f221 ?_
 refine zAd 2<|zAa<|zAd 2<|S_a [(6,.ret (PV.bool (zHS x)) [])] (ap (f197 x) an)<|zAc 2<|zAa<|zAm<|E_a [] an (PV.bool !zHS x) [] rfl rfl
theorem f202_2  (l:List (Int×Int)) (hl:l.length<4294967296):FG 202 [.sl (l.map prV),.func 221 [] [.ref (.func 197 [] [])]] (I (zEo (fun x => !(zHS x)) l)):=by
 refine zAf Tryz.f202 ?_
 refine zAd 1<|zAa<|zAg<|zAd 1<|S_a [(0,.n l.length)] (ap (lnS prV l) an)<|zAc 1<|zAa<|zAh 0 ?_
 refine zAo (fun i=>i≤l.length∧∀ j,j<i→(fun x => !(zHS x)) (l.getD j default)=false) (fun i=>[(8,I (i:Nat))]) (fun i=>l.length-i) (0:Nat) (by simp) fun i ⟨hi,ha⟩=>?_
 refine zAd 1<|zAa<|zAg<|zBZ ((↑i:Int)<(↑l.length:Int)) (fun k0=>(zAj<|zAg<|zAh 1<|zAd 2<|zAa<|zAd 3<|S_a [(2,.v (PV.agg [I (l.getD i default).fst,I (l.getD i default).snd]))] (ap (zBx default (by omega):(List.map prV l)[i]? = some (PV.agg [I (l.getD i default).fst,I (l.getD i default).snd])) an)<|zAc 1<|S_a [(7,.ret (PV.bool !zHS (l.getD i default)) [])] (ap (f221_2 (l.getD i default)) an)<|zAa<|zDf (!zHS (l.getD i default)) (fun k1=>(zAd 2<|zAa<|zAm<|E_a [] an (I (↑i:Int)) [] ?_ rfl)) (fun k1=>(zAj<|zAe<|S_a [(1,.v (I (↑(i+1):Int)))] (ap (wrN i) an)<|zAc 1<|zAa ?_)))) (fun k0=>(zAs 0<|zAd 1<|zAa<|zAm<|E_a [] an (I (-1)) [] ?_ rfl))
 ·rw [zBO (i:=i) (by omega) (fun j hj=>by rw [← zAq (d:=default)];exact ha j hj) (by rw [← zAq (d:=default)];first | assumption | exact decide_eq_true ‹_› | (simp only [Bool.not_eq_true',decide_eq_false_iff_not];assumption))]
 ·refine ⟨i+1,⟨by omega,fun j hj=>?_⟩,by omega,by kernel_rfl,by kernel_rfl⟩
  rcases Nat.lt_succ_iff_lt_or_eq.1 hj with h | rfl
  ·exact ha j h
  ·first | assumption | exact decide_eq_false ‹_› | (simp only [Bool.not_eq_false',decide_eq_true_eq];first | assumption | (apply Decidable.of_not_not;assumption))
 ·rw [zB1 fun j hj=>by rw [← zAq (d:=default)];exact ha j (by omega)]
theorem f156_2  (l:List (Int×Int)) (hl:l.length<4294967296):FG 156 [.sl (l.map prV),.func 221 [] [.ref (.func 197 [] [])]] (.bool (l.any (fun x => !(zHS x)))):=by
 refine zAf Tryz.f156 ?_
 refine zAd 1<|zAa<|zAd 2<|S_a [(7,.ret (I (zEo (fun x => !zHS x) l)) [])] (ap (f202_2 l (by omega)) an)<|zAc 2<|zAa<|zAm<|E_a [] an (PV.bool (decide (zEo (fun x => !zHS x) l≥0))) [] ?_ rfl
 rw [zD2]
theorem f195_2  (l:List (Int×Int)) (hl:l.length<4294967296):FG 195 [.sl (l.map prV),.func 197 [] []] (.bool (l.all (fun x=>zHS x))):=by
 refine zAf Tryz.f195 ?_
 refine zAd 2<|zAa<|zAd 2<|S_a [(12,.ret (PV.bool (l.any fun x => !zHS x)) [])] (ap (f156_2 l (by omega)) an)<|zAc 2<|zAa<|zAm<|E_a [] an (PV.bool !l.any fun x => !zHS x) [] ?_ rfl
 simp [List.not_any_eq_all_not]
theorem f222_1 (y:Int) (yb:Bool) (l:List (Int×Bool)) (hl:l.length<4294967296):FG 222 [.sl (l.map ntV),.func 199 [] [.ref (.agg [I y,.bool yb])]] (I (zEo (fun x=>decide (x.1=y)) l)):=by
 refine zAf Tryz.f222 ?_
 refine zAd 1<|zAa<|zAg<|zAd 1<|S_a [(0,.n l.length)] (ap (lnS ntV l) an)<|zAc 1<|zAa<|zAh 0 ?_
 refine zAo (fun i=>i≤l.length∧∀ j,j<i→(fun x=>decide (x.1=y)) (l.getD j default)=false) (fun i=>[(8,I (i:Nat))]) (fun i=>l.length-i) (0:Nat) (by simp) fun i ⟨hi,ha⟩=>?_
 refine zAd 1<|zAa<|zAg<|zBZ ((↑i:Int)<(↑l.length:Int)) (fun k0=>(zAj<|zAg<|zAh 1<|zAd 2<|zAa<|zAd 3<|S_a [(2,.v (PV.agg [I (l.getD i default).fst,PV.bool (l.getD i default).snd]))] (ap (zBx default (by omega):(List.map ntV l)[i]? = some (PV.agg [I (l.getD i default).fst,PV.bool (l.getD i default).snd])) an)<|zAc 1<|S_a [(7,.ret (PV.bool (decide ((l.getD i default).fst=(y,yb).fst))) [])] (ap (f199 ((y,yb)) (l.getD i default)) an)<|zAa<|zBZ ((l.getD i default).fst=(y,yb).fst) (fun k1=>(zAd 2<|zAa<|zAm<|E_a [] an (I (↑i:Int)) [] ?_ rfl)) (fun k1=>(zAj<|zAe<|S_a [(1,.v (I (↑(i+1):Int)))] (ap (wrN i) an)<|zAc 1<|zAa ?_)))) (fun k0=>(zAs 0<|zAd 1<|zAa<|zAm<|E_a [] an (I (-1)) [] ?_ rfl))
 ·rw [zBO (i:=i) (by omega) (fun j hj=>by rw [← zAq (d:=default)];exact ha j hj) (by rw [← zAq (d:=default)];first | assumption | exact decide_eq_true ‹_› | (simp only [Bool.not_eq_true',decide_eq_false_iff_not];assumption))]
 ·refine ⟨i+1,⟨by omega,fun j hj=>?_⟩,by omega,by kernel_rfl,by kernel_rfl⟩
  rcases Nat.lt_succ_iff_lt_or_eq.1 hj with h | rfl
  ·exact ha j h
  ·first | assumption | exact decide_eq_false ‹_› | (simp only [Bool.not_eq_false',decide_eq_true_eq];first | assumption | (apply Decidable.of_not_not;assumption))
 ·rw [zB1 fun j hj=>by rw [← zAq (d:=default)];exact ha j (by omega)]
theorem f198_1 (y:Int) (yb:Bool) (l:List (Int×Bool)) (hl:l.length<4294967296):FG 198 [.sl (l.map ntV),.func 199 [] [.ref (.agg [I y,.bool yb])]] (.bool (l.any (fun x=>decide (x.1=y)))):=by
 refine zAf Tryz.f198 ?_
 refine zAd 1<|zAa<|zAd 2<|S_a [(7,.ret (I (zEo (fun x=>decide (x.fst=y)) l)) [])] (ap (f222_1 y yb l (by omega)) an)<|zAc 2<|zAa<|zAm<|E_a [] an (PV.bool (decide (zEo (fun x=>decide (x.fst=y)) l≥0))) [] ?_ rfl
 rw [zD2]
theorem f150 (n:Nw) (hb:1≤n.h∧n.h≤10) (hl:n.l.length≤15):FG 150 [nwV n] (I (zBB n.h n.l)):=by
 refine zAf Tryz.f150 ?_
 refine zAd 2<|zAa<|zAg<|zAh 0<|zAd 3<|S_a [(13,.ret (PV.bool (n.l.all fun x=>zGU n.h x)) [])] (ap (f195_1 n (by omega) n.l (by omega)) an)<|zAc 2<|zAa<|zDf (!n.l.all fun x=>zGU n.h x) (fun k0=>(zAd 1<|zAa<|zAm<|E_a [] an (I 1) [] ?_ rfl)) (fun k0=>(zAd 2<|S_a [(7,.ret (PV.bool (n.l.all fun x=>zHS x)) [])] (ap (f195_2 n.l (by omega)) an)<|zAc 2<|zAa<|zDf (!n.l.all fun x=>zHS x) (fun k1=>(zAd 1<|zAa<|zAm<|E_a [] an (I 8) [] ?_ rfl)) (fun k1=>(zAj<|zAd 2<|zAa<|zAg<|zAd 2<|S_a [(0,.n n.l.length)] (ap (lnS prV n.l) an)<|zAc 1<|zAa<|zAh 1 ?_))))
 ·rw [Bool.not_eq_true'] at k0
  simp [zBB,k0]
 ·rw [Bool.not_eq_false'] at k0
  rw [Bool.not_eq_true'] at k1
  simp [zBB,k0,k1]
 ·refine zAo (fun (i,M)=>i≤n.l.length∧M=(n.l.take i).map pr2∧M.Nodup) (fun (i,M)=>[(3,.omap (M.map zBv)),(21,I (i:Nat))]) (fun (i,_)=>n.l.length-i) ((0:Nat),([]:List (Int×Int))) ⟨Nat.zero_le _,rfl,List.nodup_nil⟩ fun (i,M) ⟨hi,hM,hN⟩=>?_
  by_cases yB:i<n.l.length
  ·have yU:(n.l.take (i+1)).map pr2=M++[pr2 (n.l.getD i default)]:=by rw [zBP (d:=default) yB,List.map_append,← hM];rfl
   by_cases hin:pr2 (n.l.getD i default)∈M
   ·obtain ⟨j,hj,jN⟩:=zRx hin
    have jp:zIQ (M.map zBv) j=some (.bool true):=by simp [zIQ,hj]
    refine zAd 1<|zAa<|zAg<|zAJ ((↑i:Int)<(↑n.l.length:Int)) (by omega)<|zAj<|zAg<|zAh 2<|zAg<|zAe<|S_a [(2,.v (PV.agg [I (n.l.getD i default).fst,I (n.l.getD i default).snd]))] (ap (zBx default (by omega):(List.map prV n.l)[i]? = some (PV.agg [I (n.l.getD i default).fst,I (n.l.getD i default).snd])) an)<|zAc 3<|zAa<|zAg<|zAd 2<|S_a [(6,.ret (prV (pr2 (n.l.getD i default))) [])] (ap (f110 (n.l.getD i default)) an)<|S_a [(3,.ix (some j)),(0,.v (PV.bool true))] (ap jN<|ap (jp:zIQ (List.map zBv M) j=some (PV.bool true)) an)<|zAa<|zBM<|zAd 1<|zAa<|zAm<|E_a [] an (I 5) [] ?_ rfl
    rw [Bool.not_eq_false'] at k0 k1
    have yS:¬ (n.l.map pr2).Nodup:=fun h=>by
     rw [← List.take_append_drop (i+1) n.l,List.map_append,yU] at h
     have h2:=(List.nodup_append.1 h).1
     have h3:=(List.nodup_append.1 h2).2.2
     exact h3 _ hin _ (List.mem_singleton.2 rfl) rfl
    simp only [zBB,k0,k1,yS,if_true,if_false]
   ·have jN:=zLx hin
    refine zAd 1<|zAa<|zAg<|zAJ ((↑i:Int)<(↑n.l.length:Int)) (by omega)<|zAj<|zAg<|zAh 2<|zAg<|zAe<|S_a [(2,.v (PV.agg [I (n.l.getD i default).fst,I (n.l.getD i default).snd]))] (ap (zBx default (by omega):(List.map prV n.l)[i]? = some (PV.agg [I (n.l.getD i default).fst,I (n.l.getD i default).snd])) an)<|zAc 3<|zAa<|zAg<|zAd 2<|S_a [(6,.ret (prV (pr2 (n.l.getD i default))) [])] (ap (f110 (n.l.getD i default)) an)<|S_a [(3,.ix none)] (ap jN an)<|zAa<|zAW<|zAj<|zAe<|zAc 2<|S_a [(6,.ret (prV (pr2 (n.l.getD i default))) [])] (ap (f110 (n.l.getD i default)) an)<|S_a [(4,.ix none),(0,.v (PV.omap (List.map zBv (M++[pr2 (n.l.getD i default)]))))] (ap jN<|ap ((by simp):PV.omap (List.map zBv M++[(PV.agg [I (pr2 (n.l.getD i default)).fst,I (pr2 (n.l.getD i default)).snd],PV.bool true)])=PV.omap (List.map zBv (M++[pr2 (n.l.getD i default)]))) an)<|zAa<|zAe<|S_a [(1,.v (I (↑(i+1):Int)))] (ap (wrN i) an)<|zAc 1<|zAa ?_
    refine ⟨(i+1,M++[pr2 (n.l.getD i default)]),⟨by omega,yU.symm,?_⟩,by simp only;omega,by kernel_rfl,by kernel_rfl⟩
    rw [List.nodup_append]
    refine ⟨hN,by simp,fun a ha b hb=>?_⟩
    rw [List.mem_singleton] at hb;subst hb
    intro e;subst e;exact hin ha
  ·refine zAd 1<|zAa<|zAg<|zAK ((↑i:Int)<(↑n.l.length:Int)) (by omega)<|zAs 1<|zAd 1<|zAa<|zAm<|E_a [] an (I 0) [] ?_ rfl
   rw [Bool.not_eq_false'] at k0 k1
   rw [List.take_of_length_le (by omega)] at hM
   rw [hM] at hN
   simp only [zBB,k0,k1,hN,if_true]
theorem f151 (n:Nw) (hl:n.n.length≤8):FG 151 [nwV n] (I (zCF n.n)):=by
 refine zAf Tryz.f151 ?_
 refine zAd 2<|zAa<|zAg<|zAd 2<|S_a [(0,.n n.n.length)] (ap (lnS ntV n.n) an)<|zAc 1<|zAa<|zAh 0 ?_
 refine zAo (fun i=>i≤n.n.length∧∀ j,j<i→inB (n.n.getD j default).1 (-1) ((j:Int)-1)=true) (fun i=>[(10,I (i:Nat))]) (fun i=>n.n.length-i) (0:Nat) ⟨Nat.zero_le _,fun j h=>absurd h (Nat.not_lt_zero _)⟩ fun i ⟨hi,ha⟩=>?_
 refine zAd 1<|zAa<|zAg<|zBZ ((↑i:Int)<(↑n.n.length:Int)) (fun k0=>(zAj<|zAg<|zAh 1<|zAd 1<|S_a [(2,.v (PV.agg [I (n.n.getD i default).fst,PV.bool (n.n.getD i default).snd]))] (ap (zBx default (by omega):(List.map ntV n.n)[i]? = some (PV.agg [I (n.n.getD i default).fst,PV.bool (n.n.getD i default).snd])) an)<|zAc 4<|zAa<|zAd 3<|S_a [(1,.v (I ((↑i:Int)-1)))] (ap ((zCP rfl (by omega)):I (IntKind.i64.wrap ((↑i:Int)-1))=I ((↑i:Int)-1)) an)<|S_a [(10,.ret (PV.bool (inB (n.n.getD i default).fst (-1) ((↑i:Int)-1))) [])] (ap (f107 ((n.n.getD i default).fst) (-1) ((↑i:Int)-1)) an)<|zAc 1<|zAa<|zDf (!inB (n.n.getD i default).fst (-1) ((↑i:Int)-1)) (fun k1=>(zAd 1<|zAa<|zAm<|E_a [] an (I 1) [] ?_ rfl)) (fun k1=>(zAj<|zAe<|S_a [(1,.v (I (↑(i+1):Int)))] (ap (wrN i) an)<|zAc 1<|zAa ?_)))) (fun k0=>(zAs 0<|zAg<|zAd 2<|S_a [(0,.n n.n.length)] (ap (lnS ntV n.n) an)<|zAc 1<|zAa<|zAh 2 ?_))
 ·rw [Bool.not_eq_true'] at k1
  have:zNt n.n=false:=by
   simp only [zNt,List.all_eq_false]
   exact ⟨i,List.mem_range.2 (by omega),by simpa using k1⟩
  simp [zCF,this]
 ·rw [Bool.not_eq_false'] at k1
  refine ⟨i+1,⟨by omega,fun j hj=>?_⟩,by omega,by kernel_rfl,by kernel_rfl⟩
  rcases Nat.lt_succ_iff_lt_or_eq.1 hj with h | rfl
  ·exact ha j h
  ·exact k1
 ·have hin:zNt n.n=true:=by
   simp only [zNt,List.all_eq_true,List.mem_range]
   exact fun j hj=>ha j (by omega)
  clear ha
  refine zAo (fun i=>i≤n.n.length∧∀ j,j<i→zLQ n.n j=false) (fun i=>[(25,I (i:Nat))]) (fun i=>n.n.length-i) (0:Nat) ⟨Nat.zero_le _,fun j h=>absurd h (Nat.not_lt_zero _)⟩ fun k ⟨hk,hb⟩=>?_
  have yU:zLQ n.n k=false→∀ j,j<k+1→zLQ n.n j=false:=fun h j hj=>by
   rcases Nat.lt_succ_iff_lt_or_eq.1 hj with h2 | rfl
   ·exact hb j h2
   ·exact h
  refine zAd 1<|zAa<|zAg<|zBZ ((↑k:Int)<(↑n.n.length:Int)) (fun k2=>(zAj<|zAg<|zAh 3<|zAd 1<|S_a [(2,.v (PV.agg [I (n.n.getD k default).fst,PV.bool (n.n.getD k default).snd]))] (ap (zBx default (by omega):(List.map ntV n.n)[k]? = some (PV.agg [I (n.n.getD k default).fst,PV.bool (n.n.getD k default).snd])) an)<|zAc 4<|zAa<|zAd 4<|zUj 33 ((n.n.getD k default).fst = -1) (fun k3=>(zAc 3<|S_a [(3,.ob),(0,.ob),(0,.v (PV.sl (List.map ntV (List.take k n.n))))] (ap ((by exact zA9 (by simp only [List.length_map,zzLn,zA1]<;>omega)):k.ble (List.map ntV n.n).length=true)<|ap ((by exact all_map _):((List.map ntV n.n).all fun x=>x.cells.length.beq ((fun x=>x.size) Tryz.prog.types[99]))=true)<|ap ((by simp):PV.sl (List.take k (List.drop 0 (List.map ntV n.n)))=PV.sl (List.map ntV (List.take k n.n))) an)<|zAc 1<|S_a [(13,.ret (PV.bool ((List.take k n.n).any fun x=>decide (x.fst=(n.n.getD k default).fst))) [])] (ap (f198_1 ((n.n.getD k default).fst) ((n.n.getD k default).snd) (List.take k n.n) (by first | omega | (simp<;>omega))) an)<|zAc 1<|zAa<|zDf ((List.take k n.n).any fun x=>decide (x.fst=(n.n.getD k default).fst)) (fun k4=>(zAd 1<|zAa<|zAm<|E_a [] an (I 5) [] ?_ rfl)) (fun k4=>(zAj<|zAe<|S_a [(1,.v (I (↑(k+1):Int)))] (ap (wrN k) an)<|zAc 1<|zAa ?_)))) (fun k3=>(zAc 7<|zAa<|zAW<|zAj<|zAe<|S_a [(1,.v (I (↑(k+1):Int)))] (ap (wrN k) an)<|zAc 1<|zAa ?_)))) (fun k2=>(zAs 2<|zAd 1<|zAa<|zAm<|E_a [] an (I 0) [] ?_ rfl))
  ·have h1:zLQ n.n k=true:=by
    have k4:((n.n.take k).any fun y=>decide (y.1=(n.n.getD k default).1))=true:=k4
    simp only [zLQ,k4,Bool.and_true,decide_eq_true_eq];assumption
   have:(List.range n.n.length).any (zLQ n.n)=true:=List.any_eq_true.2 ⟨k,List.mem_range.2 (by omega),h1⟩
   simp only [zCF,hin,this,if_true]
  ·have h1:zLQ n.n k=false:=by
    have k4:((n.n.take k).any fun y=>decide (y.1=(n.n.getD k default).1))=false:=k4
    simp only [zLQ,k4,Bool.and_false]
   exact ⟨k+1,⟨by omega,yU h1⟩,by omega,by kernel_rfl,by kernel_rfl⟩
  ·have h1:zLQ n.n k=false:=by
    simp only [zLQ,Bool.and_eq_false_iff,decide_eq_false_iff_not]
    exact .inl (by simpa using k3)
   exact ⟨k+1,⟨by omega,yU h1⟩,by omega,by kernel_rfl,by kernel_rfl⟩
  ·have:(List.range n.n.length).any (zLQ n.n)=false:=by
    simp only [List.any_eq_false,List.mem_range,Bool.not_eq_true]
    exact fun j hj=>hb j (by omega)
   simp only [zCF,hin,this,if_true];rfl
theorem f153 (n:Nw) (l:List Int) (hb:1≤n.h∧n.h≤10) (hl:l.length<1000000):FG 153 [zAw l,.ref (nwV n)] (.bool (zIB n.h l)):=by
 refine zAf Tryz.f153 ?_
 refine zAd 1<|zAa<|zAd 3<|S_a [(7,.ret (PV.bool (l.all fun x=>inB x 0 (n.h-1))) [])] (ap (f108_1 n (by omega) l (by omega)) an)<|zAc 1<|zAa<|zAm<|E_a [] an (PV.bool (l.all fun x=>inB x 0 (n.h-1))) [] rfl rfl
theorem f154 (l:List Int) (hl:l.length<1000000):FG 154 [zAw l] (.bool (zDl l)):=by
 refine zAf Tryz.f154 ?_
 refine zAd 1<|zAa<|zAd 1<|S_a [(6,.ret (PV.bool (zFK l)) [])] (ap (f155 l (by omega)) an)<|zAc 1<|zDt 5 (zFK l) (fun k0=>(zAc 1<|S_a [(6,.ret (PV.own 1 (List.map I l)) [])] (ap (f65 l (by omega)) an)<|S_a [(3,.ob),(1,.v (PV.own 1 (List.map I l))),(2,.ret (PV.own 1 (List.map I (zGT l))) [])] (ap ((by exact zA9 (by simp only [List.length_map,zzLn,zA1]<;>omega)):(List.map I l).length.ble (List.map I l).length=true)<|ap ((zAE zAz):PV.own 1 (List.take (List.map I l).length (List.drop 0 (List.map I l)))=PV.own 1 (List.map I l))<|ap (f97 l (by omega)) an)<|S_a [(0,.n ((zGT l).length))] (ap (lnS I (zGT l)) an)<|zAc 1<|S_a [(0,.n l.length)] (ap (lnS I l) an)<|zAc 3<|zAa<|zAm<|E_a [] an (PV.bool ((↑(zGT l).length:Int)==(↑l.length:Int))) [] ?_ rfl)) (fun k0=>(zAc 9<|zAa<|zAm<|E_a [] an (PV.bool false) [] ?_ rfl))
 ·simp only [zDl,k0,Bool.true_and];congr 1;rw [Bool.eq_iff_iff];simp;omega
 ·simp only [zDl,k0,Bool.false_and]
theorem f201_1 (n:Nw) (hb:1≤n.h∧n.h≤10) (x:List Int) (hx:x.length<1000000):FG 201 [zAw x,.ref (.func 153 [] [.ref (nwV n)])] (.bool (!(zIB n.h x))):=by
 refine zAf Tryz.f201 ?_
 refine zAd 1<|zAa<|zAd 2<|S_a [(7,.ret (PV.bool (zIB n.h x)) [])] (ap (f153 n x (by omega) (by omega)) an)<|zAc 2<|zAa<|zAm<|E_a [] an (PV.bool !zIB n.h x) [] rfl rfl
theorem f223_1 (n:Nw) (hb:1≤n.h∧n.h≤10) (l:List (List Int)) (hl:l.length<4294967296) (hr:∀ x∈l,x.length<1000000):FG 223 [.sl (l.map zAw),.func 201 [] [.ref (.func 153 [] [.ref (nwV n)])]] (I (zEo (fun x => !(zIB n.h x)) l)):=by
 refine zAf Tryz.f223 ?_
 refine zAd 1<|zAa<|zAg<|zAd 1<|S_a [(0,.n l.length)] (ap (lnS zAw l) an)<|zAc 1<|zAa<|zAh 0 ?_
 refine zAo (fun i=>i≤l.length∧∀ j,j<i→(fun x => !(zIB n.h x)) (l.getD j [])=false) (fun i=>[(8,I (i:Nat))]) (fun i=>l.length-i) (0:Nat) (by simp) fun i ⟨hi,ha⟩=>?_
 by_cases yB:i<l.length
 ·have gY:=zBz (d:=[]) hr i yB
  refine zAd 1<|zAa<|zAg<|zAJ ((↑i:Int)<(↑l.length:Int)) (by omega)<|zAj<|zAg<|zAh 1<|zAd 2<|zAa<|zAd 3<|S_a [(2,.v (zAw (l.getD i [])))] (ap (zBx [] (by omega):(List.map zAw l)[i]? = some (zAw (l.getD i []))) an)<|zAc 1<|S_a [(7,.ret (PV.bool !zIB n.h (l.getD i [])) [])] (ap (f201_1 n (by omega) (l.getD i []) (by omega)) an)<|zAa<|zDf (!zIB n.h (l.getD i [])) (fun k0=>(zAd 2<|zAa<|zAm<|E_a [] an (I (↑i:Int)) [] ?_ rfl)) (fun k0=>(zAj<|zAe<|S_a [(1,.v (I (↑(i+1):Int)))] (ap (wrN i) an)<|zAc 1<|zAa ?_))
  ·rw [zBO (i:=i) yB (fun j hj=>by rw [← zAq (d:=[])];exact ha j hj) (by rw [← zAq (d:=[])];first | assumption | exact decide_eq_true ‹_›)]
  ·refine ⟨i+1,⟨by omega,fun j hj=>?_⟩,by omega,by kernel_rfl,by kernel_rfl⟩
   rcases Nat.lt_succ_iff_lt_or_eq.1 hj with h | rfl
   ·exact ha j h
   ·first | assumption | exact decide_eq_false ‹_› | (simp only [Bool.not_eq_false',decide_eq_true_eq];assumption)
 ·refine zAd 1<|zAa<|zAg<|zAK ((↑i:Int)<(↑l.length:Int)) (by omega)<|zAs 0<|zAd 1<|zAa<|zAm<|E_a [] an (I (-1)) [] ?_ rfl
  rw [zB1 fun j hj=>by rw [← zAq (d:=[])];exact ha j (by omega)]
theorem f200_1 (n:Nw) (hb:1≤n.h∧n.h≤10) (l:List (List Int)) (hl:l.length<4294967296) (hr:∀ x∈l,x.length<1000000):FG 200 [.sl (l.map zAw),.func 201 [] [.ref (.func 153 [] [.ref (nwV n)])]] (.bool (l.any (fun x => !(zIB n.h x)))):=by
 refine zAf Tryz.f200 ?_
 refine zAd 1<|zAa<|zAd 2<|S_a [(7,.ret (I (zEo (fun x => !zIB n.h x) l)) [])] (ap (f223_1 n (by omega) l (by omega) (by omega)) an)<|zAc 2<|zAa<|zAm<|E_a [] an (PV.bool (decide (zEo (fun x => !zIB n.h x) l≥0))) [] ?_ rfl
 rw [zD2]
theorem f152_1 (n:Nw) (hb:1≤n.h∧n.h≤10) (l:List (List Int)) (hl:l.length<4294967296) (hr:∀ x∈l,x.length<1000000):FG 152 [.sl (l.map zAw),.func 153 [] [.ref (nwV n)]] (.bool (l.all (fun x=>zIB n.h x))):=by
 refine zAf Tryz.f152 ?_
 refine zAd 2<|zAa<|zAd 2<|S_a [(12,.ret (PV.bool (l.any fun x => !zIB n.h x)) [])] (ap (f200_1 n (by omega) l (by omega) (by omega)) an)<|zAc 2<|zAa<|zAm<|E_a [] an (PV.bool !l.any fun x => !zIB n.h x) [] ?_ rfl
 simp [List.not_any_eq_all_not]
theorem f201_2  (x:List Int) (hx:x.length<1000000):FG 201 [zAw x,.ref (.func 154 [] [])] (.bool (!(zDl x))):=by
 refine zAf Tryz.f201 ?_
 refine zAd 1<|zAa<|zAd 2<|S_a [(6,.ret (PV.bool (zDl x)) [])] (ap (f154 x (by omega)) an)<|zAc 2<|zAa<|zAm<|E_a [] an (PV.bool !zDl x) [] rfl rfl
theorem f223_2  (l:List (List Int)) (hl:l.length<4294967296) (hr:∀ x∈l,x.length<1000000):FG 223 [.sl (l.map zAw),.func 201 [] [.ref (.func 154 [] [])]] (I (zEo (fun x => !(zDl x)) l)):=by
 refine zAf Tryz.f223 ?_
 refine zAd 1<|zAa<|zAg<|zAd 1<|S_a [(0,.n l.length)] (ap (lnS zAw l) an)<|zAc 1<|zAa<|zAh 0 ?_
 refine zAo (fun i=>i≤l.length∧∀ j,j<i→(fun x => !(zDl x)) (l.getD j [])=false) (fun i=>[(8,I (i:Nat))]) (fun i=>l.length-i) (0:Nat) (by simp) fun i ⟨hi,ha⟩=>?_
 by_cases yB:i<l.length
 ·have gY:=zBz (d:=[]) hr i yB
  refine zAd 1<|zAa<|zAg<|zAJ ((↑i:Int)<(↑l.length:Int)) (by omega)<|zAj<|zAg<|zAh 1<|zAd 2<|zAa<|zAd 3<|S_a [(2,.v (zAw (l.getD i [])))] (ap (zBx [] (by omega):(List.map zAw l)[i]? = some (zAw (l.getD i []))) an)<|zAc 1<|S_a [(7,.ret (PV.bool !zDl (l.getD i [])) [])] (ap (f201_2 (l.getD i []) (by omega)) an)<|zAa<|zDf (!zDl (l.getD i [])) (fun k0=>(zAd 2<|zAa<|zAm<|E_a [] an (I (↑i:Int)) [] ?_ rfl)) (fun k0=>(zAj<|zAe<|S_a [(1,.v (I (↑(i+1):Int)))] (ap (wrN i) an)<|zAc 1<|zAa ?_))
  ·rw [zBO (i:=i) yB (fun j hj=>by rw [← zAq (d:=[])];exact ha j hj) (by rw [← zAq (d:=[])];first | assumption | exact decide_eq_true ‹_›)]
  ·refine ⟨i+1,⟨by omega,fun j hj=>?_⟩,by omega,by kernel_rfl,by kernel_rfl⟩
   rcases Nat.lt_succ_iff_lt_or_eq.1 hj with h | rfl
   ·exact ha j h
   ·first | assumption | exact decide_eq_false ‹_› | (simp only [Bool.not_eq_false',decide_eq_true_eq];assumption)
 ·refine zAd 1<|zAa<|zAg<|zAK ((↑i:Int)<(↑l.length:Int)) (by omega)<|zAs 0<|zAd 1<|zAa<|zAm<|E_a [] an (I (-1)) [] ?_ rfl
  rw [zB1 fun j hj=>by rw [← zAq (d:=[])];exact ha j (by omega)]
theorem f200_2  (l:List (List Int)) (hl:l.length<4294967296) (hr:∀ x∈l,x.length<1000000):FG 200 [.sl (l.map zAw),.func 201 [] [.ref (.func 154 [] [])]] (.bool (l.any (fun x => !(zDl x)))):=by
 refine zAf Tryz.f200 ?_
 refine zAd 1<|zAa<|zAd 2<|S_a [(7,.ret (I (zEo (fun x => !zDl x) l)) [])] (ap (f223_2 l (by omega) (by omega)) an)<|zAc 2<|zAa<|zAm<|E_a [] an (PV.bool (decide (zEo (fun x => !zDl x) l≥0))) [] ?_ rfl
 rw [zD2]
theorem f152_2  (l:List (List Int)) (hl:l.length<4294967296) (hr:∀ x∈l,x.length<1000000):FG 152 [.sl (l.map zAw),.func 154 [] []] (.bool (l.all (fun x=>zDl x))):=by
 refine zAf Tryz.f152 ?_
 refine zAd 2<|zAa<|zAd 2<|S_a [(12,.ret (PV.bool (l.any fun x => !zDl x)) [])] (ap (f200_2 l (by omega) (by omega)) an)<|zAc 2<|zAa<|zAm<|E_a [] an (PV.bool !l.any fun x => !zDl x) [] ?_ rfl
 simp [List.not_any_eq_all_not]
theorem f76 (n:Nw) (hs:Small n):FG 76 [nwV n] (I (zC2 n)):=by
 refine zAf Tryz.f76 ?_
 have h1:=hs.hl
 have h2:=hs.hn
 have h3:=hs.hs
 have h4:=hs.hr
 refine zAd 2<|zAa<|zAg<|zAd 2<|S_a [(10,.ret (PV.bool (inB n.h 1 10)) [])] (ap (f107 n.h (1) (10)) an)<|zAc 2<|zDt 9 (!inB n.h 1 10) (fun k0=>(zAc 19<|zAa<|zBM<|zAd 1<|zAa<|zAm<|E_a [] an (I 2) [] ?_ rfl)) (fun k0=>(zAc 2<|S_a [(0,.n n.l.length)] (ap (lnS prV n.l) an)<|zAc 3<|zDa 15 ((↑n.l.length:Int)>15) (fun k1=>(zAc 13<|zAa<|zBM<|zAd 1<|zAa<|zAm<|E_a [] an (I 2) [] ?_ rfl)) (fun k1=>(zAc 2<|S_a [(0,.n n.n.length)] (ap (lnS ntV n.n) an)<|S_a [(10,.ret (PV.bool (inB (↑n.n.length:Int) 1 8)) [])] (ap (f107 ((↑n.n.length:Int)) (1) (8)) an)<|zAc 3<|zDt 22 (!inB (↑n.n.length:Int) 1 8) (fun k2=>(zAc 6<|zAa<|zBM<|zAd 1<|zAa<|zAm<|E_a [] an (I 2) [] ?_ rfl)) (fun k2=>(zAc 2<|S_a [(0,.n n.s.length)] (ap (lnS zAw n.s) an)<|S_a [(10,.ret (PV.bool (inB (↑n.s.length:Int) 1 6)) [])] (ap (f107 ((↑n.s.length:Int)) (1) (6)) an)<|zAc 2<|zAa<|zDf (!inB (↑n.s.length:Int) 1 6) (fun k3=>(zAd 1<|zAa<|zAm<|E_a [] an (I 2) [] ?_ rfl)) (fun k3=>(zAj<|zAg<|zAd 1<|S_a [(6,.ret (I (zBB n.h n.l)) [])] (ap (f150 n ?_ (by first | omega | (simp<;>omega))) an)<|zAc 1<|zAa<|zAd 2<|zAa<|zDk (zBB n.h n.l=0) (fun k4=>(zAd 2<|zAa<|zAm<|E_a [] an (I (zBB n.h n.l)) [] ?_ rfl)) (fun k4=>(zAj<|zAg<|zAd 1<|S_a [(6,.ret (I (zCF n.n)) [])] (ap (f151 n ?_) an)<|zAc 1<|zAa<|zAd 2<|zAa<|zDk (zCF n.n=0) (fun k5=>(zAd 2<|zAa<|zAm<|E_a [] an (I (zCF n.n)) [] ?_ rfl)) (fun k5=>(zAj<|zAg<|zAh 0<|zAd 3<|S_a [(13,.ret (PV.bool (n.s.all fun x=>zIB n.h x)) [])] (ap (f152_1 n ?_ n.s (by omega) (by omega)) an)<|zAc 2<|zAa<|zDf (!n.s.all fun x=>zIB n.h x) (fun k6=>(zAd 1<|zAa<|zAm<|E_a [] an (I 1) [] ?_ rfl)) (fun k6=>(zAd 2<|S_a [(7,.ret (PV.bool (n.s.all fun x=>zDl x)) [])] (ap (f152_2 n.s (by omega) (by omega)) an)<|zAc 2<|zAa<|zDf (!n.s.all fun x=>zDl x) (fun k7=>(zAd 1<|zAa<|zAm<|E_a [] an (I 4) [] ?_ rfl)) (fun k7=>(zAj<|zAd 1<|zAa<|zAm<|E_a [] an (I 0) [] ?_ rfl))))))))))))))))
 all_goals first | exact zWt k0 | (have:=zWt k2;omega) | (simp [zC2, *];done)
end
end Go.Eng
set_option maxRecDepth 10000
set_option maxHeartbeats 4000000
namespace Go.Eng
open Go Go.Proofs
theorem zRF {l:List Int}:∀ k,k≤l.length→(zGT (l.take k)).length≤k∧((∃ j,1≤j∧j<k∧l.getD j 0=l.getD (j-1) 0)→(zGT (l.take k)).length<k)
 | 0,_=>⟨by simp [zGT],fun ⟨j,h1,h2,_⟩=>by omega⟩
 | k + 1,hk=>by
  obtain ⟨h1,h2⟩:=zRF (l:=l) k (by omega)
  cases k with
  | zero =>
   rw [zG2 (show 0<l.length by omega)]
   exact ⟨by simp [zGT,zVL],fun ⟨j,h1,h2,_⟩=>by omega⟩
  | succ k =>
   rw [zHs (by omega) (by omega)]
   split
   ·exact ⟨by omega,fun _=>by omega⟩
   ·rename_i hI
    refine ⟨by rw [List.length_append];simp;omega,fun ⟨j,g1,g2,g3⟩=>?_⟩
    have hj:j<k+1:=by
     by_cases h:j=k+1
     ·subst h;exact absurd g3 hI
     ·omega
    have:=h2 ⟨j,g1,hj,g3⟩
    rw [List.length_append];simp;omega
theorem zRn {l:List Int} (h:zFK l=true) (j:Nat) (hj:j+1<l.length):l.getD j 0≤l.getD (j+1) 0:=by
 simp only [zFK,List.all_eq_true,List.mem_range,decide_eq_true_eq] at h
 exact h j (by omega)
theorem zHK {l:List Int}:zDl l=zSJ l:=by
 rw [Bool.eq_iff_iff]
 constructor
 ·intro h
  simp only [zDl,Bool.and_eq_true,decide_eq_true_eq] at h
  simp only [zSJ,List.all_eq_true,List.mem_range,decide_eq_true_eq]
  intro j hj
  have h1:=zRn h.1 j (by omega)
  have h2:=(zRF (l:=l) l.length (Nat.le_refl _)).2
  rw [List.take_length] at h2
  by_cases he:l.getD (j+1) 0=l.getD j 0
  ·have:=h2 ⟨j+1,by omega,by omega,by simpa using he⟩
   omega
  ·omega
 ·intro h
  simp only [zSJ,List.all_eq_true,List.mem_range,decide_eq_true_eq] at h
  simp only [zDl,zFK,Bool.and_eq_true,decide_eq_true_eq,List.all_eq_true,List.mem_range]
  refine ⟨fun j hj=>by have:=h j hj;omega,?_⟩
  have:=zG3 (l:=l) l.length (Nat.le_refl _) fun j h1 h2=>by
   have:=h (j-1) (by omega)
   rw [show j-1+1=j by omega] at this
   omega
  rw [List.take_length] at this
  rw [this]
structure NwOk (n:Nw):Prop where
 err:zC2 n=0
 h:1≤n.h∧n.h≤10
 ll:n.l.length≤15
 nl:1≤n.n.length∧n.n.length≤8
 sl:1≤n.s.length∧n.s.length≤6
 lr:∀ x∈n.l,(0≤x.1∧x.1<n.h)∧(0≤x.2∧x.2<n.h)
 lne:∀ x∈n.l,x.1≠x.2
 ld:(n.l.map pr2).Nodup
 na:∀ i,i<n.n.length→-1≤(n.n.getD i default).1∧(n.n.getD i default).1<i
 nd:∀ i k,k<i→i<n.n.length→(n.n.getD i default).1≠-1→(n.n.getD k default).1≠(n.n.getD i default).1
 sr:∀ l∈n.s,∀ x∈l,0≤x∧x<n.h
 ss:∀ l∈n.s,zSJ l=true
theorem zSk {l:List Int} (h:zSJ l=true):∀ i j,i<j→j<l.length→l.getD i 0<l.getD j 0:=by
 simp only [zSJ,List.all_eq_true,List.mem_range,decide_eq_true_eq] at h
 intro i j qF hj
 induction j with
 | zero=>omega
 | succ j ih =>
  have h1:=h j (by omega)
  by_cases he:i=j
  ·subst he;exact h1
  ·have:=ih (by omega) (by omega);omega
theorem zTQ {l:List Int} (h:zSJ l=true) {B:Int} (hb:∀ x∈l,0≤x∧x<B):(l.length:Int)≤B∨l.length=0:=by
 by_cases h0:l.length=0
 ·exact .inr h0
 ·left
  have key:∀ j,j<l.length→(j:Int)≤l.getD j 0:=by
   intro j
   induction j with
   | zero=>intro hj;exact (zBz hb 0 hj).1
   | succ j ih =>
    intro hj
    have h1:=ih (by omega)
    have h2:=zSk h j (j+1) (by omega) hj
    omega
  have h1:=key (l.length-1) (by omega)
  have h2:=(zBz (d:=(0:Int)) hb (l.length-1) (by omega)).2
  omega
theorem NwOk.rows {n:Nw} (ho:NwOk n):∀ l∈n.s,l.length≤10:=fun l hl=>by
 have h1:=zTQ (ho.ss l hl) (ho.sr l hl)
 have:=ho.h
 omega
theorem NwOk.small {n:Nw} (ho:NwOk n):Small n:=⟨by have:=ho.ll;omega,by have:=ho.nl;omega,by have:=ho.sl;omega,fun l hl=>by have:=ho.rows l hl;omega⟩
theorem zC6 {n lo hi:Int} (h:inB n lo hi=true):lo≤n∧n≤hi:=by simpa [inB] using h
theorem zQd {h:Int} {l:List (Int×Int)} (he:zBB h l=0):(l.all fun x=>zGU h x)=true∧(l.all fun x=>zHS x)=true∧(l.map pr2).Nodup:=by
 unfold zBB at he
 split at he
 ·split at he
  ·split at he
   ·exact ⟨by assumption,by assumption,by assumption⟩
   ·cases he
  ·cases he
 ·cases he
theorem zRh {l:List (Int×Bool)} (he:zCF l=0):zNt l=true∧(List.range l.length).any (zLQ l)=false:=by
 unfold zCF at he
 split at he
 ·split at he
  ·cases he
  ·rename_i h1 h2;exact ⟨h1,by rw [Bool.not_eq_true] at h2;exact h2⟩
 ·cases he
theorem zS8 {n:Nw} (he:zC2 n=0):NwOk n:=by
 have he0:=he
 unfold zC2 at he
 split at he
 ·cases he
 split at he
 ·cases he
 split at he
 ·cases he
 split at he
 ·cases he
 rename_i c1 c2 c3 c4
 split at he
 case isFalse h=>exact absurd he h
 rename_i c5
 split at he
 case isFalse h=>exact absurd he h
 rename_i c6
 split at he
 ·cases he
 split at he
 ·cases he
 rename_i c7 c8
 simp only [Bool.not_eq_true,Bool.not_eq_false'] at c1 c3 c4 c7 c8
 obtain ⟨d1,d2,d3⟩:=zQd c5
 obtain ⟨e1,e2⟩:=zRh c6
 rw [List.all_eq_true] at c7 c8 d1 d2
 simp only [zNt,List.all_eq_true,List.mem_range] at e1
 simp only [List.any_eq_false,List.mem_range] at e2
 have a3:=zC6 c3
 have a4:=zC6 c4
 refine ⟨he0,zC6 c1,by omega,by omega,by omega,fun x hx=>?_,fun x hx=>by have:=d2 x hx;simpa [zHS] using this,d3,fun i hi=>?_,fun i k hk hi hI hx=>?_,fun l hl x hx=>?_,fun l hl=>by rw [← zHK];exact c8 l hl⟩
 ·have:=d1 x hx
  simp only [zGU,Bool.and_eq_true] at this
  have b1:=zC6 this.1
  have b2:=zC6 this.2
  omega
 ·have:=zC6 (e1 i hi);omega
 ·refine e2 i hi ?_
  simp only [zLQ,Bool.and_eq_true,decide_eq_true_eq,List.any_eq_true]
  refine ⟨hI,n.n.getD k default,?_,hx⟩
  rw [zAq (by omega)]
  exact List.mem_take_iff_getElem.2 ⟨k,by omega,rfl⟩
 ·have:=c7 l hl
  simp only [zIB,List.all_eq_true] at this
  have:=zC6 (this x hx);omega
def zMM (F:List Int) (i:Nat) (a:Int):List Int:=if a = -1 then F.set i i else (F.set i i).set i ((F.set i i).getD a.toNat 0)
def zOy (l:List (Int×Bool)):Nat→List Int
 | 0=>List.replicate 8 0
 | i+1=>zMM (zOy l i) i (l.getD i default).1
def zMP (F:List Int) (L:List Int) (i k:Nat):List Int:=if F.getD k 0=F.getD i 0 then L.set i (max (L.getD i 0) k) else L
def zTN (F:List Int) (i:Nat) (L:List Int) (k:Nat):List Int:=(List.range k).foldl (fun L k=>zMP F L i k) L
def zQq (F:List Int) (m i:Nat):List Int:=(List.range i).foldl (fun L i=>zTN F i L m) (List.replicate 8 0)
theorem zRf {F:List Int} {i:Nat} {a:Int}:(zMM F i a).length=F.length:=by unfold zMM;split<;>simp
theorem zHh {l:List (Int×Bool)}:∀ i,(zOy l i).length=8
 | 0=>by simp [zOy]
 | i+1=>by rw [zOy,zRf];exact zHh i
theorem zQT {F L:List Int} {i k:Nat}:(zMP F L i k).length=L.length:=by unfold zMP;split<;>simp
theorem zG7 {F L:List Int} {i k:Nat}:zTN F i L (k+1)=zMP F (zTN F i L k) i k:=by
 simp only [zTN,List.range_succ,List.foldl_append,List.foldl_cons,List.foldl_nil]
theorem zIn {F L:List Int} {i:Nat}:∀ k,(zTN F i L k).length=L.length
 | 0=>rfl
 | k+1=>by rw [zG7,zQT];exact zIn k
theorem zFO {F:List Int} {m i:Nat}:zQq F m (i+1)=zTN F i (zQq F m i) m:=by
 simp only [zQq,List.range_succ,List.foldl_append,List.foldl_cons,List.foldl_nil]
theorem zLq {F:List Int} {m:Nat}:∀ i,(zQq F m i).length=8
 | 0=>by simp [zQq]
 | i+1=>by rw [zFO,zIn];exact zLq i
def zAk (n:Nw):List Int:=zOy n.n n.n.length
def zA2 (n:Nw):List Int:=zQq (zAk n) n.n.length n.n.length
abbrev zCC (n:Nw) (cs ms:PV) (F L:List Int):PV := .agg [I n.h,.sl (n.l.map prV),.sl (n.n.map ntV),.sl (n.s.map zAw),cs,ms,I (F.getD 0 0),I (F.getD 1 0),I (F.getD 2 0),I (F.getD 3 0),I (F.getD 4 0),I (F.getD 5 0),I (F.getD 6 0),I (F.getD 7 0),I (L.getD 0 0),I (L.getD 1 0),I (L.getD 2 0),I (L.getD 3 0),I (L.getD 4 0),I (L.getD 5 0),I (L.getD 6 0),I (L.getD 7 0)]
abbrev zUf (M:List (Int×Int)):PV := .omap (M.map zBv)
section
variable [Yo]
theorem f139_2 (n:Nw) (hs:Small n) (he:¬ zC2 n=0):FG 139 [nwV n] (.tup [.nilp,I (zC2 n)]):=by
 refine zAf Tryz.f139 ?_
 refine zAd 3<|zAa<|zAg<|zAd 1<|S_a [(6,.ret (I (zC2 n)) [])] (ap (f76 n (by omega)) an)<|zAc 1<|zAa<|zAd 2<|zAa<|zCH (zC2 n=0) (by omega)<|zAd 3<|zAa<|zAm<|E_a [] an (PV.tup [PV.nilp,I (zC2 n)]) [] rfl rfl
theorem f139_1 (n:Nw) (ho:NwOk n):FG 139 [nwV n] (.tup [.box (zCC n (.own 2 []) (zUf (n.l.map pr2)) (zAk n) (zA2 n)),I 0]):=by
 have hs:=ho.small
 have he:=ho.err
 have h1:=ho.nl.2
 have h2:=ho.ll
 have h3:=ho.ld
 have h4:=ho.na
 refine zAf Tryz.f139 ?_
 refine zAd 3<|zAa<|zAg<|zAd 1<|S_a [(6,.ret (I (zC2 n)) [])] (ap (f76 n (by omega)) an)<|zAc 1<|zAa<|zAd 2<|zAa<|zFF (zC2 n=0) (by omega)<|zAj<|zAd 5<|zAa<|zAg<|zAd 2<|S_a [(0,.n n.l.length)] (ap (lnS prV n.l) an)<|zAc 1<|zAa<|zAh 0 ?_
 refine zAo (fun (i,M)=>i≤n.l.length∧M=(n.l.take i).map pr2) (fun (i,M)=>[(5,.box (zCC n (.own 2 []) (zUf M) (List.replicate 8 0) (List.replicate 8 0))),(24,I (i:Nat))]) (fun (i,_)=>n.l.length-i) ((0:Nat),([]:List (Int×Int))) ⟨Nat.zero_le _,rfl⟩ fun (i,M) ⟨hi,hM⟩=>?_
 by_cases yB:i<n.l.length
 ·have yU:(n.l.take (i+1)).map pr2=M++[pr2 (n.l.getD i default)]:=by rw [zBP (d:=default) yB,List.map_append,← hM];rfl
  have hin:pr2 (n.l.getD i default)∉M:=fun hm=>by
   rw [← List.take_append_drop (i+1) n.l,List.map_append,yU] at h3
   have h2:=(List.nodup_append.1 h3).1
   have h3:=(List.nodup_append.1 h2).2.2
   exact h3 _ hm _ (List.mem_singleton.2 rfl) rfl
  have jN:=zLx hin
  refine zAd 1<|zAa<|zAg<|zAJ ((↑i:Int)<(↑n.l.length:Int)) (by omega)<|zAj<|zAg<|zAh 1<|zAg<|zAe<|S_a [(2,.v (PV.agg [I (n.l.getD i default).fst,I (n.l.getD i default).snd]))] (ap (zBx default (by omega):(List.map prV n.l)[i]? = some (PV.agg [I (n.l.getD i default).fst,I (n.l.getD i default).snd])) an)<|zAc 3<|zAa<|zAe<|zAc 5<|S_a [(6,.ret (prV (pr2 (n.l.getD i default))) [])] (ap (f110 (n.l.getD i default)) an)<|S_a [(4,.ix none),(0,.v (PV.omap (List.map zBv (M++[pr2 (n.l.getD i default)]))))] (ap jN<|ap ((by simp):PV.omap (List.map zBv M++[(PV.agg [I (pr2 (n.l.getD i default)).fst,I (pr2 (n.l.getD i default)).snd],PV.bool true)])=PV.omap (List.map zBv (M++[pr2 (n.l.getD i default)]))) an)<|zAa<|zAe<|S_a [(1,.v (I (↑(i+1):Int)))] (ap (wrN i) an)<|zAc 1<|zAa ?_
  exact ⟨(i+1,M++[pr2 (n.l.getD i default)]),⟨by omega,yU.symm⟩,by simp only;omega,by kernel_rfl,by kernel_rfl⟩
 ·refine zAd 1<|zAa<|zAg<|zAK ((↑i:Int)<(↑n.l.length:Int)) (by omega)<|zAs 0<|zAg<|zAd 2<|S_a [(0,.n n.n.length)] (ap (lnS ntV n.n) an)<|zAc 1<|zAa<|zAh 2 ?_
  rw [List.take_of_length_le (by omega)] at hM
  subst hM
  clear h3
  generalize hMM:n.l.map pr2=MM
  refine zAo (fun (i,F)=>i≤n.n.length∧F=zOy n.n i) (fun (i,F)=>[(5,.box (zCC n (.own 2 []) (zUf MM) F (List.replicate 8 0))),(38,I (i:Nat))]) (fun (i,_)=>n.n.length-i) ((0:Nat),List.replicate 8 0) ⟨Nat.zero_le _,rfl⟩ fun (i,F) ⟨hi,hF⟩=>?_
  have hFl:F.length=8:=by rw [hF];exact zHh i
  by_cases yB:i<n.n.length
  ·have h4i:=h4 i yB
   have yC:zOy n.n (i+1)=zMM F i (n.n.getD i default).1:=by rw [hF];rfl
   refine zAd 1<|zAa<|zAg<|zAJ ((↑i:Int)<(↑n.n.length:Int)) (by omega)<|zAj<|zAg<|zAh 3<|zAd 1<|S_a [(2,.v (PV.agg [I (n.n.getD i default).fst,PV.bool (n.n.getD i default).snd]))] (ap (zBx default (by omega):(List.map ntV n.n)[i]? = some (PV.agg [I (n.n.getD i default).fst,PV.bool (n.n.getD i default).snd])) an)<|zAc 4<|zAa<|zAd 5<|S_a [(2,.ob),(1,.v (PV.addr 5 [] 0 (6+i) none))] (ap ((by exact zAr (by omega)):decide (i<8)=true)<|ap ((zFU (by kernel_rfl)):PV.addr 5 [] 0 (6+i*(fun x=>x.size) Tryz.prog.types[3]) none=PV.addr 5 [] 0 (6+i) none) an)<|S_a [(8,.root ((PV.agg [I n.h,prs n.l,PV.sl (List.map ntV n.n),PV.sl (List.map zAw n.s),PV.own 2 [],PV.omap (List.map zBv MM),zs F i 0,zs F i 1,zs F i 2,zs F i 3,zs F i 4,zs F i 5,zs F i 6,zs F i 7,z8 0,z8 1,z8 2,z8 3,z8 4,z8 5,z8 6,z8 7]).box) true)] (ap (zQc (zKF (q:=(PV.agg [I n.h,prs n.l,PV.sl (List.map ntV n.n),PV.sl (List.map zAw n.s),PV.own 2 [],PV.omap (List.map zBv MM),I (F.getD 0 0),I (F.getD 1 0),I (F.getD 2 0),I (F.getD 3 0),I (F.getD 4 0),I (F.getD 5 0),I (F.getD 6 0),I (F.getD 7 0),z8 0,z8 1,z8 2,z8 3,z8 4,z8 5,z8 6,z8 7]).box) (xs:=[PV.agg [I n.h,prs n.l,PV.sl (List.map ntV n.n),PV.sl (List.map zAw n.s),PV.own 2 [],PV.omap (List.map zBv MM),I (F.getD 0 0),I (F.getD 1 0),I (F.getD 2 0),I (F.getD 3 0),I (F.getD 4 0),I (F.getD 5 0),I (F.getD 6 0),I (F.getD 7 0),z8 0,z8 1,z8 2,z8 3,z8 4,z8 5,z8 6,z8 7]]) (x:=PV.agg [I n.h,prs n.l,PV.sl (List.map ntV n.n),PV.sl (List.map zAw n.s),PV.own 2 [],PV.omap (List.map zBv MM),I (F.getD 0 0),I (F.getD 1 0),I (F.getD 2 0),I (F.getD 3 0),I (F.getD 4 0),I (F.getD 5 0),I (F.getD 6 0),I (F.getD 7 0),z8 0,z8 1,z8 2,z8 3,z8 4,z8 5,z8 6,z8 7]) (y:=PV.agg [I n.h,prs n.l,PV.sl (List.map ntV n.n),PV.sl (List.map zAw n.s),PV.own 2 [],PV.omap (List.map zBv MM),zs F i 0,zs F i 1,zs F i 2,zs F i 3,zs F i 4,zs F i 5,zs F i 6,zs F i 7,z8 0,z8 1,z8 2,z8 3,z8 4,z8 5,z8 6,z8 7]) (q':=(PV.agg [I n.h,prs n.l,PV.sl (List.map ntV n.n),PV.sl (List.map zAw n.s),PV.own 2 [],PV.omap (List.map zBv MM),zs F i 0,zs F i 1,zs F i 2,zs F i 3,zs F i 4,zs F i 5,zs F i 6,zs F i 7,z8 0,z8 1,z8 2,z8 3,z8 4,z8 5,z8 6,z8 7]).box) rfl (zPb (A:=[I n.h,prs n.l,PV.sl (List.map ntV n.n),PV.sl (List.map zAw n.s),PV.own 2 [],PV.omap (List.map zBv MM)]) (B:=[z8 0,z8 1,z8 2,z8 3,z8 4,z8 5,z8 6,z8 7]) (F:=F) (m:=8) (j:=i) (u:=(↑i:Int)) (by first | rfl | exact zB3 (by kernel_rfl) | exact zB5 (by kernel_rfl) | (simp;done)) (by omega) (by omega)) rfl (hb:=zOg (A:=[I n.h,prs n.l,PV.sl (List.map ntV n.n),PV.sl (List.map zAw n.s),PV.own 2 [],PV.omap (List.map zBv MM)]) (B:=[z8 0,z8 1,z8 2,z8 3,z8 4,z8 5,z8 6,z8 7]) (F:=F) (m:=8) (j:=i) (by first | rfl | exact zB3 (by kernel_rfl) | exact zB5 (by kernel_rfl) | (simp;done)) (by omega))) rfl:zBC (PV.agg [I n.h,prs n.l,PV.sl (List.map ntV n.n),PV.sl (List.map zAw n.s),PV.own 2 [],PV.omap (List.map zBv MM),I (F.getD 0 0),I (F.getD 1 0),I (F.getD 2 0),I (F.getD 3 0),I (F.getD 4 0),I (F.getD 5 0),I (F.getD 6 0),I (F.getD 7 0),z8 0,z8 1,z8 2,z8 3,z8 4,z8 5,z8 6,z8 7]).box [] 0 (6+i) (I (↑i:Int)).cells=some (PV.agg [I n.h,prs n.l,PV.sl (List.map ntV n.n),PV.sl (List.map zAw n.s),PV.own 2 [],PV.omap (List.map zBv MM),zs F i 0,zs F i 1,zs F i 2,zs F i 3,zs F i 4,zs F i 5,zs F i 6,zs F i 7,z8 0,z8 1,z8 2,z8 3,z8 4,z8 5,z8 6,z8 7]).box∧zAM (PV.agg [I n.h,prs n.l,PV.sl (List.map ntV n.n),PV.sl (List.map zAw n.s),PV.own 2 [],PV.omap (List.map zBv MM),I (F.getD 0 0),I (F.getD 1 0),I (F.getD 2 0),I (F.getD 3 0),I (F.getD 4 0),I (F.getD 5 0),I (F.getD 6 0),I (F.getD 7 0),z8 0,z8 1,z8 2,z8 3,z8 4,z8 5,z8 6,z8 7]).box (PV.agg [I n.h,prs n.l,PV.sl (List.map ntV n.n),PV.sl (List.map zAw n.s),PV.own 2 [],PV.omap (List.map zBv MM),zs F i 0,zs F i 1,zs F i 2,zs F i 3,zs F i 4,zs F i 5,zs F i 6,zs F i 7,z8 0,z8 1,z8 2,z8 3,z8 4,z8 5,z8 6,z8 7]).box []=true) an)<|zAa<|zAd 3<|zAa<|zDk ((n.n.getD i default).fst = -1) (fun k0=>(zAe<|zAc 7<|S_a [(0,.ob),(1,.ob),(1,.v (PV.addr 5 [] 0 (6+(n.n.getD i default).fst.toNat) none))] (ap ((by exact zAr (by omega)):decide (0≤(n.n.getD i default).fst)=true)<|ap ((by exact zAr (by omega)):decide ((n.n.getD i default).fst.toNat<8)=true)<|ap ((zFU (by kernel_rfl)):PV.addr 5 [] 0 (6+(n.n.getD i default).fst.toNat*(fun x=>x.size) Tryz.prog.types[3]) none=PV.addr 5 [] 0 (6+(n.n.getD i default).fst.toNat) none) an)<|S_a [(0,.cs true ([I ((F.set i (↑i:Int)).getD (n.n.getD i default).fst.toNat 0)]))] (ap (zDb (q:=(PV.agg [I n.h,prs n.l,PV.sl (List.map ntV n.n),PV.sl (List.map zAw n.s),PV.own 2 [],PV.omap (List.map zBv MM),zs F i 0,zs F i 1,zs F i 2,zs F i 3,zs F i 4,zs F i 5,zs F i 6,zs F i 7,z8 0,z8 1,z8 2,z8 3,z8 4,z8 5,z8 6,z8 7]).box) (xs:=[PV.agg [I n.h,prs n.l,PV.sl (List.map ntV n.n),PV.sl (List.map zAw n.s),PV.own 2 [],PV.omap (List.map zBv MM),zs F i 0,zs F i 1,zs F i 2,zs F i 3,zs F i 4,zs F i 5,zs F i 6,zs F i 7,z8 0,z8 1,z8 2,z8 3,z8 4,z8 5,z8 6,z8 7]]) (x:=PV.agg [I n.h,prs n.l,PV.sl (List.map ntV n.n),PV.sl (List.map zAw n.s),PV.own 2 [],PV.omap (List.map zBv MM),zs F i 0,zs F i 1,zs F i 2,zs F i 3,zs F i 4,zs F i 5,zs F i 6,zs F i 7,z8 0,z8 1,z8 2,z8 3,z8 4,z8 5,z8 6,z8 7]) rfl rfl (zKC (A:=[I n.h,prs n.l,PV.sl (List.map ntV n.n),PV.sl (List.map zAw n.s),PV.own 2 [],PV.omap (List.map zBv MM)]) (B:=[z8 0,z8 1,z8 2,z8 3,z8 4,z8 5,z8 6,z8 7]) (F:=F.set i (↑i:Int)) (m:=8) (j:=(n.n.getD i default).fst.toNat) (by first | rfl | exact zB3 (by kernel_rfl) | exact zB5 (by kernel_rfl) | (simp;done)) (by omega)):zAv 5 (PV.agg [I n.h,prs n.l,PV.sl (List.map ntV n.n),PV.sl (List.map zAw n.s),PV.own 2 [],PV.omap (List.map zBv MM),zs F i 0,zs F i 1,zs F i 2,zs F i 3,zs F i 4,zs F i 5,zs F i 6,zs F i 7,z8 0,z8 1,z8 2,z8 3,z8 4,z8 5,z8 6,z8 7]).box [] 0 (6+(n.n.getD i default).fst.toNat) 1=some (true,[I ((F.set i (↑i:Int)).getD (n.n.getD i default).fst.toNat 0)])) an)<|zAc 2<|S_a [(2,.ob),(1,.v (PV.addr 5 [] 0 (6+i) none))] (ap ((by exact zAr (by omega)):decide (i<8)=true)<|ap ((zFU (by kernel_rfl)):PV.addr 5 [] 0 (6+i*(fun x=>x.size) Tryz.prog.types[3]) none=PV.addr 5 [] 0 (6+i) none) an)<|S_a [(8,.root ((PV.agg [I n.h,prs n.l,PV.sl (List.map ntV n.n),PV.sl (List.map zAw n.s),PV.own 2 [],PV.omap (List.map zBv MM),I (((F.set i (↑i:Int)).set i ((F.set i (↑i:Int)).getD (n.n.getD i default).fst.toNat 0)).getD 0 0),I (((F.set i (↑i:Int)).set i ((F.set i (↑i:Int)).getD (n.n.getD i default).fst.toNat 0)).getD 1 0),I (((F.set i (↑i:Int)).set i ((F.set i (↑i:Int)).getD (n.n.getD i default).fst.toNat 0)).getD 2 0),I (((F.set i (↑i:Int)).set i ((F.set i (↑i:Int)).getD (n.n.getD i default).fst.toNat 0)).getD 3 0),I (((F.set i (↑i:Int)).set i ((F.set i (↑i:Int)).getD (n.n.getD i default).fst.toNat 0)).getD 4 0),I (((F.set i (↑i:Int)).set i ((F.set i (↑i:Int)).getD (n.n.getD i default).fst.toNat 0)).getD 5 0),I (((F.set i (↑i:Int)).set i ((F.set i (↑i:Int)).getD (n.n.getD i default).fst.toNat 0)).getD 6 0),I (((F.set i (↑i:Int)).set i ((F.set i (↑i:Int)).getD (n.n.getD i default).fst.toNat 0)).getD 7 0),z8 0,z8 1,z8 2,z8 3,z8 4,z8 5,z8 6,z8 7]).box) true)] (ap (zQc (zKF (q:=(PV.agg [I n.h,prs n.l,PV.sl (List.map ntV n.n),PV.sl (List.map zAw n.s),PV.own 2 [],PV.omap (List.map zBv MM),zs F i 0,zs F i 1,zs F i 2,zs F i 3,zs F i 4,zs F i 5,zs F i 6,zs F i 7,z8 0,z8 1,z8 2,z8 3,z8 4,z8 5,z8 6,z8 7]).box) (xs:=[PV.agg [I n.h,prs n.l,PV.sl (List.map ntV n.n),PV.sl (List.map zAw n.s),PV.own 2 [],PV.omap (List.map zBv MM),zs F i 0,zs F i 1,zs F i 2,zs F i 3,zs F i 4,zs F i 5,zs F i 6,zs F i 7,z8 0,z8 1,z8 2,z8 3,z8 4,z8 5,z8 6,z8 7]]) (x:=PV.agg [I n.h,prs n.l,PV.sl (List.map ntV n.n),PV.sl (List.map zAw n.s),PV.own 2 [],PV.omap (List.map zBv MM),zs F i 0,zs F i 1,zs F i 2,zs F i 3,zs F i 4,zs F i 5,zs F i 6,zs F i 7,z8 0,z8 1,z8 2,z8 3,z8 4,z8 5,z8 6,z8 7]) (y:=PV.agg [I n.h,prs n.l,PV.sl (List.map ntV n.n),PV.sl (List.map zAw n.s),PV.own 2 [],PV.omap (List.map zBv MM),I (((F.set i (↑i:Int)).set i ((F.set i (↑i:Int)).getD (n.n.getD i default).fst.toNat 0)).getD 0 0),I (((F.set i (↑i:Int)).set i ((F.set i (↑i:Int)).getD (n.n.getD i default).fst.toNat 0)).getD 1 0),I (((F.set i (↑i:Int)).set i ((F.set i (↑i:Int)).getD (n.n.getD i default).fst.toNat 0)).getD 2 0),I (((F.set i (↑i:Int)).set i ((F.set i (↑i:Int)).getD (n.n.getD i default).fst.toNat 0)).getD 3 0),I (((F.set i (↑i:Int)).set i ((F.set i (↑i:Int)).getD (n.n.getD i default).fst.toNat 0)).getD 4 0),I (((F.set i (↑i:Int)).set i ((F.set i (↑i:Int)).getD (n.n.getD i default).fst.toNat 0)).getD 5 0),I (((F.set i (↑i:Int)).set i ((F.set i (↑i:Int)).getD (n.n.getD i default).fst.toNat 0)).getD 6 0),I (((F.set i (↑i:Int)).set i ((F.set i (↑i:Int)).getD (n.n.getD i default).fst.toNat 0)).getD 7 0),z8 0,z8 1,z8 2,z8 3,z8 4,z8 5,z8 6,z8 7]) (q':=(PV.agg [I n.h,prs n.l,PV.sl (List.map ntV n.n),PV.sl (List.map zAw n.s),PV.own 2 [],PV.omap (List.map zBv MM),I (((F.set i (↑i:Int)).set i ((F.set i (↑i:Int)).getD (n.n.getD i default).fst.toNat 0)).getD 0 0),I (((F.set i (↑i:Int)).set i ((F.set i (↑i:Int)).getD (n.n.getD i default).fst.toNat 0)).getD 1 0),I (((F.set i (↑i:Int)).set i ((F.set i (↑i:Int)).getD (n.n.getD i default).fst.toNat 0)).getD 2 0),I (((F.set i (↑i:Int)).set i ((F.set i (↑i:Int)).getD (n.n.getD i default).fst.toNat 0)).getD 3 0),I (((F.set i (↑i:Int)).set i ((F.set i (↑i:Int)).getD (n.n.getD i default).fst.toNat 0)).getD 4 0),I (((F.set i (↑i:Int)).set i ((F.set i (↑i:Int)).getD (n.n.getD i default).fst.toNat 0)).getD 5 0),I (((F.set i (↑i:Int)).set i ((F.set i (↑i:Int)).getD (n.n.getD i default).fst.toNat 0)).getD 6 0),I (((F.set i (↑i:Int)).set i ((F.set i (↑i:Int)).getD (n.n.getD i default).fst.toNat 0)).getD 7 0),z8 0,z8 1,z8 2,z8 3,z8 4,z8 5,z8 6,z8 7]).box) rfl (zPb (A:=[I n.h,prs n.l,PV.sl (List.map ntV n.n),PV.sl (List.map zAw n.s),PV.own 2 [],PV.omap (List.map zBv MM)]) (B:=[z8 0,z8 1,z8 2,z8 3,z8 4,z8 5,z8 6,z8 7]) (F:=F.set i (↑i:Int)) (m:=8) (j:=i) (u:=(F.set i (↑i:Int)).getD (n.n.getD i default).fst.toNat 0) (by first | rfl | exact zB3 (by kernel_rfl) | exact zB5 (by kernel_rfl) | (simp;done)) (by omega) (by first | omega | (simp<;>omega))) rfl (hb:=zOg (A:=[I n.h,prs n.l,PV.sl (List.map ntV n.n),PV.sl (List.map zAw n.s),PV.own 2 [],PV.omap (List.map zBv MM)]) (B:=[z8 0,z8 1,z8 2,z8 3,z8 4,z8 5,z8 6,z8 7]) (F:=F.set i (↑i:Int)) (m:=8) (j:=i) (by first | rfl | exact zB3 (by kernel_rfl) | exact zB5 (by kernel_rfl) | (simp;done)) (by omega))) rfl:zBC (PV.agg [I n.h,prs n.l,PV.sl (List.map ntV n.n),PV.sl (List.map zAw n.s),PV.own 2 [],PV.omap (List.map zBv MM),zs F i 0,zs F i 1,zs F i 2,zs F i 3,zs F i 4,zs F i 5,zs F i 6,zs F i 7,z8 0,z8 1,z8 2,z8 3,z8 4,z8 5,z8 6,z8 7]).box [] 0 (6+i) (I ((F.set i (↑i:Int)).getD (n.n.getD i default).fst.toNat 0)).cells=some (PV.agg [I n.h,prs n.l,PV.sl (List.map ntV n.n),PV.sl (List.map zAw n.s),PV.own 2 [],PV.omap (List.map zBv MM),I (((F.set i (↑i:Int)).set i ((F.set i (↑i:Int)).getD (n.n.getD i default).fst.toNat 0)).getD 0 0),I (((F.set i (↑i:Int)).set i ((F.set i (↑i:Int)).getD (n.n.getD i default).fst.toNat 0)).getD 1 0),I (((F.set i (↑i:Int)).set i ((F.set i (↑i:Int)).getD (n.n.getD i default).fst.toNat 0)).getD 2 0),I (((F.set i (↑i:Int)).set i ((F.set i (↑i:Int)).getD (n.n.getD i default).fst.toNat 0)).getD 3 0),I (((F.set i (↑i:Int)).set i ((F.set i (↑i:Int)).getD (n.n.getD i default).fst.toNat 0)).getD 4 0),I (((F.set i (↑i:Int)).set i ((F.set i (↑i:Int)).getD (n.n.getD i default).fst.toNat 0)).getD 5 0),I (((F.set i (↑i:Int)).set i ((F.set i (↑i:Int)).getD (n.n.getD i default).fst.toNat 0)).getD 6 0),I (((F.set i (↑i:Int)).set i ((F.set i (↑i:Int)).getD (n.n.getD i default).fst.toNat 0)).getD 7 0),z8 0,z8 1,z8 2,z8 3,z8 4,z8 5,z8 6,z8 7]).box∧zAM (PV.agg [I n.h,prs n.l,PV.sl (List.map ntV n.n),PV.sl (List.map zAw n.s),PV.own 2 [],PV.omap (List.map zBv MM),zs F i 0,zs F i 1,zs F i 2,zs F i 3,zs F i 4,zs F i 5,zs F i 6,zs F i 7,z8 0,z8 1,z8 2,z8 3,z8 4,z8 5,z8 6,z8 7]).box (PV.agg [I n.h,prs n.l,PV.sl (List.map ntV n.n),PV.sl (List.map zAw n.s),PV.own 2 [],PV.omap (List.map zBv MM),I (((F.set i (↑i:Int)).set i ((F.set i (↑i:Int)).getD (n.n.getD i default).fst.toNat 0)).getD 0 0),I (((F.set i (↑i:Int)).set i ((F.set i (↑i:Int)).getD (n.n.getD i default).fst.toNat 0)).getD 1 0),I (((F.set i (↑i:Int)).set i ((F.set i (↑i:Int)).getD (n.n.getD i default).fst.toNat 0)).getD 2 0),I (((F.set i (↑i:Int)).set i ((F.set i (↑i:Int)).getD (n.n.getD i default).fst.toNat 0)).getD 3 0),I (((F.set i (↑i:Int)).set i ((F.set i (↑i:Int)).getD (n.n.getD i default).fst.toNat 0)).getD 4 0),I (((F.set i (↑i:Int)).set i ((F.set i (↑i:Int)).getD (n.n.getD i default).fst.toNat 0)).getD 5 0),I (((F.set i (↑i:Int)).set i ((F.set i (↑i:Int)).getD (n.n.getD i default).fst.toNat 0)).getD 6 0),I (((F.set i (↑i:Int)).set i ((F.set i (↑i:Int)).getD (n.n.getD i default).fst.toNat 0)).getD 7 0),z8 0,z8 1,z8 2,z8 3,z8 4,z8 5,z8 6,z8 7]).box []=true) an)<|zAa<|zAe<|S_a [(1,.v (I (↑(i+1):Int)))] (ap (wrN i) an)<|zAc 1<|zAa ?_)) (fun k0=>(zAj<|zAe<|S_a [(1,.v (I (↑(i+1):Int)))] (ap (wrN i) an)<|zAc 1<|zAa ?_))
   ·rw [zMM,if_neg k0] at yC
    exact ⟨(i+1,(F.set i i).set i ((F.set i i).getD (n.n.getD i default).1.toNat 0)),⟨by omega,yC.symm⟩,by simp only;omega,by kernel_rfl,by kernel_rfl⟩
   ·rw [zMM,if_pos k0] at yC
    exact ⟨(i+1,F.set i i),⟨by omega,yC.symm⟩,by simp only;omega,by kernel_rfl,by kernel_rfl⟩
  ·have hFF:F=zAk n:=by rw [hF,zAk,show i=n.n.length by omega]
   subst hFF
   clear hF
   have qG:zA2 n=zQq (zAk n) n.n.length n.n.length:=rfl
   rw [qG]
   generalize hG:zAk n=F at *
   clear qG h4
   refine zAd 1<|zAa<|zAg<|zAK ((↑i:Int)<(↑n.n.length:Int)) (by omega)<|zAs 2<|zAg<|zAd 2<|S_a [(0,.n n.n.length)] (ap (lnS ntV n.n) an)<|zAc 1<|zAa<|zAh 4 ?_
   refine zAo (fun (i,L)=>i≤n.n.length∧L=zQq F n.n.length i) (fun (i,L)=>[(5,.box (zCC n (.own 2 []) (zUf MM) F L)),(68,I (i:Nat))]) (fun (i,_)=>n.n.length-i) ((0:Nat),List.replicate 8 0) ⟨Nat.zero_le _,rfl⟩ fun (i,L) ⟨hi,hL⟩=>?_
   have hLl:L.length=8:=by rw [hL];exact zLq i
   by_cases yB:i<n.n.length
   ·have yC:=zFO (F:=F) (m:=n.n.length) (i:=i)
    rw [← hL] at yC
    refine zAd 1<|zAa<|zAg<|zAJ ((↑i:Int)<(↑n.n.length:Int)) (by omega)<|zAj<|zAg<|zAh 5<|zAd 2<|zAa<|zAd 2<|S_a [(0,.n n.n.length)] (ap (lnS ntV n.n) an)<|zAc 1<|zAa<|zAh 6 ?_
    refine zAo (fun (k,Q)=>k≤n.n.length∧Q=zTN F i L k) (fun (k,Q)=>[(5,.box (zCC n (.own 2 []) (zUf MM) F Q)),(74,I (k:Nat))]) (fun (k,_)=>n.n.length-k) ((0:Nat),L) ⟨Nat.zero_le _,rfl⟩ fun (k,Q) ⟨hk,hQ⟩=>?_
    have hQl:Q.length=8:=by rw [hQ,zIn];exact hLl
    by_cases kK:k<n.n.length
    ·have jW:=zG7 (F:=F) (L:=L) (i:=i) (k:=k)
     rw [← hQ] at jW
     clear yC hL hQ
     refine zAd 1<|zAa<|zAg<|zAJ ((↑k:Int)<(↑n.n.length:Int)) (by omega)<|zAj<|zAg<|zAh 7<|zAd 2<|zAa<|zAd 4<|S_a [(2,.ob),(1,.v (PV.addr 5 [] 0 (6+k) none))] (ap ((by exact zAr (by omega)):decide (k<8)=true)<|ap ((zFU (by kernel_rfl)):PV.addr 5 [] 0 (6+k*(fun x=>x.size) Tryz.prog.types[3]) none=PV.addr 5 [] 0 (6+k) none) an)<|S_a [(0,.cs true ([I (F.getD k 0)]))] (ap (zDb (q:=(PV.agg [I n.h,prs n.l,PV.sl (List.map ntV n.n),PV.sl (List.map zAw n.s),PV.own 2 [],PV.omap (List.map zBv MM),I (F.getD 0 0),I (F.getD 1 0),I (F.getD 2 0),I (F.getD 3 0),I (F.getD 4 0),I (F.getD 5 0),I (F.getD 6 0),I (F.getD 7 0),I (Q.getD 0 0),I (Q.getD 1 0),I (Q.getD 2 0),I (Q.getD 3 0),I (Q.getD 4 0),I (Q.getD 5 0),I (Q.getD 6 0),I (Q.getD 7 0)]).box) (xs:=[PV.agg [I n.h,prs n.l,PV.sl (List.map ntV n.n),PV.sl (List.map zAw n.s),PV.own 2 [],PV.omap (List.map zBv MM),I (F.getD 0 0),I (F.getD 1 0),I (F.getD 2 0),I (F.getD 3 0),I (F.getD 4 0),I (F.getD 5 0),I (F.getD 6 0),I (F.getD 7 0),I (Q.getD 0 0),I (Q.getD 1 0),I (Q.getD 2 0),I (Q.getD 3 0),I (Q.getD 4 0),I (Q.getD 5 0),I (Q.getD 6 0),I (Q.getD 7 0)]]) (x:=PV.agg [I n.h,prs n.l,PV.sl (List.map ntV n.n),PV.sl (List.map zAw n.s),PV.own 2 [],PV.omap (List.map zBv MM),I (F.getD 0 0),I (F.getD 1 0),I (F.getD 2 0),I (F.getD 3 0),I (F.getD 4 0),I (F.getD 5 0),I (F.getD 6 0),I (F.getD 7 0),I (Q.getD 0 0),I (Q.getD 1 0),I (Q.getD 2 0),I (Q.getD 3 0),I (Q.getD 4 0),I (Q.getD 5 0),I (Q.getD 6 0),I (Q.getD 7 0)]) rfl rfl (zKC (A:=[I n.h,prs n.l,PV.sl (List.map ntV n.n),PV.sl (List.map zAw n.s),PV.own 2 [],PV.omap (List.map zBv MM)]) (B:=[I (Q.getD 0 0),I (Q.getD 1 0),I (Q.getD 2 0),I (Q.getD 3 0),I (Q.getD 4 0),I (Q.getD 5 0),I (Q.getD 6 0),I (Q.getD 7 0)]) (F:=F) (m:=8) (j:=k) (by first | rfl | exact zB3 (by kernel_rfl) | exact zB5 (by kernel_rfl) | (simp;done)) (by omega)):zAv 5 (PV.agg [I n.h,prs n.l,PV.sl (List.map ntV n.n),PV.sl (List.map zAw n.s),PV.own 2 [],PV.omap (List.map zBv MM),I (F.getD 0 0),I (F.getD 1 0),I (F.getD 2 0),I (F.getD 3 0),I (F.getD 4 0),I (F.getD 5 0),I (F.getD 6 0),I (F.getD 7 0),I (Q.getD 0 0),I (Q.getD 1 0),I (Q.getD 2 0),I (Q.getD 3 0),I (Q.getD 4 0),I (Q.getD 5 0),I (Q.getD 6 0),I (Q.getD 7 0)]).box [] 0 (6+k) 1=some (true,[I (F.getD k 0)])) an)<|zAc 4<|S_a [(2,.ob),(1,.v (PV.addr 5 [] 0 (6+i) none))] (ap ((by exact zAr (by omega)):decide (i<8)=true)<|ap ((zFU (by kernel_rfl)):PV.addr 5 [] 0 (6+i*(fun x=>x.size) Tryz.prog.types[3]) none=PV.addr 5 [] 0 (6+i) none) an)<|S_a [(0,.cs true ([I (F.getD i 0)]))] (ap (zDb (q:=(PV.agg [I n.h,prs n.l,PV.sl (List.map ntV n.n),PV.sl (List.map zAw n.s),PV.own 2 [],PV.omap (List.map zBv MM),I (F.getD 0 0),I (F.getD 1 0),I (F.getD 2 0),I (F.getD 3 0),I (F.getD 4 0),I (F.getD 5 0),I (F.getD 6 0),I (F.getD 7 0),I (Q.getD 0 0),I (Q.getD 1 0),I (Q.getD 2 0),I (Q.getD 3 0),I (Q.getD 4 0),I (Q.getD 5 0),I (Q.getD 6 0),I (Q.getD 7 0)]).box) (xs:=[PV.agg [I n.h,prs n.l,PV.sl (List.map ntV n.n),PV.sl (List.map zAw n.s),PV.own 2 [],PV.omap (List.map zBv MM),I (F.getD 0 0),I (F.getD 1 0),I (F.getD 2 0),I (F.getD 3 0),I (F.getD 4 0),I (F.getD 5 0),I (F.getD 6 0),I (F.getD 7 0),I (Q.getD 0 0),I (Q.getD 1 0),I (Q.getD 2 0),I (Q.getD 3 0),I (Q.getD 4 0),I (Q.getD 5 0),I (Q.getD 6 0),I (Q.getD 7 0)]]) (x:=PV.agg [I n.h,prs n.l,PV.sl (List.map ntV n.n),PV.sl (List.map zAw n.s),PV.own 2 [],PV.omap (List.map zBv MM),I (F.getD 0 0),I (F.getD 1 0),I (F.getD 2 0),I (F.getD 3 0),I (F.getD 4 0),I (F.getD 5 0),I (F.getD 6 0),I (F.getD 7 0),I (Q.getD 0 0),I (Q.getD 1 0),I (Q.getD 2 0),I (Q.getD 3 0),I (Q.getD 4 0),I (Q.getD 5 0),I (Q.getD 6 0),I (Q.getD 7 0)]) rfl rfl (zKC (A:=[I n.h,prs n.l,PV.sl (List.map ntV n.n),PV.sl (List.map zAw n.s),PV.own 2 [],PV.omap (List.map zBv MM)]) (B:=[I (Q.getD 0 0),I (Q.getD 1 0),I (Q.getD 2 0),I (Q.getD 3 0),I (Q.getD 4 0),I (Q.getD 5 0),I (Q.getD 6 0),I (Q.getD 7 0)]) (F:=F) (m:=8) (j:=i) (by first | rfl | exact zB3 (by kernel_rfl) | exact zB5 (by kernel_rfl) | (simp;done)) (by omega)):zAv 5 (PV.agg [I n.h,prs n.l,PV.sl (List.map ntV n.n),PV.sl (List.map zAw n.s),PV.own 2 [],PV.omap (List.map zBv MM),I (F.getD 0 0),I (F.getD 1 0),I (F.getD 2 0),I (F.getD 3 0),I (F.getD 4 0),I (F.getD 5 0),I (F.getD 6 0),I (F.getD 7 0),I (Q.getD 0 0),I (Q.getD 1 0),I (Q.getD 2 0),I (Q.getD 3 0),I (Q.getD 4 0),I (Q.getD 5 0),I (Q.getD 6 0),I (Q.getD 7 0)]).box [] 0 (6+i) 1=some (true,[I (F.getD i 0)])) an)<|zAc 1<|zAa<|zBZ (F.getD k 0=F.getD i 0) (fun k1=>(zAe<|zAc 6<|S_a [(2,.ob),(1,.v (PV.addr 5 [] 0 (14+i) none))] (ap ((by exact zAr (by omega)):decide (i<8)=true)<|ap ((zFU (by kernel_rfl)):PV.addr 5 [] 0 (14+i*(fun x=>x.size) Tryz.prog.types[3]) none=PV.addr 5 [] 0 (14+i) none) an)<|S_a [(0,.cs true ([I (Q.getD i 0)]))] (ap (zDb (q:=(PV.agg [I n.h,prs n.l,PV.sl (List.map ntV n.n),PV.sl (List.map zAw n.s),PV.own 2 [],PV.omap (List.map zBv MM),I (F.getD 0 0),I (F.getD 1 0),I (F.getD 2 0),I (F.getD 3 0),I (F.getD 4 0),I (F.getD 5 0),I (F.getD 6 0),I (F.getD 7 0),I (Q.getD 0 0),I (Q.getD 1 0),I (Q.getD 2 0),I (Q.getD 3 0),I (Q.getD 4 0),I (Q.getD 5 0),I (Q.getD 6 0),I (Q.getD 7 0)]).box) (xs:=[PV.agg [I n.h,prs n.l,PV.sl (List.map ntV n.n),PV.sl (List.map zAw n.s),PV.own 2 [],PV.omap (List.map zBv MM),I (F.getD 0 0),I (F.getD 1 0),I (F.getD 2 0),I (F.getD 3 0),I (F.getD 4 0),I (F.getD 5 0),I (F.getD 6 0),I (F.getD 7 0),I (Q.getD 0 0),I (Q.getD 1 0),I (Q.getD 2 0),I (Q.getD 3 0),I (Q.getD 4 0),I (Q.getD 5 0),I (Q.getD 6 0),I (Q.getD 7 0)]]) (x:=PV.agg [I n.h,prs n.l,PV.sl (List.map ntV n.n),PV.sl (List.map zAw n.s),PV.own 2 [],PV.omap (List.map zBv MM),I (F.getD 0 0),I (F.getD 1 0),I (F.getD 2 0),I (F.getD 3 0),I (F.getD 4 0),I (F.getD 5 0),I (F.getD 6 0),I (F.getD 7 0),I (Q.getD 0 0),I (Q.getD 1 0),I (Q.getD 2 0),I (Q.getD 3 0),I (Q.getD 4 0),I (Q.getD 5 0),I (Q.getD 6 0),I (Q.getD 7 0)]) rfl rfl (zKC (A:=[I n.h,prs n.l,PV.sl (List.map ntV n.n),PV.sl (List.map zAw n.s),PV.own 2 [],PV.omap (List.map zBv MM),I (F.getD 0 0),I (F.getD 1 0),I (F.getD 2 0),I (F.getD 3 0),I (F.getD 4 0),I (F.getD 5 0),I (F.getD 6 0),I (F.getD 7 0)]) (B:=[]) (F:=Q) (m:=8) (j:=i) (by first | rfl | exact zB3 (by kernel_rfl) | exact zB5 (by kernel_rfl) | (simp;done)) (by omega)):zAv 5 (PV.agg [I n.h,prs n.l,PV.sl (List.map ntV n.n),PV.sl (List.map zAw n.s),PV.own 2 [],PV.omap (List.map zBv MM),I (F.getD 0 0),I (F.getD 1 0),I (F.getD 2 0),I (F.getD 3 0),I (F.getD 4 0),I (F.getD 5 0),I (F.getD 6 0),I (F.getD 7 0),I (Q.getD 0 0),I (Q.getD 1 0),I (Q.getD 2 0),I (Q.getD 3 0),I (Q.getD 4 0),I (Q.getD 5 0),I (Q.getD 6 0),I (Q.getD 7 0)]).box [] 0 (14+i) 1=some (true,[I (Q.getD i 0)])) an)<|zAc 2<|S_a [(9,.ret (I (max (Q.getD i 0) (↑k:Int))) [])] (ap (f165 (Q.getD i 0) ((↑k:Int))) an)<|zAc 2<|S_a [(2,.ob),(1,.v (PV.addr 5 [] 0 (14+i) none))] (ap ((by exact zAr (by omega)):decide (i<8)=true)<|ap ((zFU (by kernel_rfl)):PV.addr 5 [] 0 (14+i*(fun x=>x.size) Tryz.prog.types[3]) none=PV.addr 5 [] 0 (14+i) none) an)<|S_a [(8,.root ((PV.agg [I n.h,prs n.l,PV.sl (List.map ntV n.n),PV.sl (List.map zAw n.s),PV.own 2 [],PV.omap (List.map zBv MM),I (F.getD 0 0),I (F.getD 1 0),I (F.getD 2 0),I (F.getD 3 0),I (F.getD 4 0),I (F.getD 5 0),I (F.getD 6 0),I (F.getD 7 0),I ((Q.set i (max (Q.getD i 0) (↑k:Int))).getD 0 0),I ((Q.set i (max (Q.getD i 0) (↑k:Int))).getD 1 0),I ((Q.set i (max (Q.getD i 0) (↑k:Int))).getD 2 0),I ((Q.set i (max (Q.getD i 0) (↑k:Int))).getD 3 0),I ((Q.set i (max (Q.getD i 0) (↑k:Int))).getD 4 0),I ((Q.set i (max (Q.getD i 0) (↑k:Int))).getD 5 0),I ((Q.set i (max (Q.getD i 0) (↑k:Int))).getD 6 0),I ((Q.set i (max (Q.getD i 0) (↑k:Int))).getD 7 0)]).box) true)] (ap (zQc (zKF (q:=(PV.agg [I n.h,prs n.l,PV.sl (List.map ntV n.n),PV.sl (List.map zAw n.s),PV.own 2 [],PV.omap (List.map zBv MM),I (F.getD 0 0),I (F.getD 1 0),I (F.getD 2 0),I (F.getD 3 0),I (F.getD 4 0),I (F.getD 5 0),I (F.getD 6 0),I (F.getD 7 0),I (Q.getD 0 0),I (Q.getD 1 0),I (Q.getD 2 0),I (Q.getD 3 0),I (Q.getD 4 0),I (Q.getD 5 0),I (Q.getD 6 0),I (Q.getD 7 0)]).box) (xs:=[PV.agg [I n.h,prs n.l,PV.sl (List.map ntV n.n),PV.sl (List.map zAw n.s),PV.own 2 [],PV.omap (List.map zBv MM),I (F.getD 0 0),I (F.getD 1 0),I (F.getD 2 0),I (F.getD 3 0),I (F.getD 4 0),I (F.getD 5 0),I (F.getD 6 0),I (F.getD 7 0),I (Q.getD 0 0),I (Q.getD 1 0),I (Q.getD 2 0),I (Q.getD 3 0),I (Q.getD 4 0),I (Q.getD 5 0),I (Q.getD 6 0),I (Q.getD 7 0)]]) (x:=PV.agg [I n.h,prs n.l,PV.sl (List.map ntV n.n),PV.sl (List.map zAw n.s),PV.own 2 [],PV.omap (List.map zBv MM),I (F.getD 0 0),I (F.getD 1 0),I (F.getD 2 0),I (F.getD 3 0),I (F.getD 4 0),I (F.getD 5 0),I (F.getD 6 0),I (F.getD 7 0),I (Q.getD 0 0),I (Q.getD 1 0),I (Q.getD 2 0),I (Q.getD 3 0),I (Q.getD 4 0),I (Q.getD 5 0),I (Q.getD 6 0),I (Q.getD 7 0)]) (y:=PV.agg [I n.h,prs n.l,PV.sl (List.map ntV n.n),PV.sl (List.map zAw n.s),PV.own 2 [],PV.omap (List.map zBv MM),I (F.getD 0 0),I (F.getD 1 0),I (F.getD 2 0),I (F.getD 3 0),I (F.getD 4 0),I (F.getD 5 0),I (F.getD 6 0),I (F.getD 7 0),I ((Q.set i (max (Q.getD i 0) (↑k:Int))).getD 0 0),I ((Q.set i (max (Q.getD i 0) (↑k:Int))).getD 1 0),I ((Q.set i (max (Q.getD i 0) (↑k:Int))).getD 2 0),I ((Q.set i (max (Q.getD i 0) (↑k:Int))).getD 3 0),I ((Q.set i (max (Q.getD i 0) (↑k:Int))).getD 4 0),I ((Q.set i (max (Q.getD i 0) (↑k:Int))).getD 5 0),I ((Q.set i (max (Q.getD i 0) (↑k:Int))).getD 6 0),I ((Q.set i (max (Q.getD i 0) (↑k:Int))).getD 7 0)]) (q':=(PV.agg [I n.h,prs n.l,PV.sl (List.map ntV n.n),PV.sl (List.map zAw n.s),PV.own 2 [],PV.omap (List.map zBv MM),I (F.getD 0 0),I (F.getD 1 0),I (F.getD 2 0),I (F.getD 3 0),I (F.getD 4 0),I (F.getD 5 0),I (F.getD 6 0),I (F.getD 7 0),I ((Q.set i (max (Q.getD i 0) (↑k:Int))).getD 0 0),I ((Q.set i (max (Q.getD i 0) (↑k:Int))).getD 1 0),I ((Q.set i (max (Q.getD i 0) (↑k:Int))).getD 2 0),I ((Q.set i (max (Q.getD i 0) (↑k:Int))).getD 3 0),I ((Q.set i (max (Q.getD i 0) (↑k:Int))).getD 4 0),I ((Q.set i (max (Q.getD i 0) (↑k:Int))).getD 5 0),I ((Q.set i (max (Q.getD i 0) (↑k:Int))).getD 6 0),I ((Q.set i (max (Q.getD i 0) (↑k:Int))).getD 7 0)]).box) rfl (zPb (A:=[I n.h,prs n.l,PV.sl (List.map ntV n.n),PV.sl (List.map zAw n.s),PV.own 2 [],PV.omap (List.map zBv MM),I (F.getD 0 0),I (F.getD 1 0),I (F.getD 2 0),I (F.getD 3 0),I (F.getD 4 0),I (F.getD 5 0),I (F.getD 6 0),I (F.getD 7 0)]) (B:=[]) (F:=Q) (m:=8) (j:=i) (u:=max (Q.getD i 0) (↑k:Int)) (by first | rfl | exact zB3 (by kernel_rfl) | exact zB5 (by kernel_rfl) | (simp;done)) (by omega) (by omega)) rfl (hb:=zOg (A:=[I n.h,prs n.l,PV.sl (List.map ntV n.n),PV.sl (List.map zAw n.s),PV.own 2 [],PV.omap (List.map zBv MM),I (F.getD 0 0),I (F.getD 1 0),I (F.getD 2 0),I (F.getD 3 0),I (F.getD 4 0),I (F.getD 5 0),I (F.getD 6 0),I (F.getD 7 0)]) (B:=[]) (F:=Q) (m:=8) (j:=i) (by first | rfl | exact zB3 (by kernel_rfl) | exact zB5 (by kernel_rfl) | (simp;done)) (by omega))) rfl:zBC (PV.agg [I n.h,prs n.l,PV.sl (List.map ntV n.n),PV.sl (List.map zAw n.s),PV.own 2 [],PV.omap (List.map zBv MM),I (F.getD 0 0),I (F.getD 1 0),I (F.getD 2 0),I (F.getD 3 0),I (F.getD 4 0),I (F.getD 5 0),I (F.getD 6 0),I (F.getD 7 0),I (Q.getD 0 0),I (Q.getD 1 0),I (Q.getD 2 0),I (Q.getD 3 0),I (Q.getD 4 0),I (Q.getD 5 0),I (Q.getD 6 0),I (Q.getD 7 0)]).box [] 0 (14+i) (I (max (Q.getD i 0) (↑k:Int))).cells=some (PV.agg [I n.h,prs n.l,PV.sl (List.map ntV n.n),PV.sl (List.map zAw n.s),PV.own 2 [],PV.omap (List.map zBv MM),I (F.getD 0 0),I (F.getD 1 0),I (F.getD 2 0),I (F.getD 3 0),I (F.getD 4 0),I (F.getD 5 0),I (F.getD 6 0),I (F.getD 7 0),I ((Q.set i (max (Q.getD i 0) (↑k:Int))).getD 0 0),I ((Q.set i (max (Q.getD i 0) (↑k:Int))).getD 1 0),I ((Q.set i (max (Q.getD i 0) (↑k:Int))).getD 2 0),I ((Q.set i (max (Q.getD i 0) (↑k:Int))).getD 3 0),I ((Q.set i (max (Q.getD i 0) (↑k:Int))).getD 4 0),I ((Q.set i (max (Q.getD i 0) (↑k:Int))).getD 5 0),I ((Q.set i (max (Q.getD i 0) (↑k:Int))).getD 6 0),I ((Q.set i (max (Q.getD i 0) (↑k:Int))).getD 7 0)]).box∧zAM (PV.agg [I n.h,prs n.l,PV.sl (List.map ntV n.n),PV.sl (List.map zAw n.s),PV.own 2 [],PV.omap (List.map zBv MM),I (F.getD 0 0),I (F.getD 1 0),I (F.getD 2 0),I (F.getD 3 0),I (F.getD 4 0),I (F.getD 5 0),I (F.getD 6 0),I (F.getD 7 0),I (Q.getD 0 0),I (Q.getD 1 0),I (Q.getD 2 0),I (Q.getD 3 0),I (Q.getD 4 0),I (Q.getD 5 0),I (Q.getD 6 0),I (Q.getD 7 0)]).box (PV.agg [I n.h,prs n.l,PV.sl (List.map ntV n.n),PV.sl (List.map zAw n.s),PV.own 2 [],PV.omap (List.map zBv MM),I (F.getD 0 0),I (F.getD 1 0),I (F.getD 2 0),I (F.getD 3 0),I (F.getD 4 0),I (F.getD 5 0),I (F.getD 6 0),I (F.getD 7 0),I ((Q.set i (max (Q.getD i 0) (↑k:Int))).getD 0 0),I ((Q.set i (max (Q.getD i 0) (↑k:Int))).getD 1 0),I ((Q.set i (max (Q.getD i 0) (↑k:Int))).getD 2 0),I ((Q.set i (max (Q.getD i 0) (↑k:Int))).getD 3 0),I ((Q.set i (max (Q.getD i 0) (↑k:Int))).getD 4 0),I ((Q.set i (max (Q.getD i 0) (↑k:Int))).getD 5 0),I ((Q.set i (max (Q.getD i 0) (↑k:Int))).getD 6 0),I ((Q.set i (max (Q.getD i 0) (↑k:Int))).getD 7 0)]).box []=true) an)<|zAa<|zAe<|S_a [(1,.v (I (↑(k+1):Int)))] (ap (wrN k) an)<|zAc 1<|zAa ?_)) (fun k1=>(zAj<|zAe<|S_a [(1,.v (I (↑(k+1):Int)))] (ap (wrN k) an)<|zAc 1<|zAa ?_))
     ·rw [zMP,if_pos (by assumption)] at jW
      exact ⟨(k+1,Q.set i (max (Q.getD i 0) k)),⟨by omega,jW.symm⟩,by simp only;omega,by kernel_rfl,by kernel_rfl⟩
     ·rw [zMP,if_neg (by assumption)] at jW
      exact ⟨(k+1,Q),⟨by omega,jW.symm⟩,by simp only;omega,by kernel_rfl,by kernel_rfl⟩
    ·refine zAd 1<|zAa<|zAg<|zAK ((↑k:Int)<(↑n.n.length:Int)) (by omega)<|zAs 6<|zAe<|S_a [(1,.v (I (↑(i+1):Int)))] (ap (wrN i) an)<|zAc 1<|zAa ?_
     exact ⟨(i+1,Q),⟨by omega,by rw [yC,hQ,show k=n.n.length by omega]⟩,by simp only;omega,by kernel_rfl,by kernel_rfl⟩
   ·refine zAd 1<|zAa<|zAg<|zAK ((↑i:Int)<(↑n.n.length:Int)) (by omega)<|zAs 4<|zAd 1<|zAc 1<|zAc 1<|zAa<|zAm<|E_a [] an (PV.tup [(PV.agg [I n.h,prs n.l,PV.sl (List.map ntV n.n),PV.sl (List.map zAw n.s),PV.own 2 [],PV.omap (List.map zBv MM),I (F.getD 0 0),I (F.getD 1 0),I (F.getD 2 0),I (F.getD 3 0),I (F.getD 4 0),I (F.getD 5 0),I (F.getD 6 0),I (F.getD 7 0),I (L.getD 0 0),I (L.getD 1 0),I (L.getD 2 0),I (L.getD 3 0),I (L.getD 4 0),I (L.getD 5 0),I (L.getD 6 0),I (L.getD 7 0)]).box,I 0]) [] ?_ rfl
    rw [hL,show i=n.n.length by omega]
end
end Go.Eng
set_option maxRecDepth 10000
set_option maxHeartbeats 4000000
namespace Go.Eng
open Go Go.Proofs
abbrev mapM (M:List (Int×Int)):PV := .map (M.map zBv)
abbrev zDv (n:Nw) (cs:List (Int×Int)):PV := .ref (zCC n (prs cs) (mapM (n.l.map pr2)) (zAk n) (zA2 n))
def zEt (n:Nw) (c:Int×Int):Bool:=inB c.1 0 (n.n.length-1)&&inB c.2 0 (n.s.length-1)
def zDD (n:Nw) (cs:List (Int×Int)):Int:=if zC2 n=0 then if (cs.length:Int)>16 then 2 else if (!cs.all fun c=>zEt n c)=true then 1 else 0 else zC2 n
def zBT (n:Nw) (cs:List (Int×Int)) (e:Int):Int:=if zDD n cs=0 then if inB e 0 12=true then 0 else 3 else zDD n cs
structure CrOk (n:Nw) (cs:List (Int×Int)):Prop where
 err:zDD n cs=0
 nw:NwOk n
 len:cs.length≤16
 cs:∀ c∈cs,(0≤c.1∧c.1<n.n.length)∧(0≤c.2∧c.2<n.s.length)
structure CrW (n:Nw) (cs:List (Int×Int)):Prop where
 nw:NwOk n
 len:cs.length≤1000
 cs:∀ c∈cs,(0≤c.1∧c.1<n.n.length)∧(0≤c.2∧c.2<n.s.length)
theorem CrOk.w {n:Nw} {cs:List (Int×Int)} (h:CrOk n cs):CrW n cs:=⟨h.nw,by have:=h.len;omega,h.cs⟩
theorem zVb {n:Nw} {cs:List (Int×Int)} (he:zDD n cs=0):CrOk n cs:=by
 have he0:=he
 unfold zDD at he
 split at he
 case isFalse h=>exact absurd he h
 rename_i c1
 split at he
 ·cases he
 split at he
 ·cases he
 rename_i c2 c3
 simp only [Bool.not_eq_true,Bool.not_eq_false',List.all_eq_true] at c3
 refine ⟨he0,zS8 c1,by omega,fun c hc=>?_⟩
 have:=c3 c hc
 simp only [zEt,Bool.and_eq_true] at this
 have b1:=zC6 this.1
 have b2:=zC6 this.2
 omega
structure EvOk (n:Nw) (cs:List (Int×Int)) (e:Int):Prop where
 err:zBT n cs e=0
 cr:CrOk n cs
 ev:0≤e∧e≤12
theorem zPY {n:Nw} {cs:List (Int×Int)} {e:Int} (he:zBT n cs e=0):EvOk n cs e:=by
 have he0:=he
 unfold zBT at he
 split at he
 case isFalse h=>exact absurd he h
 rename_i c1
 split at he
 ·rename_i h;exact ⟨he0,zVb c1,zC6 h⟩
 ·cases he
section
variable [Yo]
theorem f170 (n:Nw) (x:Int) (hb:n.s.length≤6):FG 170 [nwV n,I x] (.bool (inB x 0 (n.s.length-1))):=by
 refine zAf Tryz.f170 ?_
 refine zAd 2<|zAa<|zAd 3<|S_a [(0,.n n.s.length)] (ap (lnS zAw n.s) an)<|S_a [(1,.v (I ((↑n.s.length:Int)-1)))] (ap ((zCP rfl (by omega)):I (IntKind.i64.wrap ((↑n.s.length:Int)-1))=I ((↑n.s.length:Int)-1)) an)<|S_a [(10,.ret (PV.bool (inB x 0 ((↑n.s.length:Int)-1))) [])] (ap (f107 x (0) ((↑n.s.length:Int)-1)) an)<|zAc 1<|zAa<|zAm<|E_a [] an (PV.bool (inB x 0 ((↑n.s.length:Int)-1))) [] rfl rfl
theorem f118 (n:Nw) (c:Int×Int) (cp:PV) (M:List (Int×Int)) (F L:List Int) (ho:NwOk n):FG 118 [.ref (zCC n cp (mapM M) F L),prV c] (.bool (zEt n c)):=by
 have h1:=ho.nl.2
 have h2:=ho.sl.2
 refine zAf Tryz.f118 ?_
 refine zAd 2<|zAa<|zAd 6<|S_a [(8,.ret (PV.bool (inB c.fst 0 ((↑n.n.length:Int)-1))) [])] (ap (f106 n c.fst (by omega)) an)<|zAc 1<|zDt 12 (inB c.fst 0 ((↑n.n.length:Int)-1)) (fun k0=>(zAc 6<|S_a [(8,.ret (PV.bool (inB c.snd 0 ((↑n.s.length:Int)-1))) [])] (ap (f170 n c.snd (by omega)) an)<|zAc 2<|zAa<|zAm<|E_a [] an (PV.bool (inB c.snd 0 ((↑n.s.length:Int)-1))) [] ?_ rfl)) (fun k0=>(zAc 9<|zAa<|zAm<|E_a [] an (PV.bool false) [] ?_ rfl))
 ·simp only [zEt,k0,Bool.true_and]
 ·simp only [zEt,k0,Bool.false_and]
theorem f204_1 (n:Nw) (M:List (Int×Int)) (F L:List Int) (ho:NwOk n) (x:Int×Int):FG 204 [prV x,.ref (.func 118 [.ref (zCC n (.sl []) (mapM M) F L)] [])] (.bool (!(zEt n x))):=by
 refine zAf Tryz.f204 ?_
 refine zAd 2<|zAa<|zAd 2<|S_a [(7,.ret (PV.bool (zEt n x)) [])] (ap (f118 n x (PV.sl []) M F L (by omega)) an)<|zAc 2<|zAa<|zAm<|E_a [] an (PV.bool !zEt n x) [] rfl rfl
theorem f203_1 (n:Nw) (M:List (Int×Int)) (F L:List Int) (ho:NwOk n) (l:List (Int×Int)) (hl:l.length<4294967296):FG 203 [.sl (l.map prV),.func 204 [] [.ref (.func 118 [.ref (zCC n (.sl []) (mapM M) F L)] [])]] (I (zEo (fun x => !(zEt n x)) l)):=by
 refine zAf Tryz.f203 ?_
 refine zAd 1<|zAa<|zAg<|zAd 1<|S_a [(0,.n l.length)] (ap (lnS prV l) an)<|zAc 1<|zAa<|zAh 0 ?_
 refine zAo (fun i=>i≤l.length∧∀ j,j<i→(fun x => !(zEt n x)) (l.getD j default)=false) (fun i=>[(8,I (i:Nat))]) (fun i=>l.length-i) (0:Nat) (by simp) fun i ⟨hi,ha⟩=>?_
 refine zAd 1<|zAa<|zAg<|zBZ ((↑i:Int)<(↑l.length:Int)) (fun k0=>(zAj<|zAg<|zAh 1<|zAd 2<|zAa<|zAd 3<|S_a [(2,.v (PV.agg [I (l.getD i default).fst,I (l.getD i default).snd]))] (ap (zBx default (by omega):(List.map prV l)[i]? = some (PV.agg [I (l.getD i default).fst,I (l.getD i default).snd])) an)<|zAc 1<|S_a [(7,.ret (PV.bool !zEt n (l.getD i default)) [])] (ap (f204_1 n M F L (by omega) (l.getD i default)) an)<|zAa<|zDf (!zEt n (l.getD i default)) (fun k1=>(zAd 2<|zAa<|zAm<|E_a [] an (I (↑i:Int)) [] ?_ rfl)) (fun k1=>(zAj<|zAe<|S_a [(1,.v (I (↑(i+1):Int)))] (ap (wrN i) an)<|zAc 1<|zAa ?_)))) (fun k0=>(zAs 0<|zAd 1<|zAa<|zAm<|E_a [] an (I (-1)) [] ?_ rfl))
 ·rw [zBO (i:=i) (by omega) (fun j hj=>by rw [← zAq (d:=default)];exact ha j hj) (by rw [← zAq (d:=default)];first | assumption | exact decide_eq_true ‹_› | (simp only [Bool.not_eq_true',decide_eq_false_iff_not];assumption))]
 ·refine ⟨i+1,⟨by omega,fun j hj=>?_⟩,by omega,by kernel_rfl,by kernel_rfl⟩
  rcases Nat.lt_succ_iff_lt_or_eq.1 hj with h | rfl
  ·exact ha j h
  ·first | assumption | exact decide_eq_false ‹_› | (simp only [Bool.not_eq_false',decide_eq_true_eq];first | assumption | (apply Decidable.of_not_not;assumption))
 ·rw [zB1 fun j hj=>by rw [← zAq (d:=default)];exact ha j (by omega)]
theorem f159_1 (n:Nw) (M:List (Int×Int)) (F L:List Int) (ho:NwOk n) (l:List (Int×Int)) (hl:l.length<4294967296):FG 159 [.sl (l.map prV),.func 204 [] [.ref (.func 118 [.ref (zCC n (.sl []) (mapM M) F L)] [])]] (.bool (l.any (fun x => !(zEt n x)))):=by
 refine zAf Tryz.f159 ?_
 refine zAd 1<|zAa<|zAd 2<|S_a [(7,.ret (I (zEo (fun x => !zEt n x) l)) [])] (ap (f203_1 n M F L (by omega) l (by omega)) an)<|zAc 2<|zAa<|zAm<|E_a [] an (PV.bool (decide (zEo (fun x => !zEt n x) l≥0))) [] ?_ rfl
 rw [zD2]
theorem f164_1 (n:Nw) (M:List (Int×Int)) (F L:List Int) (ho:NwOk n) (l:List (Int×Int)) (hl:l.length<4294967296):FG 164 [.sl (l.map prV),.func 118 [.ref (zCC n (.sl []) (mapM M) F L)] []] (.bool (l.all (fun x=>zEt n x))):=by
 refine zAf Tryz.f164 ?_
 refine zAd 2<|zAa<|zAd 2<|S_a [(12,.ret (PV.bool (l.any fun x => !zEt n x)) [])] (ap (f159_1 n M F L (by omega) l (by omega)) an)<|zAc 2<|zAa<|zAm<|E_a [] an (PV.bool !l.any fun x => !zEt n x) [] ?_ rfl
 simp [List.not_any_eq_all_not]
theorem f99_1 (n:Nw) (cs:List (Int×Int)) (ho:CrOk n cs):FG 99 [nwV n,prs cs] (.tup [zDv n cs,I 0]):=by
 have hn:=ho.nw
 have hl:=ho.len
 have ha:(!cs.all fun c=>zEt n c)=false:=by
  simp only [Bool.not_eq_false',List.all_eq_true]
  intro c hc
  have:=ho.cs c hc
  simp only [zEt,inB,Bool.and_eq_true,decide_eq_true_eq];omega
 refine zAf Tryz.f99 ?_
 refine zAd 3<|zAa<|zAd 1<|S_a [(6,.ret (PV.tup [(zCC n (PV.own 2 []) (zUf (List.map pr2 n.l)) (zAk n) (zA2 n)).box,I 0]) [])] (ap (f139_1 n (by omega)) an)<|zAc 5<|zAa<|zAg<|zAh 0<|zAd 3<|zAa<|zAW<|zAd 1<|S_a [(0,.n cs.length)] (ap (lnS prV cs) an)<|zAc 2<|zAa<|zAK ((↑cs.length:Int)>16) (by omega)<|zAd 3<|S_a [(13,.ret (PV.bool (cs.all fun x=>zEt n x)) [])] (ap (f164_1 n (List.map pr2 n.l) (zAk n) (zA2 n) (by omega) cs (by omega)) an)<|zAc 2<|zAa<|zDf (!cs.all fun x=>zEt n x) (fun k0=>(zAd 2<|zAa<|zAm<|E_a [] an (PV.tup [PV.nilp,I 1]) [] ?_ rfl)) (fun k0=>(zAj<|zAd 5<|zAa<|zAd 1<|zAc 1<|zAc 1<|zAa<|zAm<|E_a [] an (PV.tup [(PV.agg (I n.h::prs n.l::PV.sl (List.map ntV n.n)::PV.sl (List.map zAw n.s)::prs cs::PV.map (List.map zBv (List.map pr2 n.l))::(zAQ (zAk n) 8++zAQ (zA2 n) 8))).ref,I 0]) [] rfl rfl))
 rw [ha] at k0;cases k0
theorem f99_2 (n:Nw) (cs:List (Int×Int)) (hs:Small n) (hl:cs.length<1000000) (ho:¬ zDD n cs=0):FG 99 [nwV n,prs cs] (.tup [.nilp,I (zDD n cs)]):=by
 by_cases he:zC2 n=0
 ·have hn:=zS8 he
  refine zAf Tryz.f99 ?_
  refine zAd 3<|zAa<|zAd 1<|S_a [(6,.ret (PV.tup [(zCC n (PV.own 2 []) (zUf (List.map pr2 n.l)) (zAk n) (zA2 n)).box,I 0]) [])] (ap (f139_1 n (by omega)) an)<|zAc 5<|zAa<|zAg<|zAh 0<|zAd 3<|zAa<|zAW<|zAd 1<|S_a [(0,.n cs.length)] (ap (lnS prV cs) an)<|zAc 2<|zAa<|zBZ ((↑cs.length:Int)>16) (fun k0=>(zAd 2<|zAa<|zAm<|E_a [] an (PV.tup [PV.nilp,I 2]) [] ?_ rfl)) (fun k0=>(zAd 3<|S_a [(13,.ret (PV.bool (cs.all fun x=>zEt n x)) [])] (ap (f164_1 n (List.map pr2 n.l) (zAk n) (zA2 n) (by omega) cs (by omega)) an)<|zAc 2<|zAa<|zDf (!cs.all fun x=>zEt n x) (fun k1=>(zAd 2<|zAa<|zAm<|E_a [] an (PV.tup [PV.nilp,I 1]) [] ?_ rfl)) (fun k1=>(zAj<|zAd 5<|zAa<|zAd 1<|zAc 1<|zAc 1<|zAa<|zAm<|E_a [] an (PV.tup [(PV.agg (I n.h::prs n.l::PV.sl (List.map ntV n.n)::PV.sl (List.map zAw n.s)::prs cs::PV.map (List.map zBv (List.map pr2 n.l))::(zAQ (zAk n) 8++zAQ (zA2 n) 8))).ref,I 0]) [] ?_ rfl))))
  ·simp only [zDD,he,k0,if_true]
  ·simp only [zDD,he,k0,k1,if_true,if_false];try rfl
  ·exact absurd (by simp only [zDD,he,k0,k1,if_true,if_false];rfl) ho
 ·refine zAf Tryz.f99 ?_
  refine zAd 3<|zAa<|zAd 1<|S_a [(6,.ret (PV.tup [PV.nilp,I (zC2 n)]) [])] (ap (f139_2 n (by omega) (by omega)) an)<|zAc 5<|zAa<|zAg<|zAh 0<|zAd 3<|zAa<|zCH (zC2 n=0) (by omega)<|zAd 3<|zAa<|zAm<|E_a [] an (PV.tup [PV.nilp,I (zC2 n)]) [] ?_ rfl
  simp only [zDD,he,if_false]
theorem f90_1 (n:Nw) (cs:List (Int×Int)) (e:Int) (ho:EvOk n cs e):FG 90 [nwV n,prs cs,I e] (.tup [zDv n cs,I 0]):=by
 have hc:=ho.cr
 have he:inB e 0 12=true:=by have:=ho.ev;simp only [inB,Bool.and_eq_true,decide_eq_true_eq];omega
 refine zAf Tryz.f90 ?_
 refine zAd 3<|zAa<|zAd 2<|S_a [(8,.ret (PV.tup [zDv n cs,I 0]) [])] (ap (f99_1 n cs (by omega)) an)<|zAc 5<|zAa<|zAg<|zAd 4<|S_a [(10,.ret (PV.bool (inB e 0 12)) [])] (ap (f107 e (0) (12)) an)<|zAc 2<|zAa<|zDf (!inB e 0 12) (fun k0=>(zAe<|zAc 1<|zAa<|zAg<|zAd 2<|zAa<|zBM<|zAd 3<|zAa<|zAm<|E_a [] an (PV.tup [PV.nilp,I 3]) [] ?_ rfl)) (fun k0=>(zAj<|zAg<|zAd 2<|zAa<|zAW<|zAj<|zAd 3<|zAa<|zAm<|E_a [] an (PV.tup [(PV.agg (I n.h::prs n.l::PV.sl (List.map ntV n.n)::PV.sl (List.map zAw n.s)::prs cs::PV.map (List.map zBv (List.map pr2 n.l))::(zAQ (zAk n) 8++zAQ (zA2 n) 8))).ref,I 0]) [] rfl rfl))
 rw [he] at k0;cases k0
theorem f90_2 (n:Nw) (cs:List (Int×Int)) (e:Int) (hs:Small n) (hl:cs.length<1000000) (ho:¬ zBT n cs e=0):FG 90 [nwV n,prs cs,I e] (.tup [.nilp,I (zBT n cs e)]):=by
 by_cases he:zDD n cs=0
 ·have hc:=zVb he
  refine zAf Tryz.f90 ?_
  refine zAd 3<|zAa<|zAd 2<|S_a [(8,.ret (PV.tup [zDv n cs,I 0]) [])] (ap (f99_1 n cs (by omega)) an)<|zAc 5<|zAa<|zAg<|zAd 4<|S_a [(10,.ret (PV.bool (inB e 0 12)) [])] (ap (f107 e (0) (12)) an)<|zAc 2<|zAa<|zDf (!inB e 0 12) (fun k0=>(zAe<|zAc 1<|zAa<|zAg<|zAd 2<|zAa<|zBM<|zAd 3<|zAa<|zAm<|E_a [] an (PV.tup [PV.nilp,I 3]) [] ?_ rfl)) (fun k0=>(zAj<|zAg<|zAd 2<|zAa<|zAW<|zAj<|zAd 3<|zAa<|zAm<|E_a [] an (PV.tup [(PV.agg (I n.h::prs n.l::PV.sl (List.map ntV n.n)::PV.sl (List.map zAw n.s)::prs cs::PV.map (List.map zBv (List.map pr2 n.l))::(zAQ (zAk n) 8++zAQ (zA2 n) 8))).ref,I 0]) [] ?_ rfl))
  ·rw [Bool.not_eq_true'] at k0
   simp only [zBT,he,k0,if_true];try rfl
  ·rw [Bool.not_eq_false'] at k0
   exact absurd (by simp only [zBT,he,k0,if_true]) ho
 ·refine zAf Tryz.f90 ?_
  refine zAd 3<|zAa<|zAd 2<|S_a [(8,.ret (PV.tup [PV.nilp,I (zDD n cs)]) [])] (ap (f99_2 n cs (by omega) (by omega) (by omega)) an)<|zAc 5<|zAa<|zAg<|zAd 3<|zUi 18 (zDD n cs=0) (by omega) (zAc 4<|zAa<|zAW<|zAj<|zAg<|zAd 2<|zAa<|zCH (zDD n cs=0) (by omega)<|zAd 3<|zAa<|zAm<|E_a [] an (PV.tup [PV.nilp,I (zDD n cs)]) [] ?_ rfl)
  simp only [zBT,he,if_false]
theorem f140 (n:Nw) (cp:PV) (M:List (Int×Int)) (F L:List Int) (ho:NwOk n) (h:Int) (s:Int) (hs:0≤s∧s<n.s.length):FG 140 [.ref (zCC n cp (mapM M) F L),I h,I s] (.bool (has (n.s.getD s.toNat []) h)):=by
 have h1:=zBz (d:=[]) ho.rows s.toNat (by omega)
 refine zAf Tryz.f140 ?_
 refine zAd 1<|zAa<|zAd 6<|S_a [(0,.ob),(1,.v (zAw (n.s.getD s.toNat [])))] (ap ((by exact zAr (by omega)):decide (0≤s)=true)<|ap (zBx [] (by omega):(List.map zAw n.s)[s.toNat]? = some (zAw (n.s.getD s.toNat []))) an)<|zAc 2<|S_a [(8,.ret (PV.bool (has (n.s.getD s.toNat []) h)) [])] (ap (f58 (n.s.getD s.toNat []) h (by omega)) an)<|zAc 1<|zAa<|zAm<|E_a [] an (PV.bool (has (n.s.getD s.toNat []) h)) [] rfl rfl
theorem f116 (n:Nw) (cs:List (Int×Int)) (h:Int):FG 116 [zDv n cs,I h] (.func 169 [] [.ref (zDv n cs),.ref (I h)]):=by
 refine zAf Tryz.f116 ?_
 refine zAd 3<|zAa<|zAd 2<|zAa<|zAm<|E_a [] an (PV.func 169 [] [(PV.agg (I n.h::prs n.l::PV.sl (List.map ntV n.n)::PV.sl (List.map zAw n.s)::prs cs::PV.map (List.map zBv (List.map pr2 n.l))::(zAQ (zAk n) 8++zAQ (zA2 n) 8))).ref.ref,(I h).ref]) [] rfl rfl
end
def zGp (n:Nw) (a b:Int):Bool:=decide (pr2 (a,b)∈n.l.map pr2)
def zIf (n:Nw) (h:Nat) (o:Nat):List Nat:=(List.range o).filter fun o=>zGp n h o
theorem zIX {n:Nw} {h o:Nat}:zIf n h (o+1)=if zGp n h o=true then zIf n h o++[o] else zIf n h o:=by
 unfold zIf;rw [List.range_succ,List.filter_append]
 by_cases hn:zGp n h o=true
 ·rw [if_pos hn];simp [hn]
 ·rw [if_neg hn];simp [hn]
theorem zTw {n:Nw} {h t m:Nat} (ht:t≤m):zIf n h t <+: zIf n h m:=by
  induction ht with
  | refl=>exact List.prefix_refl _
  | step _ ih => rw [zIX];split
                 · exact ih.trans (List.prefix_append _ _)
                 · exact ih
theorem zTV {α:Type} {x y:List α} (h:x <+: y) {k:Int} (hk:k=x.length):x=y.take k.toNat:=by
 rw [hk,Int.toNat_natCast];exact List.prefix_iff_eq_take.1 h
abbrev zIV (n:Nw) (h o:Nat):List (List PV):=(zIf n h o).map fun (o:Nat)=>[I o]
abbrev zR8 (n:Nw) (cs:List (Int×Int)) (h:Nat):List PV:=[.ref (zDv n cs),.ref (I h)]
theorem zVe [Yo] (n:Nw) (cs:List (Int×Int)) (h:Nat) (ho:NwOk n) (hh:(h:Int)<n.h) (k:Int) (hk:k = -1∨1≤k∧k≤(zIf n h n.h.toNat).length) (i:Nat):W Tryz.prog zLb 169 Tryz.f169.ntmps (Tryz.f169.body.getD .ret) (zBc ([]++PV.yld i::zR8 n cs h) []) (some ⟨[],k,i⟩) fun x _ lg=>(x = .norm∨x = .ret)∧lg.map (·.xs)=some (if k = -1 then zIV n h n.h.toNat else (zIV n h n.h.toNat).take k.toNat):=by
 have hb:=ho.h
 refine zAd 6<|zAa<|zAh 0 ?_
 refine zUM (fun (o,xs,kc)=>o≤n.h.toNat∧xs=zIV n h o∧kc=k-xs.length∧(k = -1∨1≤kc)) (fun (o,_,_)=>[(10,I (o:Nat))]) (fun (_,xs,kc)=>some ⟨xs,kc,i⟩) (fun (o,_,_)=>n.h.toNat-o) ((0:Nat),([]:List (List PV)),k) ⟨Nat.zero_le _,rfl,by simp,by omega⟩ fun (o,xs,kc) ⟨hr,jY,hkc,jL⟩=>?_
 by_cases hol:(o:Int)<n.h
 ·have yQ:=zIX (n:=n) (h:=h) (o:=o)
  by_cases hI:zGp n h o=true
  ·rw [if_pos hI] at yQ
   have gZ:pr2 ((h:Int),(o:Int))∈n.l.map pr2:=by simpa [zGp] using hI
   obtain ⟨j,hj,jN⟩:=zRx gZ
   have jp:zIQ ((n.l.map pr2).map zBv) j=some (.bool true):=by
    have:j<n.l.length:=by simpa using hj
    simp [zIQ,this]
   have qV:xs++[[I o]]=zIV n h (o+1):=by rw [zIV,yQ,List.map_append,jY];rfl
   have uf:xs++[[I o]] <+: zIV n h n.h.toNat:=by rw [qV];exact (zTw (by omega)).map _
   refine zAd 1<|zAa<|zAg<|zAJ ((↑o:Int)<n.h) (by omega)<|zAj<|zAg<|zAh 1<|zAd 2<|zAa<|zAd 7<|S_a [(6,.ret (prV (pr2 ((↑h:Int),(↑o:Int)))) [])] (ap (f110 (((↑h:Int),(↑o:Int)))) an)<|S_a [(2,.ix (some j)),(0,.v (PV.bool true))] (ap jN<|ap (jp:zIQ (List.map zBv (List.map pr2 n.l)) j=some (PV.bool true)) an)<|zAc 3 ?_
   refine zVn kc xs [I o] i (fun hk3=>?_) (fun hk3=>?_) (by omega)
   ·refine zAc 2<|zAa<|zBM<|zAm ?_
    refine ⟨.inr rfl,?_⟩
    have wW:k=(xs++[[I (o:Int)]]).length:=by simp;omega
    have jL:¬ k = -1:=by omega
    rw [if_neg jL,← zTV uf wW];show Option.map _ _=_;kernel_rfl
   ·refine zAc 2<|zAa<|zAW<|zAj<|zAe<|S_a [(1,.v (I (↑(o+1):Int)))] (ap (wrN o) an)<|zAc 1<|zAa ?_
    exact ⟨(o+1,xs++[[I o]],kc-1),⟨by omega,qV,by simp;omega,by omega⟩,by simp only;omega,by kernel_rfl,by kernel_rfl⟩
  ·rw [if_neg hI] at yQ
   have gZ:pr2 ((h:Int),(o:Int))∉n.l.map pr2:=by simpa [zGp] using hI
   have jN:=zLx gZ
   refine zAd 1<|zAa<|zAg<|zAJ ((↑o:Int)<n.h) (by omega)<|zAj<|zAg<|zAh 1<|zAd 2<|zAa<|zAd 7<|S_a [(6,.ret (prV (pr2 ((↑h:Int),(↑o:Int)))) [])] (ap (f110 (((↑h:Int),(↑o:Int)))) an)<|S_a [(2,.ix none)] (ap jN an)<|zAc 6<|zAa<|zAW<|zAj<|zAe<|S_a [(1,.v (I (↑(o+1):Int)))] (ap (wrN o) an)<|zAc 1<|zAa ?_
   exact ⟨(o+1,xs,kc),⟨by omega,by rw [zIV,yQ];exact jY,hkc,jL⟩,by simp only;omega,by kernel_rfl,by kernel_rfl⟩
 ·have e:o=n.h.toNat:=by omega
  subst e
  have hX:xs.length=(zIf n h n.h.toNat).length:=by rw [jY];simp
  have jL:k = -1:=by omega
  refine zAd 1<|zAa<|zAg<|zAK ((↑n.h.toNat:Int)<n.h) (by omega)<|zAs 0 ?_
  refine ⟨.inl rfl,?_⟩
  rw [if_pos jL,← jY];show Option.map _ _=_;kernel_rfl
theorem zZp (n:Nw) (cs:List (Int×Int)) (h:Nat) (ho:NwOk n) (hh:(h:Int)<n.h) (k:Int) (hk:k = -1∨1≤k∧k≤(zIf n h n.h.toNat).length):@zTI (yo1 Tryz.prog zLb) 169 [] (zR8 n cs h) k (if k = -1 then zIV n h n.h.toNat else (zIV n h n.h.toNat).take k.toNat) :=
 zTZ Tryz.f169 (fun i=>@zVe yo0 n cs h ho hh k hk i) (by omega)
noncomputable instance nwYo:Yo:=yo1 Tryz.prog zLb
theorem zUt (n:Nw) (cs:List (Int×Int)) (h:Nat) (ho:NwOk n) (hh:(h:Int)<n.h):zF5 169 [] (zR8 n cs h) (zIV n h n.h.toNat):=by
 refine ⟨?_,fun j h1 h2=>?_⟩
 ·have:=zZp n cs h ho hh (-1) (.inl rfl)
  rwa [if_pos rfl] at this
 ·have:=zZp n cs h ho hh (j:Int) (.inr ⟨by omega,by simpa using h2⟩)
  rw [if_neg (by omega)] at this
  exact this
end Go.Eng
