/- For all numbers, cries, which and when the law NewsSpared ends in true: without a cry that is told all yn hold the same, without another one some hold something else; without conditions. -/
import Derived.Test.YtppbomajegnkeaaGreatPe
import Derived.Test.YtppbomajegnkeaaGreatPd
set_option linter.unusedVariables false
set_option linter.unusedSimpArgs false
set_option linter.unusedSectionVars false
set_option maxRecDepth 10000
set_option maxHeartbeats 4000000
namespace Go.Eng
open Go Go.Proofs
def zJZ (h:Int) (x:Int×Int):Bool:=inB x.1 0 (h-1)&&inB x.2 0 (h-1)
def zJ2 (x:Int×Int):Bool:=decide (x.1≠x.2)
def zCP (h:Int) (l:List (Int×Int)):Int:=if (l.all fun x=>zJZ h x)=true then if (l.all fun x=>zJ2 x)=true then if (l.map pr2).Nodup then 0 else 5 else 8 else 1
def zRG (l:List (Int×Bool)):Bool:=(List.range l.length).all fun i=>inB (l.getD i default).1 (-1) ((i:Int)-1)
def zMT (l:List (Int×Bool)) (i:Nat):Bool:=decide ((l.getD i default).1≠-1)&&(l.take i).any fun y=>decide (y.1=(l.getD i default).1)
def zDZ (l:List (Int×Bool)):Int:=if zRG l=true then if (List.range l.length).any (zMT l)=true then 5 else 0 else 1
def zD2 (l:List Int):Bool:=zFG l&&decide ((zGM l).length=l.length)
def zKs (h:Int) (l:List Int):Bool:=l.all fun x=>inB x 0 (h-1)
def zGA (n:Nw):Int :=
 if (!inB n.h 1 10)=true then 2 else if (n.l.length:Int)>15 then 2 else if (!inB n.n.length 1 8)=true then 2 else if (!inB n.s.length 1 6)=true then 2
 else if zCP n.h n.l=0 then
  if zDZ n.n=0 then
   if (!n.s.all fun x=>zKs n.h x)=true then 1 else if (!n.s.all fun x=>zD2 x)=true then 4 else 0
  else zDZ n.n
 else zCP n.h n.l
theorem zXb {n lo hi:Int} (h:(!inB n lo hi)=false):lo≤n∧n≤hi:=by simpa [inB] using h
abbrev zBJ (x:Int×Int):PV×PV:=(prV x,.bool true)
theorem zOC {M:List (Int×Int)} (x:Int×Int):zDb Tryz.prog 87 (prV x) (M.map zBJ) 0=some (M.findIdx? fun y=>decide (x=y)):=by
 rw [zMg (kx:=Prod.fst) (ky:=Prod.snd) (fun _=>rfl) (zRK) x.1 x.2 M 0]
 simp [zXf]
theorem zQN {M:List (Int×Int)} {x:Int×Int} (h:x∈M):∃ j,j<M.length∧zDb Tryz.prog 87 (prV x) (M.map zBJ) 0=some (some j):=by
 rw [zOC]
 cases hf:M.findIdx? fun y=>decide (x=y) with
 | none =>
  rw [List.findIdx?_eq_none_iff] at hf
  have:=hf x h;simp at this
 | some j=>exact ⟨j,(List.findIdx?_eq_some_iff_getElem.1 hf).1,rfl⟩
theorem zKY {M:List (Int×Int)} {x:Int×Int} (h:x∉M):zDb Tryz.prog 87 (prV x) (M.map zBJ) 0=some none:=by
 rw [zOC,List.findIdx?_eq_none_iff.2]
 intro y hy
 simp only [decide_eq_false_iff_not]
 intro e;subst e;exact h hy
structure Small (n:Nw):Prop where
 hl:n.l.length<1000000
 hn:n.n.length<1000000
 hs:n.s.length<1000000
 hr:∀ x∈n.s,x.length<1000000
section
variable [Yo]
theorem f196 (n:Nw) (x:Int×Int) (hb:1≤n.h∧n.h≤10):FG 196 [prV x,.ref (nwV n)] (.bool (zJZ n.h x)):=by
 refine zAe Tryz.f196 ?_
 refine zAd 2<|zAa<|zAd 1<|zAc 1<|zAc 1<|S_a [(8,.ret (PV.bool (inB x.fst 0 (n.h-1))) [])] (ap (f109 n x.fst (by omega)) an)<|zAc 1<|zGh 8 (inB x.fst 0 (n.h-1)) (fun k0=>(zAc 1<|zAc 1<|zAc 1<|S_a [(8,.ret (PV.bool (inB x.snd 0 (n.h-1))) [])] (ap (f109 n x.snd (by omega)) an)<|zAc 2<|zAa<|zAn<|E_a [] an (PV.bool (inB x.snd 0 (n.h-1))) [] ?_ rfl)) (fun k0=>(zAc 6<|zAa<|zAn<|E_a [] an (PV.bool false) [] ?_ rfl))
 ·simp only [zJZ,k0,Bool.true_and]
 ·simp only [zJZ,k0,Bool.false_and]
theorem f197 (x:Int×Int):FG 197 [prV x] (.bool (zJ2 x)):=by
 refine zAe Tryz.f197 ?_
 refine zAd 2<|zAa<|zAd 1<|zAc 1<|zAc 1<|zAc 3<|zAa<|zAn<|E_a [] an (PV.bool (x.fst != x.snd)) [] ?_ rfl
 congr 1;rw [Bool.eq_iff_iff];simp [zJ2]
theorem f199 (x y:Int×Bool):FG 199 [ntV y,.ref (ntV x)] (.bool (decide (y.1=x.1))):=by
 refine zAe Tryz.f199 ?_
 refine zAd 2<|zAa<|zAd 6<|zAa<|zAn<|E_a [] an (PV.bool (y.fst==x.fst)) [] rfl rfl
theorem f168_1 (n:Nw) (hb:1≤n.h∧n.h≤10) (x:Int):FG 168 [I x,.ref (.func 109 [nwV n] [])] (.bool (!(inB x 0 (n.h-1)))):=by
 refine zAe Tryz.f168 ?_
 refine zAd 1<|zAa<|zAd 2<|S_a [(8,.ret (PV.bool (inB x 0 (n.h-1))) [])] (ap (f109 n x (by omega)) an)<|zAc 2<|zAa<|zAn<|E_a [] an (PV.bool !inB x 0 (n.h-1)) [] rfl rfl
theorem f131_1 (n:Nw) (hb:1≤n.h∧n.h≤10) (l:List (Int)) (hl:l.length<4294967296):FG 131 [.sl (l.map I),.func 168 [] [.ref (.func 109 [nwV n] [])]] (I (zEC (fun x => !(inB x 0 (n.h-1))) l)):=by
 refine zAe Tryz.f131 ?_
 refine zAd 1<|zAa<|zAh<|zAd 1<|S_a [(0,.n l.length)] (ap (lnS I l) an)<|zAc 1<|zAa<|zAk 0 ?_
 refine zAy (fun i=>i≤l.length∧∀ j,j<i→(fun x => !(inB x 0 (n.h-1))) (l.getD j 0)=false) (fun i=>[(8,I (i:Nat))]) (fun i=>l.length-i) (0:Nat) (by simp) fun i ⟨hi,ha⟩=>?_
 refine zAd 1<|zAa<|zAh<|zDn ((↑i:Int)<(↑l.length:Int)) (fun k0=>(zAm<|zAh<|zAk 1<|zAd 2<|zAa<|zAd 3<|S_a [(2,.v (I (l.getD i 0)))] (ap (zCh (0) (by omega):(List.map I l)[i]? = some (I (l.getD i 0))) an)<|zAc 1<|S_a [(7,.ret (PV.bool !inB (l.getD i 0) 0 (n.h-1)) [])] (ap (f168_1 n (by omega) (l.getD i 0)) an)<|zAa<|zGb (!inB (l.getD i 0) 0 (n.h-1)) (fun k1=>(zAd 2<|zAa<|zAn<|E_a [] an (I (↑i:Int)) [] ?_ rfl)) (fun k1=>(zAm<|zAg<|S_a [(1,.v (I (↑(i+1):Int)))] (ap (wrN i) an)<|zAc 1<|zAa ?_)))) (fun k0=>(zAM 0<|zAd 1<|zAa<|zAn<|E_a [] an (I (-1)) [] ?_ rfl))
 ·rw [zB5 (i:=i) (by omega) (fun j hj=>by rw [← zAB (d:=0)];exact ha j hj) (by rw [← zAB (d:=0)];first | assumption | exact decide_eq_true ‹_› | (simp only [Bool.not_eq_true',decide_eq_false_iff_not];assumption))]
 ·refine ⟨i+1,⟨by omega,fun j hj=>?_⟩,by omega,by kernel_rfl,by kernel_rfl⟩
  rcases Nat.lt_succ_iff_lt_or_eq.1 hj with h | rfl
  ·exact ha j h
  ·first | assumption | exact decide_eq_false ‹_› | (simp only [Bool.not_eq_false',decide_eq_true_eq];first | assumption | (apply Decidable.of_not_not;assumption))
 ·rw [zCy fun j hj=>by rw [← zAB (d:=0)];exact ha j (by omega)]
theorem f52_1 (n:Nw) (hb:1≤n.h∧n.h≤10) (l:List (Int)) (hl:l.length<4294967296):FG 52 [.sl (l.map I),.func 168 [] [.ref (.func 109 [nwV n] [])]] (.bool (l.any (fun x => !(inB x 0 (n.h-1))))):=by
 refine zAe Tryz.f52 ?_
 refine zAd 1<|zAa<|zAd 2<|S_a [(7,.ret (I (zEC (fun x => !inB x 0 (n.h-1)) l)) [])] (ap (f131_1 n (by omega) l (by omega)) an)<|zAc 2<|zAa<|zAn<|E_a [] an (PV.bool (decide (zEC (fun x => !inB x 0 (n.h-1)) l≥0))) [] ?_ rfl
 rw [zD9]
theorem f108_1 (n:Nw) (hb:1≤n.h∧n.h≤10) (l:List (Int)) (hl:l.length<4294967296):FG 108 [.sl (l.map I),.func 109 [nwV n] []] (.bool (l.all (fun x=>inB x 0 (n.h-1)))):=by
 refine zAe Tryz.f108 ?_
 refine zAd 2<|zAa<|zAd 2<|S_a [(12,.ret (PV.bool (l.any fun x => !inB x 0 (n.h-1))) [])] (ap (f52_1 n (by omega) l (by omega)) an)<|zAc 2<|zAa<|zAn<|E_a [] an (PV.bool !l.any fun x => !inB x 0 (n.h-1)) [] ?_ rfl
 simp [List.not_any_eq_all_not]
theorem f221_1 (n:Nw) (hb:1≤n.h∧n.h≤10) (x:Int×Int):FG 221 [prV x,.ref (.func 196 [] [.ref (nwV n)])] (.bool (!(zJZ n.h x))):=by
 refine zAe Tryz.f221 ?_
 refine zAd 2<|zAa<|zAd 2<|S_a [(7,.ret (PV.bool (zJZ n.h x)) [])] (ap (f196 n x (by omega)) an)<|zAc 2<|zAa<|zAn<|E_a [] an (PV.bool !zJZ n.h x) [] rfl rfl
theorem f202_1 (n:Nw) (hb:1≤n.h∧n.h≤10) (l:List (Int×Int)) (hl:l.length<4294967296):FG 202 [.sl (l.map prV),.func 221 [] [.ref (.func 196 [] [.ref (nwV n)])]] (I (zEC (fun x => !(zJZ n.h x)) l)):=by
 refine zAe Tryz.f202 ?_
 refine zAd 1<|zAa<|zAh<|zAd 1<|S_a [(0,.n l.length)] (ap (lnS prV l) an)<|zAc 1<|zAa<|zAk 0 ?_
 refine zAy (fun i=>i≤l.length∧∀ j,j<i→(fun x => !(zJZ n.h x)) (l.getD j default)=false) (fun i=>[(8,I (i:Nat))]) (fun i=>l.length-i) (0:Nat) (by simp) fun i ⟨hi,ha⟩=>?_
 refine zAd 1<|zAa<|zAh<|zDn ((↑i:Int)<(↑l.length:Int)) (fun k0=>(zAm<|zAh<|zAk 1<|zAd 2<|zAa<|zAd 3<|S_a [(2,.v (PV.agg [I (l.getD i default).fst,I (l.getD i default).snd]))] (ap (zCh default (by omega):(List.map prV l)[i]? = some (PV.agg [I (l.getD i default).fst,I (l.getD i default).snd])) an)<|zAc 1<|S_a [(7,.ret (PV.bool !zJZ n.h (l.getD i default)) [])] (ap (f221_1 n (by omega) (l.getD i default)) an)<|zAa<|zGb (!zJZ n.h (l.getD i default)) (fun k1=>(zAd 2<|zAa<|zAn<|E_a [] an (I (↑i:Int)) [] ?_ rfl)) (fun k1=>(zAm<|zAg<|S_a [(1,.v (I (↑(i+1):Int)))] (ap (wrN i) an)<|zAc 1<|zAa ?_)))) (fun k0=>(zAM 0<|zAd 1<|zAa<|zAn<|E_a [] an (I (-1)) [] ?_ rfl))
 ·rw [zB5 (i:=i) (by omega) (fun j hj=>by rw [← zAB (d:=default)];exact ha j hj) (by rw [← zAB (d:=default)];first | assumption | exact decide_eq_true ‹_› | (simp only [Bool.not_eq_true',decide_eq_false_iff_not];assumption))]
 ·refine ⟨i+1,⟨by omega,fun j hj=>?_⟩,by omega,by kernel_rfl,by kernel_rfl⟩
  rcases Nat.lt_succ_iff_lt_or_eq.1 hj with h | rfl
  ·exact ha j h
  ·first | assumption | exact decide_eq_false ‹_› | (simp only [Bool.not_eq_false',decide_eq_true_eq];first | assumption | (apply Decidable.of_not_not;assumption))
 ·rw [zCy fun j hj=>by rw [← zAB (d:=default)];exact ha j (by omega)]
theorem f156_1 (n:Nw) (hb:1≤n.h∧n.h≤10) (l:List (Int×Int)) (hl:l.length<4294967296):FG 156 [.sl (l.map prV),.func 221 [] [.ref (.func 196 [] [.ref (nwV n)])]] (.bool (l.any (fun x => !(zJZ n.h x)))):=by
 refine zAe Tryz.f156 ?_
 refine zAd 1<|zAa<|zAd 2<|S_a [(7,.ret (I (zEC (fun x => !zJZ n.h x) l)) [])] (ap (f202_1 n (by omega) l (by omega)) an)<|zAc 2<|zAa<|zAn<|E_a [] an (PV.bool (decide (zEC (fun x => !zJZ n.h x) l≥0))) [] ?_ rfl
 rw [zD9]
theorem f195_1 (n:Nw) (hb:1≤n.h∧n.h≤10) (l:List (Int×Int)) (hl:l.length<4294967296):FG 195 [.sl (l.map prV),.func 196 [] [.ref (nwV n)]] (.bool (l.all (fun x=>zJZ n.h x))):=by
 refine zAe Tryz.f195 ?_
 refine zAd 2<|zAa<|zAd 2<|S_a [(12,.ret (PV.bool (l.any fun x => !zJZ n.h x)) [])] (ap (f156_1 n (by omega) l (by omega)) an)<|zAc 2<|zAa<|zAn<|E_a [] an (PV.bool !l.any fun x => !zJZ n.h x) [] ?_ rfl
 simp [List.not_any_eq_all_not]
theorem f221_2  (x:Int×Int):FG 221 [prV x,.ref (.func 197 [] [])] (.bool (!(zJ2 x))):=by
 refine zAe Tryz.f221 ?_
 refine zAd 2<|zAa<|zAd 2<|S_a [(6,.ret (PV.bool (zJ2 x)) [])] (ap (f197 x) an)<|zAc 2<|zAa<|zAn<|E_a [] an (PV.bool !zJ2 x) [] rfl rfl
theorem f202_2  (l:List (Int×Int)) (hl:l.length<4294967296):FG 202 [.sl (l.map prV),.func 221 [] [.ref (.func 197 [] [])]] (I (zEC (fun x => !(zJ2 x)) l)):=by
 refine zAe Tryz.f202 ?_
 refine zAd 1<|zAa<|zAh<|zAd 1<|S_a [(0,.n l.length)] (ap (lnS prV l) an)<|zAc 1<|zAa<|zAk 0 ?_
 refine zAy (fun i=>i≤l.length∧∀ j,j<i→(fun x => !(zJ2 x)) (l.getD j default)=false) (fun i=>[(8,I (i:Nat))]) (fun i=>l.length-i) (0:Nat) (by simp) fun i ⟨hi,ha⟩=>?_
 refine zAd 1<|zAa<|zAh<|zDn ((↑i:Int)<(↑l.length:Int)) (fun k0=>(zAm<|zAh<|zAk 1<|zAd 2<|zAa<|zAd 3<|S_a [(2,.v (PV.agg [I (l.getD i default).fst,I (l.getD i default).snd]))] (ap (zCh default (by omega):(List.map prV l)[i]? = some (PV.agg [I (l.getD i default).fst,I (l.getD i default).snd])) an)<|zAc 1<|S_a [(7,.ret (PV.bool !zJ2 (l.getD i default)) [])] (ap (f221_2 (l.getD i default)) an)<|zAa<|zGb (!zJ2 (l.getD i default)) (fun k1=>(zAd 2<|zAa<|zAn<|E_a [] an (I (↑i:Int)) [] ?_ rfl)) (fun k1=>(zAm<|zAg<|S_a [(1,.v (I (↑(i+1):Int)))] (ap (wrN i) an)<|zAc 1<|zAa ?_)))) (fun k0=>(zAM 0<|zAd 1<|zAa<|zAn<|E_a [] an (I (-1)) [] ?_ rfl))
 ·rw [zB5 (i:=i) (by omega) (fun j hj=>by rw [← zAB (d:=default)];exact ha j hj) (by rw [← zAB (d:=default)];first | assumption | exact decide_eq_true ‹_› | (simp only [Bool.not_eq_true',decide_eq_false_iff_not];assumption))]
 ·refine ⟨i+1,⟨by omega,fun j hj=>?_⟩,by omega,by kernel_rfl,by kernel_rfl⟩
  rcases Nat.lt_succ_iff_lt_or_eq.1 hj with h | rfl
  ·exact ha j h
  ·first | assumption | exact decide_eq_false ‹_› | (simp only [Bool.not_eq_false',decide_eq_true_eq];first | assumption | (apply Decidable.of_not_not;assumption))
 ·rw [zCy fun j hj=>by rw [← zAB (d:=default)];exact ha j (by omega)]
theorem f156_2  (l:List (Int×Int)) (hl:l.length<4294967296):FG 156 [.sl (l.map prV),.func 221 [] [.ref (.func 197 [] [])]] (.bool (l.any (fun x => !(zJ2 x)))):=by
 refine zAe Tryz.f156 ?_
 refine zAd 1<|zAa<|zAd 2<|S_a [(7,.ret (I (zEC (fun x => !zJ2 x) l)) [])] (ap (f202_2 l (by omega)) an)<|zAc 2<|zAa<|zAn<|E_a [] an (PV.bool (decide (zEC (fun x => !zJ2 x) l≥0))) [] ?_ rfl
 rw [zD9]
theorem f195_2  (l:List (Int×Int)) (hl:l.length<4294967296):FG 195 [.sl (l.map prV),.func 197 [] []] (.bool (l.all (fun x=>zJ2 x))):=by
 refine zAe Tryz.f195 ?_
 refine zAd 2<|zAa<|zAd 2<|S_a [(12,.ret (PV.bool (l.any fun x => !zJ2 x)) [])] (ap (f156_2 l (by omega)) an)<|zAc 2<|zAa<|zAn<|E_a [] an (PV.bool !l.any fun x => !zJ2 x) [] ?_ rfl
 simp [List.not_any_eq_all_not]
theorem f222_1 (y:Int) (yb:Bool) (l:List (Int×Bool)) (hl:l.length<4294967296):FG 222 [.sl (l.map ntV),.func 199 [] [.ref (.agg [I y,.bool yb])]] (I (zEC (fun x=>decide (x.1=y)) l)):=by
 refine zAe Tryz.f222 ?_
 refine zAd 1<|zAa<|zAh<|zAd 1<|S_a [(0,.n l.length)] (ap (lnS ntV l) an)<|zAc 1<|zAa<|zAk 0 ?_
 refine zAy (fun i=>i≤l.length∧∀ j,j<i→(fun x=>decide (x.1=y)) (l.getD j default)=false) (fun i=>[(8,I (i:Nat))]) (fun i=>l.length-i) (0:Nat) (by simp) fun i ⟨hi,ha⟩=>?_
 refine zAd 1<|zAa<|zAh<|zDn ((↑i:Int)<(↑l.length:Int)) (fun k0=>(zAm<|zAh<|zAk 1<|zAd 2<|zAa<|zAd 3<|S_a [(2,.v (PV.agg [I (l.getD i default).fst,PV.bool (l.getD i default).snd]))] (ap (zCh default (by omega):(List.map ntV l)[i]? = some (PV.agg [I (l.getD i default).fst,PV.bool (l.getD i default).snd])) an)<|zAc 1<|S_a [(7,.ret (PV.bool (decide ((l.getD i default).fst=(y,yb).fst))) [])] (ap (f199 ((y,yb)) (l.getD i default)) an)<|zAa<|zDn ((l.getD i default).fst=(y,yb).fst) (fun k1=>(zAd 2<|zAa<|zAn<|E_a [] an (I (↑i:Int)) [] ?_ rfl)) (fun k1=>(zAm<|zAg<|S_a [(1,.v (I (↑(i+1):Int)))] (ap (wrN i) an)<|zAc 1<|zAa ?_)))) (fun k0=>(zAM 0<|zAd 1<|zAa<|zAn<|E_a [] an (I (-1)) [] ?_ rfl))
 ·rw [zB5 (i:=i) (by omega) (fun j hj=>by rw [← zAB (d:=default)];exact ha j hj) (by rw [← zAB (d:=default)];first | assumption | exact decide_eq_true ‹_› | (simp only [Bool.not_eq_true',decide_eq_false_iff_not];assumption))]
 ·refine ⟨i+1,⟨by omega,fun j hj=>?_⟩,by omega,by kernel_rfl,by kernel_rfl⟩
  rcases Nat.lt_succ_iff_lt_or_eq.1 hj with h | rfl
  ·exact ha j h
  ·first | assumption | exact decide_eq_false ‹_› | (simp only [Bool.not_eq_false',decide_eq_true_eq];first | assumption | (apply Decidable.of_not_not;assumption))
 ·rw [zCy fun j hj=>by rw [← zAB (d:=default)];exact ha j (by omega)]
theorem f198_1 (y:Int) (yb:Bool) (l:List (Int×Bool)) (hl:l.length<4294967296):FG 198 [.sl (l.map ntV),.func 199 [] [.ref (.agg [I y,.bool yb])]] (.bool (l.any (fun x=>decide (x.1=y)))):=by
 refine zAe Tryz.f198 ?_
 refine zAd 1<|zAa<|zAd 2<|S_a [(7,.ret (I (zEC (fun x=>decide (x.fst=y)) l)) [])] (ap (f222_1 y yb l (by omega)) an)<|zAc 2<|zAa<|zAn<|E_a [] an (PV.bool (decide (zEC (fun x=>decide (x.fst=y)) l≥0))) [] ?_ rfl
 rw [zD9]
theorem f150 (n:Nw) (hb:1≤n.h∧n.h≤10) (hl:n.l.length≤15):FG 150 [nwV n] (I (zCP n.h n.l)):=by
 refine zAe Tryz.f150 ?_
 refine zAd 2<|zAa<|zAh<|zAk 0<|zAd 3<|S_a [(13,.ret (PV.bool (n.l.all fun x=>zJZ n.h x)) [])] (ap (f195_1 n (by omega) n.l (by omega)) an)<|zAc 2<|zAa<|zGb (!n.l.all fun x=>zJZ n.h x) (fun k0=>(zAd 1<|zAa<|zAn<|E_a [] an (I 1) [] ?_ rfl)) (fun k0=>(zAd 2<|S_a [(7,.ret (PV.bool (n.l.all fun x=>zJ2 x)) [])] (ap (f195_2 n.l (by omega)) an)<|zAc 2<|zAa<|zGb (!n.l.all fun x=>zJ2 x) (fun k1=>(zAd 1<|zAa<|zAn<|E_a [] an (I 8) [] ?_ rfl)) (fun k1=>(zAm<|zAd 2<|zAa<|zAh<|zAd 2<|S_a [(0,.n n.l.length)] (ap (lnS prV n.l) an)<|zAc 1<|zAa<|zAk 1 ?_))))
 ·rw [Bool.not_eq_true'] at k0
  simp [zCP,k0]
 ·rw [Bool.not_eq_false'] at k0
  rw [Bool.not_eq_true'] at k1
  simp [zCP,k0,k1]
 ·refine zAy (fun (i,M)=>i≤n.l.length∧M=(n.l.take i).map pr2∧M.Nodup) (fun (i,M)=>[(3,.omap (M.map zBJ)),(21,I (i:Nat))]) (fun (i,_)=>n.l.length-i) ((0:Nat),([]:List (Int×Int))) ⟨Nat.zero_le _,rfl,List.nodup_nil⟩ fun (i,M) ⟨hi,hM,hN⟩=>?_
  by_cases yP:i<n.l.length
  ·have yU:(n.l.take (i+1)).map pr2=M++[pr2 (n.l.getD i default)]:=by rw [zBX (d:=default) yP,List.map_append,← hM];rfl
   by_cases hin:pr2 (n.l.getD i default)∈M
   ·obtain ⟨j,hj,jK⟩:=zQN hin
    have kJ:zI2 (M.map zBJ) j=some (.bool true):=by simp [zI2,hj]
    refine zAd 1<|zAa<|zAh<|zA3 ((↑i:Int)<(↑n.l.length:Int)) (by omega)<|zAm<|zAh<|zAk 2<|zAh<|zAg<|S_a [(2,.v (PV.agg [I (n.l.getD i default).fst,I (n.l.getD i default).snd]))] (ap (zCh default (by omega):(List.map prV n.l)[i]? = some (PV.agg [I (n.l.getD i default).fst,I (n.l.getD i default).snd])) an)<|zAc 3<|zAa<|zAh<|zAd 2<|S_a [(6,.ret (prV (pr2 (n.l.getD i default))) [])] (ap (f110 (n.l.getD i default)) an)<|S_a [(3,.ix (some j)),(0,.v (PV.bool true))] (ap jK<|ap (kJ:zI2 (List.map zBJ M) j=some (PV.bool true)) an)<|zAa<|zDW<|zAd 1<|zAa<|zAn<|E_a [] an (I 5) [] ?_ rfl
    rw [Bool.not_eq_false'] at k0 k1
    have yT:¬ (n.l.map pr2).Nodup:=fun h=>by
     rw [← List.take_append_drop (i+1) n.l,List.map_append,yU] at h
     have h2:=(List.nodup_append.1 h).1
     have h3:=(List.nodup_append.1 h2).2.2
     exact h3 _ hin _ (List.mem_singleton.2 rfl) rfl
    simp only [zCP,k0,k1,yT,if_true,if_false]
   ·have jK:=zKY hin
    refine zAd 1<|zAa<|zAh<|zA3 ((↑i:Int)<(↑n.l.length:Int)) (by omega)<|zAm<|zAh<|zAk 2<|zAh<|zAg<|S_a [(2,.v (PV.agg [I (n.l.getD i default).fst,I (n.l.getD i default).snd]))] (ap (zCh default (by omega):(List.map prV n.l)[i]? = some (PV.agg [I (n.l.getD i default).fst,I (n.l.getD i default).snd])) an)<|zAc 3<|zAa<|zAh<|zAd 2<|S_a [(6,.ret (prV (pr2 (n.l.getD i default))) [])] (ap (f110 (n.l.getD i default)) an)<|S_a [(3,.ix none)] (ap jK an)<|zAa<|zAH<|zAm<|zAg<|zAc 2<|S_a [(6,.ret (prV (pr2 (n.l.getD i default))) [])] (ap (f110 (n.l.getD i default)) an)<|S_a [(4,.ix none),(0,.v (PV.omap (List.map zBJ (M++[pr2 (n.l.getD i default)]))))] (ap jK<|ap ((by simp):PV.omap (List.map zBJ M++[(PV.agg [I (pr2 (n.l.getD i default)).fst,I (pr2 (n.l.getD i default)).snd],PV.bool true)])=PV.omap (List.map zBJ (M++[pr2 (n.l.getD i default)]))) an)<|zAa<|zAg<|S_a [(1,.v (I (↑(i+1):Int)))] (ap (wrN i) an)<|zAc 1<|zAa ?_
    refine ⟨(i+1,M++[pr2 (n.l.getD i default)]),⟨by omega,yU.symm,?_⟩,by simp only;omega,by kernel_rfl,by kernel_rfl⟩
    rw [List.nodup_append]
    refine ⟨hN,by simp,fun a ha b hb=>?_⟩
    rw [List.mem_singleton] at hb;subst hb
    intro e;subst e;exact hin ha
  ·refine zAd 1<|zAa<|zAh<|zBd ((↑i:Int)<(↑n.l.length:Int)) (by omega)<|zAM 1<|zAd 1<|zAa<|zAn<|E_a [] an (I 0) [] ?_ rfl
   rw [Bool.not_eq_false'] at k0 k1
   rw [List.take_of_length_le (by omega)] at hM
   rw [hM] at hN
   simp only [zCP,k0,k1,hN,if_true]
theorem f151 (n:Nw) (hl:n.n.length≤8):FG 151 [nwV n] (I (zDZ n.n)):=by
 refine zAe Tryz.f151 ?_
 refine zAd 2<|zAa<|zAh<|zAd 2<|S_a [(0,.n n.n.length)] (ap (lnS ntV n.n) an)<|zAc 1<|zAa<|zAk 0 ?_
 refine zAy (fun i=>i≤n.n.length∧∀ j,j<i→inB (n.n.getD j default).1 (-1) ((j:Int)-1)=true) (fun i=>[(10,I (i:Nat))]) (fun i=>n.n.length-i) (0:Nat) ⟨Nat.zero_le _,fun j h=>absurd h (Nat.not_lt_zero _)⟩ fun i ⟨hi,ha⟩=>?_
 refine zAd 1<|zAa<|zAh<|zDn ((↑i:Int)<(↑n.n.length:Int)) (fun k0=>(zAm<|zAh<|zAk 1<|zAd 1<|S_a [(2,.v (PV.agg [I (n.n.getD i default).fst,PV.bool (n.n.getD i default).snd]))] (ap (zCh default (by omega):(List.map ntV n.n)[i]? = some (PV.agg [I (n.n.getD i default).fst,PV.bool (n.n.getD i default).snd])) an)<|zAc 4<|zAa<|zAd 3<|S_a [(1,.v (I ((↑i:Int)-1)))] (ap ((zCr rfl (by omega)):I (IntKind.i64.wrap ((↑i:Int)-1))=I ((↑i:Int)-1)) an)<|S_a [(10,.ret (PV.bool (inB (n.n.getD i default).fst (-1) ((↑i:Int)-1))) [])] (ap (f107 ((n.n.getD i default).fst) (-1) ((↑i:Int)-1)) an)<|zAc 1<|zAa<|zGb (!inB (n.n.getD i default).fst (-1) ((↑i:Int)-1)) (fun k1=>(zAd 1<|zAa<|zAn<|E_a [] an (I 1) [] ?_ rfl)) (fun k1=>(zAm<|zAg<|S_a [(1,.v (I (↑(i+1):Int)))] (ap (wrN i) an)<|zAc 1<|zAa ?_)))) (fun k0=>(zAM 0<|zAh<|zAd 2<|S_a [(0,.n n.n.length)] (ap (lnS ntV n.n) an)<|zAc 1<|zAa<|zAk 2 ?_))
 ·rw [Bool.not_eq_true'] at k1
  have:zRG n.n=false:=by
   simp only [zRG,List.all_eq_false]
   exact ⟨i,List.mem_range.2 (by omega),by simpa using k1⟩
  simp [zDZ,this]
 ·rw [Bool.not_eq_false'] at k1
  refine ⟨i+1,⟨by omega,fun j hj=>?_⟩,by omega,by kernel_rfl,by kernel_rfl⟩
  rcases Nat.lt_succ_iff_lt_or_eq.1 hj with h | rfl
  ·exact ha j h
  ·exact k1
 ·have hin:zRG n.n=true:=by
   simp only [zRG,List.all_eq_true,List.mem_range]
   exact fun j hj=>ha j (by omega)
  clear ha
  refine zAy (fun i=>i≤n.n.length∧∀ j,j<i→zMT n.n j=false) (fun i=>[(25,I (i:Nat))]) (fun i=>n.n.length-i) (0:Nat) ⟨Nat.zero_le _,fun j h=>absurd h (Nat.not_lt_zero _)⟩ fun k ⟨hk,hb⟩=>?_
  have yU:zMT n.n k=false→∀ j,j<k+1→zMT n.n j=false:=fun h j hj=>by
   rcases Nat.lt_succ_iff_lt_or_eq.1 hj with h2 | rfl
   ·exact hb j h2
   ·exact h
  refine zAd 1<|zAa<|zAh<|zDn ((↑k:Int)<(↑n.n.length:Int)) (fun k2=>(zAm<|zAh<|zAk 3<|zAd 1<|S_a [(2,.v (PV.agg [I (n.n.getD k default).fst,PV.bool (n.n.getD k default).snd]))] (ap (zCh default (by omega):(List.map ntV n.n)[k]? = some (PV.agg [I (n.n.getD k default).fst,PV.bool (n.n.getD k default).snd])) an)<|zAc 4<|zAa<|zAd 4<|zXH 33 ((n.n.getD k default).fst = -1) (fun k3=>(zAc 3<|S_a [(3,.ob),(0,.ob),(0,.v (PV.sl (List.map ntV (List.take k n.n))))] (ap ((by exact zA4 (by simp only [List.length_map,zzLn,zAS]<;>omega)):k.ble (List.map ntV n.n).length=true)<|ap ((by exact all_map _):((List.map ntV n.n).all fun x=>x.cells.length.beq ((fun x=>x.size) Tryz.prog.types[99]))=true)<|ap ((by simp):PV.sl (List.take k (List.drop 0 (List.map ntV n.n)))=PV.sl (List.map ntV (List.take k n.n))) an)<|zAc 1<|S_a [(13,.ret (PV.bool ((List.take k n.n).any fun x=>decide (x.fst=(n.n.getD k default).fst))) [])] (ap (f198_1 ((n.n.getD k default).fst) ((n.n.getD k default).snd) (List.take k n.n) (by first | omega | (simp<;>omega))) an)<|zAc 1<|zAa<|zGb ((List.take k n.n).any fun x=>decide (x.fst=(n.n.getD k default).fst)) (fun k4=>(zAd 1<|zAa<|zAn<|E_a [] an (I 5) [] ?_ rfl)) (fun k4=>(zAm<|zAg<|S_a [(1,.v (I (↑(k+1):Int)))] (ap (wrN k) an)<|zAc 1<|zAa ?_)))) (fun k3=>(zAc 7<|zAa<|zAH<|zAm<|zAg<|S_a [(1,.v (I (↑(k+1):Int)))] (ap (wrN k) an)<|zAc 1<|zAa ?_)))) (fun k2=>(zAM 2<|zAd 1<|zAa<|zAn<|E_a [] an (I 0) [] ?_ rfl))
  ·have h1:zMT n.n k=true:=by
    have k4:((n.n.take k).any fun y=>decide (y.1=(n.n.getD k default).1))=true:=k4
    simp only [zMT,k4,Bool.and_true,decide_eq_true_eq];assumption
   have:(List.range n.n.length).any (zMT n.n)=true:=List.any_eq_true.2 ⟨k,List.mem_range.2 (by omega),h1⟩
   simp only [zDZ,hin,this,if_true]
  ·have h1:zMT n.n k=false:=by
    have k4:((n.n.take k).any fun y=>decide (y.1=(n.n.getD k default).1))=false:=k4
    simp only [zMT,k4,Bool.and_false]
   exact ⟨k+1,⟨by omega,yU h1⟩,by omega,by kernel_rfl,by kernel_rfl⟩
  ·have h1:zMT n.n k=false:=by
    simp only [zMT,Bool.and_eq_false_iff,decide_eq_false_iff_not]
    exact .inl (by simpa using k3)
   exact ⟨k+1,⟨by omega,yU h1⟩,by omega,by kernel_rfl,by kernel_rfl⟩
  ·have:(List.range n.n.length).any (zMT n.n)=false:=by
    simp only [List.any_eq_false,List.mem_range,Bool.not_eq_true]
    exact fun j hj=>hb j (by omega)
   simp only [zDZ,hin,this,if_true];rfl
theorem f153 (n:Nw) (l:List Int) (hb:1≤n.h∧n.h≤10) (hl:l.length<1000000):FG 153 [zA5 l,.ref (nwV n)] (.bool (zKs n.h l)):=by
 refine zAe Tryz.f153 ?_
 refine zAd 1<|zAa<|zAd 3<|S_a [(7,.ret (PV.bool (l.all fun x=>inB x 0 (n.h-1))) [])] (ap (f108_1 n (by omega) l (by omega)) an)<|zAc 1<|zAa<|zAn<|E_a [] an (PV.bool (l.all fun x=>inB x 0 (n.h-1))) [] rfl rfl
theorem f154 (l:List Int) (hl:l.length<1000000):FG 154 [zA5 l] (.bool (zD2 l)):=by
 refine zAe Tryz.f154 ?_
 refine zAd 1<|zAa<|zAd 1<|S_a [(6,.ret (PV.bool (zFG l)) [])] (ap (f155 l (by omega)) an)<|zAc 1<|zGh 5 (zFG l) (fun k0=>(zAc 1<|S_a [(6,.ret (PV.own 1 (List.map I l)) [])] (ap (f65 l (by omega)) an)<|S_a [(3,.ob),(1,.v (PV.own 1 (List.map I l))),(2,.ret (PV.own 1 (List.map I (zGM l))) [])] (ap ((by exact zA4 (by simp only [List.length_map,zzLn,zAS]<;>omega)):(List.map I l).length.ble (List.map I l).length=true)<|ap ((zAZ zBe):PV.own 1 (List.take (List.map I l).length (List.drop 0 (List.map I l)))=PV.own 1 (List.map I l))<|ap (f97 l (by omega)) an)<|S_a [(0,.n ((zGM l).length))] (ap (lnS I (zGM l)) an)<|zAc 1<|S_a [(0,.n l.length)] (ap (lnS I l) an)<|zAc 3<|zAa<|zAn<|E_a [] an (PV.bool ((↑(zGM l).length:Int)==(↑l.length:Int))) [] ?_ rfl)) (fun k0=>(zAc 9<|zAa<|zAn<|E_a [] an (PV.bool false) [] ?_ rfl))
 ·simp only [zD2,k0,Bool.true_and];congr 1;rw [Bool.eq_iff_iff];simp;omega
 ·simp only [zD2,k0,Bool.false_and]
theorem f201_1 (n:Nw) (hb:1≤n.h∧n.h≤10) (x:List Int) (hx:x.length<1000000):FG 201 [zA5 x,.ref (.func 153 [] [.ref (nwV n)])] (.bool (!(zKs n.h x))):=by
 refine zAe Tryz.f201 ?_
 refine zAd 1<|zAa<|zAd 2<|S_a [(7,.ret (PV.bool (zKs n.h x)) [])] (ap (f153 n x (by omega) (by omega)) an)<|zAc 2<|zAa<|zAn<|E_a [] an (PV.bool !zKs n.h x) [] rfl rfl
theorem f223_1 (n:Nw) (hb:1≤n.h∧n.h≤10) (l:List (List Int)) (hl:l.length<4294967296) (hr:∀ x∈l,x.length<1000000):FG 223 [.sl (l.map zA5),.func 201 [] [.ref (.func 153 [] [.ref (nwV n)])]] (I (zEC (fun x => !(zKs n.h x)) l)):=by
 refine zAe Tryz.f223 ?_
 refine zAd 1<|zAa<|zAh<|zAd 1<|S_a [(0,.n l.length)] (ap (lnS zA5 l) an)<|zAc 1<|zAa<|zAk 0 ?_
 refine zAy (fun i=>i≤l.length∧∀ j,j<i→(fun x => !(zKs n.h x)) (l.getD j [])=false) (fun i=>[(8,I (i:Nat))]) (fun i=>l.length-i) (0:Nat) (by simp) fun i ⟨hi,ha⟩=>?_
 by_cases yP:i<l.length
 ·have hri:=zBU (d:=[]) hr i yP
  refine zAd 1<|zAa<|zAh<|zA3 ((↑i:Int)<(↑l.length:Int)) (by omega)<|zAm<|zAh<|zAk 1<|zAd 2<|zAa<|zAd 3<|S_a [(2,.v (zA5 (l.getD i [])))] (ap (zCh [] (by omega):(List.map zA5 l)[i]? = some (zA5 (l.getD i []))) an)<|zAc 1<|S_a [(7,.ret (PV.bool !zKs n.h (l.getD i [])) [])] (ap (f201_1 n (by omega) (l.getD i []) (by omega)) an)<|zAa<|zGb (!zKs n.h (l.getD i [])) (fun k0=>(zAd 2<|zAa<|zAn<|E_a [] an (I (↑i:Int)) [] ?_ rfl)) (fun k0=>(zAm<|zAg<|S_a [(1,.v (I (↑(i+1):Int)))] (ap (wrN i) an)<|zAc 1<|zAa ?_))
  ·rw [zB5 (i:=i) yP (fun j hj=>by rw [← zAB (d:=[])];exact ha j hj) (by rw [← zAB (d:=[])];first | assumption | exact decide_eq_true ‹_›)]
  ·refine ⟨i+1,⟨by omega,fun j hj=>?_⟩,by omega,by kernel_rfl,by kernel_rfl⟩
   rcases Nat.lt_succ_iff_lt_or_eq.1 hj with h | rfl
   ·exact ha j h
   ·first | assumption | exact decide_eq_false ‹_› | (simp only [Bool.not_eq_false',decide_eq_true_eq];assumption)
 ·refine zAd 1<|zAa<|zAh<|zBd ((↑i:Int)<(↑l.length:Int)) (by omega)<|zAM 0<|zAd 1<|zAa<|zAn<|E_a [] an (I (-1)) [] ?_ rfl
  rw [zCy fun j hj=>by rw [← zAB (d:=[])];exact ha j (by omega)]
theorem f200_1 (n:Nw) (hb:1≤n.h∧n.h≤10) (l:List (List Int)) (hl:l.length<4294967296) (hr:∀ x∈l,x.length<1000000):FG 200 [.sl (l.map zA5),.func 201 [] [.ref (.func 153 [] [.ref (nwV n)])]] (.bool (l.any (fun x => !(zKs n.h x)))):=by
 refine zAe Tryz.f200 ?_
 refine zAd 1<|zAa<|zAd 2<|S_a [(7,.ret (I (zEC (fun x => !zKs n.h x) l)) [])] (ap (f223_1 n (by omega) l (by omega) (by omega)) an)<|zAc 2<|zAa<|zAn<|E_a [] an (PV.bool (decide (zEC (fun x => !zKs n.h x) l≥0))) [] ?_ rfl
 rw [zD9]
theorem f152_1 (n:Nw) (hb:1≤n.h∧n.h≤10) (l:List (List Int)) (hl:l.length<4294967296) (hr:∀ x∈l,x.length<1000000):FG 152 [.sl (l.map zA5),.func 153 [] [.ref (nwV n)]] (.bool (l.all (fun x=>zKs n.h x))):=by
 refine zAe Tryz.f152 ?_
 refine zAd 2<|zAa<|zAd 2<|S_a [(12,.ret (PV.bool (l.any fun x => !zKs n.h x)) [])] (ap (f200_1 n (by omega) l (by omega) (by omega)) an)<|zAc 2<|zAa<|zAn<|E_a [] an (PV.bool !l.any fun x => !zKs n.h x) [] ?_ rfl
 simp [List.not_any_eq_all_not]
theorem f201_2  (x:List Int) (hx:x.length<1000000):FG 201 [zA5 x,.ref (.func 154 [] [])] (.bool (!(zD2 x))):=by
 refine zAe Tryz.f201 ?_
 refine zAd 1<|zAa<|zAd 2<|S_a [(6,.ret (PV.bool (zD2 x)) [])] (ap (f154 x (by omega)) an)<|zAc 2<|zAa<|zAn<|E_a [] an (PV.bool !zD2 x) [] rfl rfl
theorem f223_2  (l:List (List Int)) (hl:l.length<4294967296) (hr:∀ x∈l,x.length<1000000):FG 223 [.sl (l.map zA5),.func 201 [] [.ref (.func 154 [] [])]] (I (zEC (fun x => !(zD2 x)) l)):=by
 refine zAe Tryz.f223 ?_
 refine zAd 1<|zAa<|zAh<|zAd 1<|S_a [(0,.n l.length)] (ap (lnS zA5 l) an)<|zAc 1<|zAa<|zAk 0 ?_
 refine zAy (fun i=>i≤l.length∧∀ j,j<i→(fun x => !(zD2 x)) (l.getD j [])=false) (fun i=>[(8,I (i:Nat))]) (fun i=>l.length-i) (0:Nat) (by simp) fun i ⟨hi,ha⟩=>?_
 by_cases yP:i<l.length
 ·have hri:=zBU (d:=[]) hr i yP
  refine zAd 1<|zAa<|zAh<|zA3 ((↑i:Int)<(↑l.length:Int)) (by omega)<|zAm<|zAh<|zAk 1<|zAd 2<|zAa<|zAd 3<|S_a [(2,.v (zA5 (l.getD i [])))] (ap (zCh [] (by omega):(List.map zA5 l)[i]? = some (zA5 (l.getD i []))) an)<|zAc 1<|S_a [(7,.ret (PV.bool !zD2 (l.getD i [])) [])] (ap (f201_2 (l.getD i []) (by omega)) an)<|zAa<|zGb (!zD2 (l.getD i [])) (fun k0=>(zAd 2<|zAa<|zAn<|E_a [] an (I (↑i:Int)) [] ?_ rfl)) (fun k0=>(zAm<|zAg<|S_a [(1,.v (I (↑(i+1):Int)))] (ap (wrN i) an)<|zAc 1<|zAa ?_))
  ·rw [zB5 (i:=i) yP (fun j hj=>by rw [← zAB (d:=[])];exact ha j hj) (by rw [← zAB (d:=[])];first | assumption | exact decide_eq_true ‹_›)]
  ·refine ⟨i+1,⟨by omega,fun j hj=>?_⟩,by omega,by kernel_rfl,by kernel_rfl⟩
   rcases Nat.lt_succ_iff_lt_or_eq.1 hj with h | rfl
   ·exact ha j h
   ·first | assumption | exact decide_eq_false ‹_› | (simp only [Bool.not_eq_false',decide_eq_true_eq];assumption)
 ·refine zAd 1<|zAa<|zAh<|zBd ((↑i:Int)<(↑l.length:Int)) (by omega)<|zAM 0<|zAd 1<|zAa<|zAn<|E_a [] an (I (-1)) [] ?_ rfl
  rw [zCy fun j hj=>by rw [← zAB (d:=[])];exact ha j (by omega)]
theorem f200_2  (l:List (List Int)) (hl:l.length<4294967296) (hr:∀ x∈l,x.length<1000000):FG 200 [.sl (l.map zA5),.func 201 [] [.ref (.func 154 [] [])]] (.bool (l.any (fun x => !(zD2 x)))):=by
 refine zAe Tryz.f200 ?_
 refine zAd 1<|zAa<|zAd 2<|S_a [(7,.ret (I (zEC (fun x => !zD2 x) l)) [])] (ap (f223_2 l (by omega) (by omega)) an)<|zAc 2<|zAa<|zAn<|E_a [] an (PV.bool (decide (zEC (fun x => !zD2 x) l≥0))) [] ?_ rfl
 rw [zD9]
theorem f152_2  (l:List (List Int)) (hl:l.length<4294967296) (hr:∀ x∈l,x.length<1000000):FG 152 [.sl (l.map zA5),.func 154 [] []] (.bool (l.all (fun x=>zD2 x))):=by
 refine zAe Tryz.f152 ?_
 refine zAd 2<|zAa<|zAd 2<|S_a [(12,.ret (PV.bool (l.any fun x => !zD2 x)) [])] (ap (f200_2 l (by omega) (by omega)) an)<|zAc 2<|zAa<|zAn<|E_a [] an (PV.bool !l.any fun x => !zD2 x) [] ?_ rfl
 simp [List.not_any_eq_all_not]
theorem f76 (n:Nw) (hs:Small n):FG 76 [nwV n] (I (zGA n)):=by
 refine zAe Tryz.f76 ?_
 have h1:=hs.hl
 have h2:=hs.hn
 have h3:=hs.hs
 have h4:=hs.hr
 refine zAd 2<|zAa<|zAh<|zAd 2<|S_a [(10,.ret (PV.bool (inB n.h 1 10)) [])] (ap (f107 n.h (1) (10)) an)<|zAc 2<|zGh 9 (!inB n.h 1 10) (fun k0=>(zAc 19<|zAa<|zDW<|zAd 1<|zAa<|zAn<|E_a [] an (I 2) [] ?_ rfl)) (fun k0=>(zAc 2<|S_a [(0,.n n.l.length)] (ap (lnS prV n.l) an)<|zAc 3<|zLQ 15 ((↑n.l.length:Int)>15) (fun k1=>(zAc 13<|zAa<|zDW<|zAd 1<|zAa<|zAn<|E_a [] an (I 2) [] ?_ rfl)) (fun k1=>(zAc 2<|S_a [(0,.n n.n.length)] (ap (lnS ntV n.n) an)<|S_a [(10,.ret (PV.bool (inB (↑n.n.length:Int) 1 8)) [])] (ap (f107 ((↑n.n.length:Int)) (1) (8)) an)<|zAc 3<|zGh 22 (!inB (↑n.n.length:Int) 1 8) (fun k2=>(zAc 6<|zAa<|zDW<|zAd 1<|zAa<|zAn<|E_a [] an (I 2) [] ?_ rfl)) (fun k2=>(zAc 2<|S_a [(0,.n n.s.length)] (ap (lnS zA5 n.s) an)<|S_a [(10,.ret (PV.bool (inB (↑n.s.length:Int) 1 6)) [])] (ap (f107 ((↑n.s.length:Int)) (1) (6)) an)<|zAc 2<|zAa<|zGb (!inB (↑n.s.length:Int) 1 6) (fun k3=>(zAd 1<|zAa<|zAn<|E_a [] an (I 2) [] ?_ rfl)) (fun k3=>(zAm<|zAh<|zAd 1<|S_a [(6,.ret (I (zCP n.h n.l)) [])] (ap (f150 n ?_ (by first | omega | (simp<;>omega))) an)<|zAc 1<|zAa<|zAd 2<|zAa<|zDQ (zCP n.h n.l=0) (fun k4=>(zAd 2<|zAa<|zAn<|E_a [] an (I (zCP n.h n.l)) [] ?_ rfl)) (fun k4=>(zAm<|zAh<|zAd 1<|S_a [(6,.ret (I (zDZ n.n)) [])] (ap (f151 n ?_) an)<|zAc 1<|zAa<|zAd 2<|zAa<|zDQ (zDZ n.n=0) (fun k5=>(zAd 2<|zAa<|zAn<|E_a [] an (I (zDZ n.n)) [] ?_ rfl)) (fun k5=>(zAm<|zAh<|zAk 0<|zAd 3<|S_a [(13,.ret (PV.bool (n.s.all fun x=>zKs n.h x)) [])] (ap (f152_1 n ?_ n.s (by omega) (by omega)) an)<|zAc 2<|zAa<|zGb (!n.s.all fun x=>zKs n.h x) (fun k6=>(zAd 1<|zAa<|zAn<|E_a [] an (I 1) [] ?_ rfl)) (fun k6=>(zAd 2<|S_a [(7,.ret (PV.bool (n.s.all fun x=>zD2 x)) [])] (ap (f152_2 n.s (by omega) (by omega)) an)<|zAc 2<|zAa<|zGb (!n.s.all fun x=>zD2 x) (fun k7=>(zAd 1<|zAa<|zAn<|E_a [] an (I 4) [] ?_ rfl)) (fun k7=>(zAm<|zAd 1<|zAa<|zAn<|E_a [] an (I 0) [] ?_ rfl))))))))))))))))
 all_goals first | exact zXb k0 | (have:=zXb k2;omega) | (simp [zGA, *];done)
end
end Go.Eng
set_option maxRecDepth 10000
set_option maxHeartbeats 4000000
namespace Go.Eng
open Go Go.Proofs
theorem zSe {l:List Int}:∀ k,k≤l.length→(zGM (l.take k)).length≤k∧((∃ j,1≤j∧j<k∧l.getD j 0=l.getD (j-1) 0)→(zGM (l.take k)).length<k)
 | 0,_=>⟨by simp [zGM],fun ⟨j,h1,h2,_⟩=>by omega⟩
 | k + 1,hk=>by
  obtain ⟨h1,h2⟩:=zSe (l:=l) k (by omega)
  cases k with
  | zero =>
   rw [zHh (show 0<l.length by omega)]
   exact ⟨by simp [zGM,zVX],fun ⟨j,h1,h2,_⟩=>by omega⟩
  | succ k =>
   rw [zGR (by omega) (by omega)]
   split
   ·exact ⟨by omega,fun _=>by omega⟩
   ·rename_i hI
    refine ⟨by rw [List.length_append];simp;omega,fun ⟨j,g1,g2,g3⟩=>?_⟩
    have hj:j<k+1:=by
     by_cases h:j=k+1
     ·subst h;exact absurd g3 hI
     ·omega
    have:=h2 ⟨j,g1,hj,g3⟩
    rw [List.length_append];simp;omega
theorem zRY {l:List Int} (h:zFG l=true) (j:Nat) (hj:j+1<l.length):l.getD j 0≤l.getD (j+1) 0:=by
 simp only [zFG,List.all_eq_true,List.mem_range,decide_eq_true_eq] at h
 exact h j (by omega)
theorem zKG {l:List Int}:zD2 l=zQI l:=by
 rw [Bool.eq_iff_iff]
 constructor
 ·intro h
  simp only [zD2,Bool.and_eq_true,decide_eq_true_eq] at h
  simp only [zQI,List.all_eq_true,List.mem_range,decide_eq_true_eq]
  intro j hj
  have h1:=zRY h.1 j (by omega)
  have h2:=(zSe (l:=l) l.length (Nat.le_refl _)).2
  rw [List.take_length] at h2
  by_cases he:l.getD (j+1) 0=l.getD j 0
  ·have:=h2 ⟨j+1,by omega,by omega,by simpa using he⟩
   omega
  ·omega
 ·intro h
  simp only [zQI,List.all_eq_true,List.mem_range,decide_eq_true_eq] at h
  simp only [zD2,zFG,Bool.and_eq_true,decide_eq_true_eq,List.all_eq_true,List.mem_range]
  refine ⟨fun j hj=>by have:=h j hj;omega,?_⟩
  have:=zG3 (l:=l) l.length (Nat.le_refl _) fun j h1 h2=>by
   have:=h (j-1) (by omega)
   rw [show j-1+1=j by omega] at this
   omega
  rw [List.take_length] at this
  rw [this]
structure NwOk (n:Nw):Prop where
 err:zGA n=0
 h:1≤n.h∧n.h≤10
 ll:n.l.length≤15
 nl:1≤n.n.length∧n.n.length≤8
 sl:1≤n.s.length∧n.s.length≤6
 lr:∀ x∈n.l,(0≤x.1∧x.1<n.h)∧(0≤x.2∧x.2<n.h)
 lne:∀ x∈n.l,x.1≠x.2
 ld:(n.l.map pr2).Nodup
 na:∀ i,i<n.n.length→-1≤(n.n.getD i default).1∧(n.n.getD i default).1<i
 nd:∀ i k,k<i→i<n.n.length→(n.n.getD i default).1≠-1→(n.n.getD k default).1≠(n.n.getD i default).1
 sr:∀ l∈n.s,∀ x∈l,0≤x∧x<n.h
 ss:∀ l∈n.s,zQI l=true
theorem zQB {l:List Int} (h:zQI l=true):∀ i j,i<j→j<l.length→l.getD i 0<l.getD j 0:=by
 simp only [zQI,List.all_eq_true,List.mem_range,decide_eq_true_eq] at h
 intro i j hij hj
 induction j with
 | zero=>omega
 | succ j ih =>
  have h1:=h j (by omega)
  by_cases he:i=j
  ·subst he;exact h1
  ·have:=ih (by omega) (by omega);omega
theorem zT8 {l:List Int} (h:zQI l=true) {B:Int} (hb:∀ x∈l,0≤x∧x<B):(l.length:Int)≤B∨l.length=0:=by
 by_cases h0:l.length=0
 ·exact .inr h0
 ·left
  have key:∀ j,j<l.length→(j:Int)≤l.getD j 0:=by
   intro j
   induction j with
   | zero=>intro hj;exact (zBU hb 0 hj).1
   | succ j ih =>
    intro hj
    have h1:=ih (by omega)
    have h2:=zQB h j (j+1) (by omega) hj
    omega
  have h1:=key (l.length-1) (by omega)
  have h2:=(zBU (d:=(0:Int)) hb (l.length-1) (by omega)).2
  omega
theorem NwOk.rows {n:Nw} (ho:NwOk n):∀ l∈n.s,l.length≤10:=fun l hl=>by
 have h1:=zT8 (ho.ss l hl) (ho.sr l hl)
 have:=ho.h
 omega
theorem NwOk.small {n:Nw} (ho:NwOk n):Small n:=⟨by have:=ho.ll;omega,by have:=ho.nl;omega,by have:=ho.sl;omega,fun l hl=>by have:=ho.rows l hl;omega⟩
theorem zFM {n lo hi:Int} (h:inB n lo hi=true):lo≤n∧n≤hi:=by simpa [inB] using h
theorem zP7 {h:Int} {l:List (Int×Int)} (he:zCP h l=0):(l.all fun x=>zJZ h x)=true∧(l.all fun x=>zJ2 x)=true∧(l.map pr2).Nodup:=by
 unfold zCP at he
 split at he
 ·split at he
  ·split at he
   ·exact ⟨by assumption,by assumption,by assumption⟩
   ·cases he
  ·cases he
 ·cases he
theorem zRl {l:List (Int×Bool)} (he:zDZ l=0):zRG l=true∧(List.range l.length).any (zMT l)=false:=by
 unfold zDZ at he
 split at he
 ·split at he
  ·cases he
  ·rename_i h1 h2;exact ⟨h1,by rw [Bool.not_eq_true] at h2;exact h2⟩
 ·cases he
theorem zU8 {n:Nw} (he:zGA n=0):NwOk n:=by
 have he0:=he
 unfold zGA at he
 split at he
 ·cases he
 split at he
 ·cases he
 split at he
 ·cases he
 split at he
 ·cases he
 rename_i c1 c2 c3 c4
 split at he
 case isFalse h=>exact absurd he h
 rename_i c5
 split at he
 case isFalse h=>exact absurd he h
 rename_i c6
 split at he
 ·cases he
 split at he
 ·cases he
 rename_i c7 c8
 simp only [Bool.not_eq_true,Bool.not_eq_false'] at c1 c3 c4 c7 c8
 obtain ⟨d1,d2,d3⟩:=zP7 c5
 obtain ⟨e1,e2⟩:=zRl c6
 rw [List.all_eq_true] at c7 c8 d1 d2
 simp only [zRG,List.all_eq_true,List.mem_range] at e1
 simp only [List.any_eq_false,List.mem_range] at e2
 have a3:=zFM c3
 have a4:=zFM c4
 refine ⟨he0,zFM c1,by omega,by omega,by omega,fun x hx=>?_,fun x hx=>by have:=d2 x hx;simpa [zJ2] using this,d3,fun i hi=>?_,fun i k hk hi hI hx=>?_,fun l hl x hx=>?_,fun l hl=>by rw [← zKG];exact c8 l hl⟩
 ·have:=d1 x hx
  simp only [zJZ,Bool.and_eq_true] at this
  have b1:=zFM this.1
  have b2:=zFM this.2
  omega
 ·have:=zFM (e1 i hi);omega
 ·refine e2 i hi ?_
  simp only [zMT,Bool.and_eq_true,decide_eq_true_eq,List.any_eq_true]
  refine ⟨hI,n.n.getD k default,?_,hx⟩
  rw [zAB (by omega)]
  exact List.mem_take_iff_getElem.2 ⟨k,by omega,rfl⟩
 ·have:=c7 l hl
  simp only [zKs,List.all_eq_true] at this
  have:=zFM (this x hx);omega
def zMP (F:List Int) (i:Nat) (a:Int):List Int:=if a = -1 then F.set i i else (F.set i i).set i ((F.set i i).getD a.toNat 0)
def zOR (l:List (Int×Bool)):Nat→List Int
 | 0=>List.replicate 8 0
 | i+1=>zMP (zOR l i) i (l.getD i default).1
def zP6 (F:List Int) (L:List Int) (i k:Nat):List Int:=if F.getD k 0=F.getD i 0 then L.set i (max (L.getD i 0) k) else L
def zU1 (F:List Int) (i:Nat) (L:List Int) (k:Nat):List Int:=(List.range k).foldl (fun L k=>zP6 F L i k) L
def zUE (F:List Int) (m i:Nat):List Int:=(List.range i).foldl (fun L i=>zU1 F i L m) (List.replicate 8 0)
theorem zQp {F:List Int} {i:Nat} {a:Int}:(zMP F i a).length=F.length:=by unfold zMP;split<;>simp
theorem zHp {l:List (Int×Bool)}:∀ i,(zOR l i).length=8
 | 0=>by simp [zOR]
 | i+1=>by rw [zOR,zQp];exact zHp i
theorem zSd {F L:List Int} {i k:Nat}:(zP6 F L i k).length=L.length:=by unfold zP6;split<;>simp
theorem zL5 {F L:List Int} {i k:Nat}:zU1 F i L (k+1)=zP6 F (zU1 F i L k) i k:=by
 simp only [zU1,List.range_succ,List.foldl_append,List.foldl_cons,List.foldl_nil]
theorem zLe {F L:List Int} {i:Nat}:∀ k,(zU1 F i L k).length=L.length
 | 0=>rfl
 | k+1=>by rw [zL5,zSd];exact zLe k
theorem zMb {F:List Int} {m i:Nat}:zUE F m (i+1)=zU1 F i (zUE F m i) m:=by
 simp only [zUE,List.range_succ,List.foldl_append,List.foldl_cons,List.foldl_nil]
theorem zOQ {F:List Int} {m:Nat}:∀ i,(zUE F m i).length=8
 | 0=>by simp [zUE]
 | i+1=>by rw [zMb,zLe];exact zOQ i
def zAi (n:Nw):List Int:=zOR n.n n.n.length
def zBo (n:Nw):List Int:=zUE (zAi n) n.n.length n.n.length
abbrev zCS (n:Nw) (cs ms:PV) (F L:List Int):PV := .agg [I n.h,.sl (n.l.map prV),.sl (n.n.map ntV),.sl (n.s.map zA5),cs,ms,I (F.getD 0 0),I (F.getD 1 0),I (F.getD 2 0),I (F.getD 3 0),I (F.getD 4 0),I (F.getD 5 0),I (F.getD 6 0),I (F.getD 7 0),I (L.getD 0 0),I (L.getD 1 0),I (L.getD 2 0),I (L.getD 3 0),I (L.getD 4 0),I (L.getD 5 0),I (L.getD 6 0),I (L.getD 7 0)]
abbrev zWb (M:List (Int×Int)):PV := .omap (M.map zBJ)
section
variable [Yo]
theorem f139_1 (n:Nw) (ho:NwOk n):FG 139 [nwV n] (.tup [.box (zCS n (.own 2 []) (zWb (n.l.map pr2)) (zAi n) (zBo n)),I 0]):=by
 have hs:=ho.small
 have he:=ho.err
 have h1:=ho.nl.2
 have h2:=ho.ll
 have h3:=ho.ld
 have h4:=ho.na
 refine zAe Tryz.f139 ?_
 refine zAd 3<|zAa<|zAh<|zAd 1<|S_a [(6,.ret (I (zGA n)) [])] (ap (f76 n (by omega)) an)<|zAc 1<|zAa<|zAd 2<|zAa<|zLt (zGA n=0) (by omega)<|zAm<|zAd 5<|zAa<|zAh<|zAd 2<|S_a [(0,.n n.l.length)] (ap (lnS prV n.l) an)<|zAc 1<|zAa<|zAk 0 ?_
 refine zAy (fun (i,M)=>i≤n.l.length∧M=(n.l.take i).map pr2) (fun (i,M)=>[(5,.box (zCS n (.own 2 []) (zWb M) (List.replicate 8 0) (List.replicate 8 0))),(24,I (i:Nat))]) (fun (i,_)=>n.l.length-i) ((0:Nat),([]:List (Int×Int))) ⟨Nat.zero_le _,rfl⟩ fun (i,M) ⟨hi,hM⟩=>?_
 by_cases yP:i<n.l.length
 ·have yU:(n.l.take (i+1)).map pr2=M++[pr2 (n.l.getD i default)]:=by rw [zBX (d:=default) yP,List.map_append,← hM];rfl
  have hin:pr2 (n.l.getD i default)∉M:=fun hm=>by
   rw [← List.take_append_drop (i+1) n.l,List.map_append,yU] at h3
   have h2:=(List.nodup_append.1 h3).1
   have h3:=(List.nodup_append.1 h2).2.2
   exact h3 _ hm _ (List.mem_singleton.2 rfl) rfl
  have jK:=zKY hin
  refine zAd 1<|zAa<|zAh<|zA3 ((↑i:Int)<(↑n.l.length:Int)) (by omega)<|zAm<|zAh<|zAk 1<|zAh<|zAg<|S_a [(2,.v (PV.agg [I (n.l.getD i default).fst,I (n.l.getD i default).snd]))] (ap (zCh default (by omega):(List.map prV n.l)[i]? = some (PV.agg [I (n.l.getD i default).fst,I (n.l.getD i default).snd])) an)<|zAc 3<|zAa<|zAg<|zAc 5<|S_a [(6,.ret (prV (pr2 (n.l.getD i default))) [])] (ap (f110 (n.l.getD i default)) an)<|S_a [(4,.ix none),(0,.v (PV.omap (List.map zBJ (M++[pr2 (n.l.getD i default)]))))] (ap jK<|ap ((by simp):PV.omap (List.map zBJ M++[(PV.agg [I (pr2 (n.l.getD i default)).fst,I (pr2 (n.l.getD i default)).snd],PV.bool true)])=PV.omap (List.map zBJ (M++[pr2 (n.l.getD i default)]))) an)<|zAa<|zAg<|S_a [(1,.v (I (↑(i+1):Int)))] (ap (wrN i) an)<|zAc 1<|zAa ?_
  exact ⟨(i+1,M++[pr2 (n.l.getD i default)]),⟨by omega,yU.symm⟩,by simp only;omega,by kernel_rfl,by kernel_rfl⟩
 ·refine zAd 1<|zAa<|zAh<|zBd ((↑i:Int)<(↑n.l.length:Int)) (by omega)<|zAM 0<|zAh<|zAd 2<|S_a [(0,.n n.n.length)] (ap (lnS ntV n.n) an)<|zAc 1<|zAa<|zAk 2 ?_
  rw [List.take_of_length_le (by omega)] at hM
  subst hM
  clear h3
  generalize hMM:n.l.map pr2=MM
  refine zAy (fun (i,F)=>i≤n.n.length∧F=zOR n.n i) (fun (i,F)=>[(5,.box (zCS n (.own 2 []) (zWb MM) F (List.replicate 8 0))),(38,I (i:Nat))]) (fun (i,_)=>n.n.length-i) ((0:Nat),List.replicate 8 0) ⟨Nat.zero_le _,rfl⟩ fun (i,F) ⟨hi,hF⟩=>?_
  have hFl:F.length=8:=by rw [hF];exact zHp i
  by_cases yP:i<n.n.length
  ·have h4i:=h4 i yP
   have yJ:zOR n.n (i+1)=zMP F i (n.n.getD i default).1:=by rw [hF];rfl
   refine zAd 1<|zAa<|zAh<|zA3 ((↑i:Int)<(↑n.n.length:Int)) (by omega)<|zAm<|zAh<|zAk 3<|zAd 1<|S_a [(2,.v (PV.agg [I (n.n.getD i default).fst,PV.bool (n.n.getD i default).snd]))] (ap (zCh default (by omega):(List.map ntV n.n)[i]? = some (PV.agg [I (n.n.getD i default).fst,PV.bool (n.n.getD i default).snd])) an)<|zAc 4<|zAa<|zAd 5<|S_a [(2,.ob),(1,.v (PV.addr 5 [] 0 (6+i) none))] (ap ((by exact zAq (by omega)):decide (i<8)=true)<|ap ((zFq (by kernel_rfl)):PV.addr 5 [] 0 (6+i*(fun x=>x.size) Tryz.prog.types[3]) none=PV.addr 5 [] 0 (6+i) none) an)<|S_a [(8,.root ((PV.agg [I n.h,prs n.l,PV.sl (List.map ntV n.n),PV.sl (List.map zA5 n.s),PV.own 2 [],PV.omap (List.map zBJ MM),zs F i 0,zs F i 1,zs F i 2,zs F i 3,zs F i 4,zs F i 5,zs F i 6,zs F i 7,z8 0,z8 1,z8 2,z8 3,z8 4,z8 5,z8 6,z8 7]).box) true)] (ap (zP8 (zKx (q:=(PV.agg [I n.h,prs n.l,PV.sl (List.map ntV n.n),PV.sl (List.map zA5 n.s),PV.own 2 [],PV.omap (List.map zBJ MM),I (F.getD 0 0),I (F.getD 1 0),I (F.getD 2 0),I (F.getD 3 0),I (F.getD 4 0),I (F.getD 5 0),I (F.getD 6 0),I (F.getD 7 0),z8 0,z8 1,z8 2,z8 3,z8 4,z8 5,z8 6,z8 7]).box) (xs:=[PV.agg [I n.h,prs n.l,PV.sl (List.map ntV n.n),PV.sl (List.map zA5 n.s),PV.own 2 [],PV.omap (List.map zBJ MM),I (F.getD 0 0),I (F.getD 1 0),I (F.getD 2 0),I (F.getD 3 0),I (F.getD 4 0),I (F.getD 5 0),I (F.getD 6 0),I (F.getD 7 0),z8 0,z8 1,z8 2,z8 3,z8 4,z8 5,z8 6,z8 7]]) (x:=PV.agg [I n.h,prs n.l,PV.sl (List.map ntV n.n),PV.sl (List.map zA5 n.s),PV.own 2 [],PV.omap (List.map zBJ MM),I (F.getD 0 0),I (F.getD 1 0),I (F.getD 2 0),I (F.getD 3 0),I (F.getD 4 0),I (F.getD 5 0),I (F.getD 6 0),I (F.getD 7 0),z8 0,z8 1,z8 2,z8 3,z8 4,z8 5,z8 6,z8 7]) (y:=PV.agg [I n.h,prs n.l,PV.sl (List.map ntV n.n),PV.sl (List.map zA5 n.s),PV.own 2 [],PV.omap (List.map zBJ MM),zs F i 0,zs F i 1,zs F i 2,zs F i 3,zs F i 4,zs F i 5,zs F i 6,zs F i 7,z8 0,z8 1,z8 2,z8 3,z8 4,z8 5,z8 6,z8 7]) (q':=(PV.agg [I n.h,prs n.l,PV.sl (List.map ntV n.n),PV.sl (List.map zA5 n.s),PV.own 2 [],PV.omap (List.map zBJ MM),zs F i 0,zs F i 1,zs F i 2,zs F i 3,zs F i 4,zs F i 5,zs F i 6,zs F i 7,z8 0,z8 1,z8 2,z8 3,z8 4,z8 5,z8 6,z8 7]).box) rfl (zOJ (A:=[I n.h,prs n.l,PV.sl (List.map ntV n.n),PV.sl (List.map zA5 n.s),PV.own 2 [],PV.omap (List.map zBJ MM)]) (B:=[z8 0,z8 1,z8 2,z8 3,z8 4,z8 5,z8 6,z8 7]) (F:=F) (m:=8) (j:=i) (u:=(↑i:Int)) (by first | rfl | exact zB9 (by kernel_rfl) | exact zB6 (by kernel_rfl) | (simp;done)) (by omega) (by omega)) rfl (hb:=zO4 (A:=[I n.h,prs n.l,PV.sl (List.map ntV n.n),PV.sl (List.map zA5 n.s),PV.own 2 [],PV.omap (List.map zBJ MM)]) (B:=[z8 0,z8 1,z8 2,z8 3,z8 4,z8 5,z8 6,z8 7]) (F:=F) (m:=8) (j:=i) (by first | rfl | exact zB9 (by kernel_rfl) | exact zB6 (by kernel_rfl) | (simp;done)) (by omega))) rfl:zBF (PV.agg [I n.h,prs n.l,PV.sl (List.map ntV n.n),PV.sl (List.map zA5 n.s),PV.own 2 [],PV.omap (List.map zBJ MM),I (F.getD 0 0),I (F.getD 1 0),I (F.getD 2 0),I (F.getD 3 0),I (F.getD 4 0),I (F.getD 5 0),I (F.getD 6 0),I (F.getD 7 0),z8 0,z8 1,z8 2,z8 3,z8 4,z8 5,z8 6,z8 7]).box [] 0 (6+i) (I (↑i:Int)).cells=some (PV.agg [I n.h,prs n.l,PV.sl (List.map ntV n.n),PV.sl (List.map zA5 n.s),PV.own 2 [],PV.omap (List.map zBJ MM),zs F i 0,zs F i 1,zs F i 2,zs F i 3,zs F i 4,zs F i 5,zs F i 6,zs F i 7,z8 0,z8 1,z8 2,z8 3,z8 4,z8 5,z8 6,z8 7]).box∧zAD (PV.agg [I n.h,prs n.l,PV.sl (List.map ntV n.n),PV.sl (List.map zA5 n.s),PV.own 2 [],PV.omap (List.map zBJ MM),I (F.getD 0 0),I (F.getD 1 0),I (F.getD 2 0),I (F.getD 3 0),I (F.getD 4 0),I (F.getD 5 0),I (F.getD 6 0),I (F.getD 7 0),z8 0,z8 1,z8 2,z8 3,z8 4,z8 5,z8 6,z8 7]).box (PV.agg [I n.h,prs n.l,PV.sl (List.map ntV n.n),PV.sl (List.map zA5 n.s),PV.own 2 [],PV.omap (List.map zBJ MM),zs F i 0,zs F i 1,zs F i 2,zs F i 3,zs F i 4,zs F i 5,zs F i 6,zs F i 7,z8 0,z8 1,z8 2,z8 3,z8 4,z8 5,z8 6,z8 7]).box []=true) an)<|zAa<|zAd 3<|zAa<|zDQ ((n.n.getD i default).fst = -1) (fun k0=>(zAg<|zAc 7<|S_a [(0,.ob),(1,.ob),(1,.v (PV.addr 5 [] 0 (6+(n.n.getD i default).fst.toNat) none))] (ap ((by exact zAq (by omega)):decide (0≤(n.n.getD i default).fst)=true)<|ap ((by exact zAq (by omega)):decide ((n.n.getD i default).fst.toNat<8)=true)<|ap ((zFq (by kernel_rfl)):PV.addr 5 [] 0 (6+(n.n.getD i default).fst.toNat*(fun x=>x.size) Tryz.prog.types[3]) none=PV.addr 5 [] 0 (6+(n.n.getD i default).fst.toNat) none) an)<|S_a [(0,.cs true ([I ((F.set i (↑i:Int)).getD (n.n.getD i default).fst.toNat 0)]))] (ap (zCu (q:=(PV.agg [I n.h,prs n.l,PV.sl (List.map ntV n.n),PV.sl (List.map zA5 n.s),PV.own 2 [],PV.omap (List.map zBJ MM),zs F i 0,zs F i 1,zs F i 2,zs F i 3,zs F i 4,zs F i 5,zs F i 6,zs F i 7,z8 0,z8 1,z8 2,z8 3,z8 4,z8 5,z8 6,z8 7]).box) (xs:=[PV.agg [I n.h,prs n.l,PV.sl (List.map ntV n.n),PV.sl (List.map zA5 n.s),PV.own 2 [],PV.omap (List.map zBJ MM),zs F i 0,zs F i 1,zs F i 2,zs F i 3,zs F i 4,zs F i 5,zs F i 6,zs F i 7,z8 0,z8 1,z8 2,z8 3,z8 4,z8 5,z8 6,z8 7]]) (x:=PV.agg [I n.h,prs n.l,PV.sl (List.map ntV n.n),PV.sl (List.map zA5 n.s),PV.own 2 [],PV.omap (List.map zBJ MM),zs F i 0,zs F i 1,zs F i 2,zs F i 3,zs F i 4,zs F i 5,zs F i 6,zs F i 7,z8 0,z8 1,z8 2,z8 3,z8 4,z8 5,z8 6,z8 7]) rfl rfl (zKv (A:=[I n.h,prs n.l,PV.sl (List.map ntV n.n),PV.sl (List.map zA5 n.s),PV.own 2 [],PV.omap (List.map zBJ MM)]) (B:=[z8 0,z8 1,z8 2,z8 3,z8 4,z8 5,z8 6,z8 7]) (F:=F.set i (↑i:Int)) (m:=8) (j:=(n.n.getD i default).fst.toNat) (by first | rfl | exact zB9 (by kernel_rfl) | exact zB6 (by kernel_rfl) | (simp;done)) (by omega)):zAr 5 (PV.agg [I n.h,prs n.l,PV.sl (List.map ntV n.n),PV.sl (List.map zA5 n.s),PV.own 2 [],PV.omap (List.map zBJ MM),zs F i 0,zs F i 1,zs F i 2,zs F i 3,zs F i 4,zs F i 5,zs F i 6,zs F i 7,z8 0,z8 1,z8 2,z8 3,z8 4,z8 5,z8 6,z8 7]).box [] 0 (6+(n.n.getD i default).fst.toNat) 1=some (true,[I ((F.set i (↑i:Int)).getD (n.n.getD i default).fst.toNat 0)])) an)<|zAc 2<|S_a [(2,.ob),(1,.v (PV.addr 5 [] 0 (6+i) none))] (ap ((by exact zAq (by omega)):decide (i<8)=true)<|ap ((zFq (by kernel_rfl)):PV.addr 5 [] 0 (6+i*(fun x=>x.size) Tryz.prog.types[3]) none=PV.addr 5 [] 0 (6+i) none) an)<|S_a [(8,.root ((PV.agg [I n.h,prs n.l,PV.sl (List.map ntV n.n),PV.sl (List.map zA5 n.s),PV.own 2 [],PV.omap (List.map zBJ MM),I (((F.set i (↑i:Int)).set i ((F.set i (↑i:Int)).getD (n.n.getD i default).fst.toNat 0)).getD 0 0),I (((F.set i (↑i:Int)).set i ((F.set i (↑i:Int)).getD (n.n.getD i default).fst.toNat 0)).getD 1 0),I (((F.set i (↑i:Int)).set i ((F.set i (↑i:Int)).getD (n.n.getD i default).fst.toNat 0)).getD 2 0),I (((F.set i (↑i:Int)).set i ((F.set i (↑i:Int)).getD (n.n.getD i default).fst.toNat 0)).getD 3 0),I (((F.set i (↑i:Int)).set i ((F.set i (↑i:Int)).getD (n.n.getD i default).fst.toNat 0)).getD 4 0),I (((F.set i (↑i:Int)).set i ((F.set i (↑i:Int)).getD (n.n.getD i default).fst.toNat 0)).getD 5 0),I (((F.set i (↑i:Int)).set i ((F.set i (↑i:Int)).getD (n.n.getD i default).fst.toNat 0)).getD 6 0),I (((F.set i (↑i:Int)).set i ((F.set i (↑i:Int)).getD (n.n.getD i default).fst.toNat 0)).getD 7 0),z8 0,z8 1,z8 2,z8 3,z8 4,z8 5,z8 6,z8 7]).box) true)] (ap (zP8 (zKx (q:=(PV.agg [I n.h,prs n.l,PV.sl (List.map ntV n.n),PV.sl (List.map zA5 n.s),PV.own 2 [],PV.omap (List.map zBJ MM),zs F i 0,zs F i 1,zs F i 2,zs F i 3,zs F i 4,zs F i 5,zs F i 6,zs F i 7,z8 0,z8 1,z8 2,z8 3,z8 4,z8 5,z8 6,z8 7]).box) (xs:=[PV.agg [I n.h,prs n.l,PV.sl (List.map ntV n.n),PV.sl (List.map zA5 n.s),PV.own 2 [],PV.omap (List.map zBJ MM),zs F i 0,zs F i 1,zs F i 2,zs F i 3,zs F i 4,zs F i 5,zs F i 6,zs F i 7,z8 0,z8 1,z8 2,z8 3,z8 4,z8 5,z8 6,z8 7]]) (x:=PV.agg [I n.h,prs n.l,PV.sl (List.map ntV n.n),PV.sl (List.map zA5 n.s),PV.own 2 [],PV.omap (List.map zBJ MM),zs F i 0,zs F i 1,zs F i 2,zs F i 3,zs F i 4,zs F i 5,zs F i 6,zs F i 7,z8 0,z8 1,z8 2,z8 3,z8 4,z8 5,z8 6,z8 7]) (y:=PV.agg [I n.h,prs n.l,PV.sl (List.map ntV n.n),PV.sl (List.map zA5 n.s),PV.own 2 [],PV.omap (List.map zBJ MM),I (((F.set i (↑i:Int)).set i ((F.set i (↑i:Int)).getD (n.n.getD i default).fst.toNat 0)).getD 0 0),I (((F.set i (↑i:Int)).set i ((F.set i (↑i:Int)).getD (n.n.getD i default).fst.toNat 0)).getD 1 0),I (((F.set i (↑i:Int)).set i ((F.set i (↑i:Int)).getD (n.n.getD i default).fst.toNat 0)).getD 2 0),I (((F.set i (↑i:Int)).set i ((F.set i (↑i:Int)).getD (n.n.getD i default).fst.toNat 0)).getD 3 0),I (((F.set i (↑i:Int)).set i ((F.set i (↑i:Int)).getD (n.n.getD i default).fst.toNat 0)).getD 4 0),I (((F.set i (↑i:Int)).set i ((F.set i (↑i:Int)).getD (n.n.getD i default).fst.toNat 0)).getD 5 0),I (((F.set i (↑i:Int)).set i ((F.set i (↑i:Int)).getD (n.n.getD i default).fst.toNat 0)).getD 6 0),I (((F.set i (↑i:Int)).set i ((F.set i (↑i:Int)).getD (n.n.getD i default).fst.toNat 0)).getD 7 0),z8 0,z8 1,z8 2,z8 3,z8 4,z8 5,z8 6,z8 7]) (q':=(PV.agg [I n.h,prs n.l,PV.sl (List.map ntV n.n),PV.sl (List.map zA5 n.s),PV.own 2 [],PV.omap (List.map zBJ MM),I (((F.set i (↑i:Int)).set i ((F.set i (↑i:Int)).getD (n.n.getD i default).fst.toNat 0)).getD 0 0),I (((F.set i (↑i:Int)).set i ((F.set i (↑i:Int)).getD (n.n.getD i default).fst.toNat 0)).getD 1 0),I (((F.set i (↑i:Int)).set i ((F.set i (↑i:Int)).getD (n.n.getD i default).fst.toNat 0)).getD 2 0),I (((F.set i (↑i:Int)).set i ((F.set i (↑i:Int)).getD (n.n.getD i default).fst.toNat 0)).getD 3 0),I (((F.set i (↑i:Int)).set i ((F.set i (↑i:Int)).getD (n.n.getD i default).fst.toNat 0)).getD 4 0),I (((F.set i (↑i:Int)).set i ((F.set i (↑i:Int)).getD (n.n.getD i default).fst.toNat 0)).getD 5 0),I (((F.set i (↑i:Int)).set i ((F.set i (↑i:Int)).getD (n.n.getD i default).fst.toNat 0)).getD 6 0),I (((F.set i (↑i:Int)).set i ((F.set i (↑i:Int)).getD (n.n.getD i default).fst.toNat 0)).getD 7 0),z8 0,z8 1,z8 2,z8 3,z8 4,z8 5,z8 6,z8 7]).box) rfl (zOJ (A:=[I n.h,prs n.l,PV.sl (List.map ntV n.n),PV.sl (List.map zA5 n.s),PV.own 2 [],PV.omap (List.map zBJ MM)]) (B:=[z8 0,z8 1,z8 2,z8 3,z8 4,z8 5,z8 6,z8 7]) (F:=F.set i (↑i:Int)) (m:=8) (j:=i) (u:=(F.set i (↑i:Int)).getD (n.n.getD i default).fst.toNat 0) (by first | rfl | exact zB9 (by kernel_rfl) | exact zB6 (by kernel_rfl) | (simp;done)) (by omega) (by first | omega | (simp<;>omega))) rfl (hb:=zO4 (A:=[I n.h,prs n.l,PV.sl (List.map ntV n.n),PV.sl (List.map zA5 n.s),PV.own 2 [],PV.omap (List.map zBJ MM)]) (B:=[z8 0,z8 1,z8 2,z8 3,z8 4,z8 5,z8 6,z8 7]) (F:=F.set i (↑i:Int)) (m:=8) (j:=i) (by first | rfl | exact zB9 (by kernel_rfl) | exact zB6 (by kernel_rfl) | (simp;done)) (by omega))) rfl:zBF (PV.agg [I n.h,prs n.l,PV.sl (List.map ntV n.n),PV.sl (List.map zA5 n.s),PV.own 2 [],PV.omap (List.map zBJ MM),zs F i 0,zs F i 1,zs F i 2,zs F i 3,zs F i 4,zs F i 5,zs F i 6,zs F i 7,z8 0,z8 1,z8 2,z8 3,z8 4,z8 5,z8 6,z8 7]).box [] 0 (6+i) (I ((F.set i (↑i:Int)).getD (n.n.getD i default).fst.toNat 0)).cells=some (PV.agg [I n.h,prs n.l,PV.sl (List.map ntV n.n),PV.sl (List.map zA5 n.s),PV.own 2 [],PV.omap (List.map zBJ MM),I (((F.set i (↑i:Int)).set i ((F.set i (↑i:Int)).getD (n.n.getD i default).fst.toNat 0)).getD 0 0),I (((F.set i (↑i:Int)).set i ((F.set i (↑i:Int)).getD (n.n.getD i default).fst.toNat 0)).getD 1 0),I (((F.set i (↑i:Int)).set i ((F.set i (↑i:Int)).getD (n.n.getD i default).fst.toNat 0)).getD 2 0),I (((F.set i (↑i:Int)).set i ((F.set i (↑i:Int)).getD (n.n.getD i default).fst.toNat 0)).getD 3 0),I (((F.set i (↑i:Int)).set i ((F.set i (↑i:Int)).getD (n.n.getD i default).fst.toNat 0)).getD 4 0),I (((F.set i (↑i:Int)).set i ((F.set i (↑i:Int)).getD (n.n.getD i default).fst.toNat 0)).getD 5 0),I (((F.set i (↑i:Int)).set i ((F.set i (↑i:Int)).getD (n.n.getD i default).fst.toNat 0)).getD 6 0),I (((F.set i (↑i:Int)).set i ((F.set i (↑i:Int)).getD (n.n.getD i default).fst.toNat 0)).getD 7 0),z8 0,z8 1,z8 2,z8 3,z8 4,z8 5,z8 6,z8 7]).box∧zAD (PV.agg [I n.h,prs n.l,PV.sl (List.map ntV n.n),PV.sl (List.map zA5 n.s),PV.own 2 [],PV.omap (List.map zBJ MM),zs F i 0,zs F i 1,zs F i 2,zs F i 3,zs F i 4,zs F i 5,zs F i 6,zs F i 7,z8 0,z8 1,z8 2,z8 3,z8 4,z8 5,z8 6,z8 7]).box (PV.agg [I n.h,prs n.l,PV.sl (List.map ntV n.n),PV.sl (List.map zA5 n.s),PV.own 2 [],PV.omap (List.map zBJ MM),I (((F.set i (↑i:Int)).set i ((F.set i (↑i:Int)).getD (n.n.getD i default).fst.toNat 0)).getD 0 0),I (((F.set i (↑i:Int)).set i ((F.set i (↑i:Int)).getD (n.n.getD i default).fst.toNat 0)).getD 1 0),I (((F.set i (↑i:Int)).set i ((F.set i (↑i:Int)).getD (n.n.getD i default).fst.toNat 0)).getD 2 0),I (((F.set i (↑i:Int)).set i ((F.set i (↑i:Int)).getD (n.n.getD i default).fst.toNat 0)).getD 3 0),I (((F.set i (↑i:Int)).set i ((F.set i (↑i:Int)).getD (n.n.getD i default).fst.toNat 0)).getD 4 0),I (((F.set i (↑i:Int)).set i ((F.set i (↑i:Int)).getD (n.n.getD i default).fst.toNat 0)).getD 5 0),I (((F.set i (↑i:Int)).set i ((F.set i (↑i:Int)).getD (n.n.getD i default).fst.toNat 0)).getD 6 0),I (((F.set i (↑i:Int)).set i ((F.set i (↑i:Int)).getD (n.n.getD i default).fst.toNat 0)).getD 7 0),z8 0,z8 1,z8 2,z8 3,z8 4,z8 5,z8 6,z8 7]).box []=true) an)<|zAa<|zAg<|S_a [(1,.v (I (↑(i+1):Int)))] (ap (wrN i) an)<|zAc 1<|zAa ?_)) (fun k0=>(zAm<|zAg<|S_a [(1,.v (I (↑(i+1):Int)))] (ap (wrN i) an)<|zAc 1<|zAa ?_))
   ·rw [zMP,if_neg k0] at yJ
    exact ⟨(i+1,(F.set i i).set i ((F.set i i).getD (n.n.getD i default).1.toNat 0)),⟨by omega,yJ.symm⟩,by simp only;omega,by kernel_rfl,by kernel_rfl⟩
   ·rw [zMP,if_pos k0] at yJ
    exact ⟨(i+1,F.set i i),⟨by omega,yJ.symm⟩,by simp only;omega,by kernel_rfl,by kernel_rfl⟩
  ·have hFF:F=zAi n:=by rw [hF,zAi,show i=n.n.length by omega]
   subst hFF
   clear hF
   have qT:zBo n=zUE (zAi n) n.n.length n.n.length:=rfl
   rw [qT]
   generalize hG:zAi n=F at *
   clear qT h4
   refine zAd 1<|zAa<|zAh<|zBd ((↑i:Int)<(↑n.n.length:Int)) (by omega)<|zAM 2<|zAh<|zAd 2<|S_a [(0,.n n.n.length)] (ap (lnS ntV n.n) an)<|zAc 1<|zAa<|zAk 4 ?_
   refine zAy (fun (i,L)=>i≤n.n.length∧L=zUE F n.n.length i) (fun (i,L)=>[(5,.box (zCS n (.own 2 []) (zWb MM) F L)),(68,I (i:Nat))]) (fun (i,_)=>n.n.length-i) ((0:Nat),List.replicate 8 0) ⟨Nat.zero_le _,rfl⟩ fun (i,L) ⟨hi,hL⟩=>?_
   have hLl:L.length=8:=by rw [hL];exact zOQ i
   by_cases yP:i<n.n.length
   ·have yJ:=zMb (F:=F) (m:=n.n.length) (i:=i)
    rw [← hL] at yJ
    refine zAd 1<|zAa<|zAh<|zA3 ((↑i:Int)<(↑n.n.length:Int)) (by omega)<|zAm<|zAh<|zAk 5<|zAd 2<|zAa<|zAd 2<|S_a [(0,.n n.n.length)] (ap (lnS ntV n.n) an)<|zAc 1<|zAa<|zAk 6 ?_
    refine zAy (fun (k,Q)=>k≤n.n.length∧Q=zU1 F i L k) (fun (k,Q)=>[(5,.box (zCS n (.own 2 []) (zWb MM) F Q)),(74,I (k:Nat))]) (fun (k,_)=>n.n.length-k) ((0:Nat),L) ⟨Nat.zero_le _,rfl⟩ fun (k,Q) ⟨hk,hQ⟩=>?_
    have hQl:Q.length=8:=by rw [hQ,zLe];exact hLl
    by_cases wD:k<n.n.length
    ·have jI:=zL5 (F:=F) (L:=L) (i:=i) (k:=k)
     rw [← hQ] at jI
     clear yJ hL hQ
     refine zAd 1<|zAa<|zAh<|zA3 ((↑k:Int)<(↑n.n.length:Int)) (by omega)<|zAm<|zAh<|zAk 7<|zAd 2<|zAa<|zAd 4<|S_a [(2,.ob),(1,.v (PV.addr 5 [] 0 (6+k) none))] (ap ((by exact zAq (by omega)):decide (k<8)=true)<|ap ((zFq (by kernel_rfl)):PV.addr 5 [] 0 (6+k*(fun x=>x.size) Tryz.prog.types[3]) none=PV.addr 5 [] 0 (6+k) none) an)<|S_a [(0,.cs true ([I (F.getD k 0)]))] (ap (zCu (q:=(PV.agg [I n.h,prs n.l,PV.sl (List.map ntV n.n),PV.sl (List.map zA5 n.s),PV.own 2 [],PV.omap (List.map zBJ MM),I (F.getD 0 0),I (F.getD 1 0),I (F.getD 2 0),I (F.getD 3 0),I (F.getD 4 0),I (F.getD 5 0),I (F.getD 6 0),I (F.getD 7 0),I (Q.getD 0 0),I (Q.getD 1 0),I (Q.getD 2 0),I (Q.getD 3 0),I (Q.getD 4 0),I (Q.getD 5 0),I (Q.getD 6 0),I (Q.getD 7 0)]).box) (xs:=[PV.agg [I n.h,prs n.l,PV.sl (List.map ntV n.n),PV.sl (List.map zA5 n.s),PV.own 2 [],PV.omap (List.map zBJ MM),I (F.getD 0 0),I (F.getD 1 0),I (F.getD 2 0),I (F.getD 3 0),I (F.getD 4 0),I (F.getD 5 0),I (F.getD 6 0),I (F.getD 7 0),I (Q.getD 0 0),I (Q.getD 1 0),I (Q.getD 2 0),I (Q.getD 3 0),I (Q.getD 4 0),I (Q.getD 5 0),I (Q.getD 6 0),I (Q.getD 7 0)]]) (x:=PV.agg [I n.h,prs n.l,PV.sl (List.map ntV n.n),PV.sl (List.map zA5 n.s),PV.own 2 [],PV.omap (List.map zBJ MM),I (F.getD 0 0),I (F.getD 1 0),I (F.getD 2 0),I (F.getD 3 0),I (F.getD 4 0),I (F.getD 5 0),I (F.getD 6 0),I (F.getD 7 0),I (Q.getD 0 0),I (Q.getD 1 0),I (Q.getD 2 0),I (Q.getD 3 0),I (Q.getD 4 0),I (Q.getD 5 0),I (Q.getD 6 0),I (Q.getD 7 0)]) rfl rfl (zKv (A:=[I n.h,prs n.l,PV.sl (List.map ntV n.n),PV.sl (List.map zA5 n.s),PV.own 2 [],PV.omap (List.map zBJ MM)]) (B:=[I (Q.getD 0 0),I (Q.getD 1 0),I (Q.getD 2 0),I (Q.getD 3 0),I (Q.getD 4 0),I (Q.getD 5 0),I (Q.getD 6 0),I (Q.getD 7 0)]) (F:=F) (m:=8) (j:=k) (by first | rfl | exact zB9 (by kernel_rfl) | exact zB6 (by kernel_rfl) | (simp;done)) (by omega)):zAr 5 (PV.agg [I n.h,prs n.l,PV.sl (List.map ntV n.n),PV.sl (List.map zA5 n.s),PV.own 2 [],PV.omap (List.map zBJ MM),I (F.getD 0 0),I (F.getD 1 0),I (F.getD 2 0),I (F.getD 3 0),I (F.getD 4 0),I (F.getD 5 0),I (F.getD 6 0),I (F.getD 7 0),I (Q.getD 0 0),I (Q.getD 1 0),I (Q.getD 2 0),I (Q.getD 3 0),I (Q.getD 4 0),I (Q.getD 5 0),I (Q.getD 6 0),I (Q.getD 7 0)]).box [] 0 (6+k) 1=some (true,[I (F.getD k 0)])) an)<|zAc 4<|S_a [(2,.ob),(1,.v (PV.addr 5 [] 0 (6+i) none))] (ap ((by exact zAq (by omega)):decide (i<8)=true)<|ap ((zFq (by kernel_rfl)):PV.addr 5 [] 0 (6+i*(fun x=>x.size) Tryz.prog.types[3]) none=PV.addr 5 [] 0 (6+i) none) an)<|S_a [(0,.cs true ([I (F.getD i 0)]))] (ap (zCu (q:=(PV.agg [I n.h,prs n.l,PV.sl (List.map ntV n.n),PV.sl (List.map zA5 n.s),PV.own 2 [],PV.omap (List.map zBJ MM),I (F.getD 0 0),I (F.getD 1 0),I (F.getD 2 0),I (F.getD 3 0),I (F.getD 4 0),I (F.getD 5 0),I (F.getD 6 0),I (F.getD 7 0),I (Q.getD 0 0),I (Q.getD 1 0),I (Q.getD 2 0),I (Q.getD 3 0),I (Q.getD 4 0),I (Q.getD 5 0),I (Q.getD 6 0),I (Q.getD 7 0)]).box) (xs:=[PV.agg [I n.h,prs n.l,PV.sl (List.map ntV n.n),PV.sl (List.map zA5 n.s),PV.own 2 [],PV.omap (List.map zBJ MM),I (F.getD 0 0),I (F.getD 1 0),I (F.getD 2 0),I (F.getD 3 0),I (F.getD 4 0),I (F.getD 5 0),I (F.getD 6 0),I (F.getD 7 0),I (Q.getD 0 0),I (Q.getD 1 0),I (Q.getD 2 0),I (Q.getD 3 0),I (Q.getD 4 0),I (Q.getD 5 0),I (Q.getD 6 0),I (Q.getD 7 0)]]) (x:=PV.agg [I n.h,prs n.l,PV.sl (List.map ntV n.n),PV.sl (List.map zA5 n.s),PV.own 2 [],PV.omap (List.map zBJ MM),I (F.getD 0 0),I (F.getD 1 0),I (F.getD 2 0),I (F.getD 3 0),I (F.getD 4 0),I (F.getD 5 0),I (F.getD 6 0),I (F.getD 7 0),I (Q.getD 0 0),I (Q.getD 1 0),I (Q.getD 2 0),I (Q.getD 3 0),I (Q.getD 4 0),I (Q.getD 5 0),I (Q.getD 6 0),I (Q.getD 7 0)]) rfl rfl (zKv (A:=[I n.h,prs n.l,PV.sl (List.map ntV n.n),PV.sl (List.map zA5 n.s),PV.own 2 [],PV.omap (List.map zBJ MM)]) (B:=[I (Q.getD 0 0),I (Q.getD 1 0),I (Q.getD 2 0),I (Q.getD 3 0),I (Q.getD 4 0),I (Q.getD 5 0),I (Q.getD 6 0),I (Q.getD 7 0)]) (F:=F) (m:=8) (j:=i) (by first | rfl | exact zB9 (by kernel_rfl) | exact zB6 (by kernel_rfl) | (simp;done)) (by omega)):zAr 5 (PV.agg [I n.h,prs n.l,PV.sl (List.map ntV n.n),PV.sl (List.map zA5 n.s),PV.own 2 [],PV.omap (List.map zBJ MM),I (F.getD 0 0),I (F.getD 1 0),I (F.getD 2 0),I (F.getD 3 0),I (F.getD 4 0),I (F.getD 5 0),I (F.getD 6 0),I (F.getD 7 0),I (Q.getD 0 0),I (Q.getD 1 0),I (Q.getD 2 0),I (Q.getD 3 0),I (Q.getD 4 0),I (Q.getD 5 0),I (Q.getD 6 0),I (Q.getD 7 0)]).box [] 0 (6+i) 1=some (true,[I (F.getD i 0)])) an)<|zAc 1<|zAa<|zDn (F.getD k 0=F.getD i 0) (fun k1=>(zAg<|zAc 6<|S_a [(2,.ob),(1,.v (PV.addr 5 [] 0 (14+i) none))] (ap ((by exact zAq (by omega)):decide (i<8)=true)<|ap ((zFq (by kernel_rfl)):PV.addr 5 [] 0 (14+i*(fun x=>x.size) Tryz.prog.types[3]) none=PV.addr 5 [] 0 (14+i) none) an)<|S_a [(0,.cs true ([I (Q.getD i 0)]))] (ap (zCu (q:=(PV.agg [I n.h,prs n.l,PV.sl (List.map ntV n.n),PV.sl (List.map zA5 n.s),PV.own 2 [],PV.omap (List.map zBJ MM),I (F.getD 0 0),I (F.getD 1 0),I (F.getD 2 0),I (F.getD 3 0),I (F.getD 4 0),I (F.getD 5 0),I (F.getD 6 0),I (F.getD 7 0),I (Q.getD 0 0),I (Q.getD 1 0),I (Q.getD 2 0),I (Q.getD 3 0),I (Q.getD 4 0),I (Q.getD 5 0),I (Q.getD 6 0),I (Q.getD 7 0)]).box) (xs:=[PV.agg [I n.h,prs n.l,PV.sl (List.map ntV n.n),PV.sl (List.map zA5 n.s),PV.own 2 [],PV.omap (List.map zBJ MM),I (F.getD 0 0),I (F.getD 1 0),I (F.getD 2 0),I (F.getD 3 0),I (F.getD 4 0),I (F.getD 5 0),I (F.getD 6 0),I (F.getD 7 0),I (Q.getD 0 0),I (Q.getD 1 0),I (Q.getD 2 0),I (Q.getD 3 0),I (Q.getD 4 0),I (Q.getD 5 0),I (Q.getD 6 0),I (Q.getD 7 0)]]) (x:=PV.agg [I n.h,prs n.l,PV.sl (List.map ntV n.n),PV.sl (List.map zA5 n.s),PV.own 2 [],PV.omap (List.map zBJ MM),I (F.getD 0 0),I (F.getD 1 0),I (F.getD 2 0),I (F.getD 3 0),I (F.getD 4 0),I (F.getD 5 0),I (F.getD 6 0),I (F.getD 7 0),I (Q.getD 0 0),I (Q.getD 1 0),I (Q.getD 2 0),I (Q.getD 3 0),I (Q.getD 4 0),I (Q.getD 5 0),I (Q.getD 6 0),I (Q.getD 7 0)]) rfl rfl (zKv (A:=[I n.h,prs n.l,PV.sl (List.map ntV n.n),PV.sl (List.map zA5 n.s),PV.own 2 [],PV.omap (List.map zBJ MM),I (F.getD 0 0),I (F.getD 1 0),I (F.getD 2 0),I (F.getD 3 0),I (F.getD 4 0),I (F.getD 5 0),I (F.getD 6 0),I (F.getD 7 0)]) (B:=[]) (F:=Q) (m:=8) (j:=i) (by first | rfl | exact zB9 (by kernel_rfl) | exact zB6 (by kernel_rfl) | (simp;done)) (by omega)):zAr 5 (PV.agg [I n.h,prs n.l,PV.sl (List.map ntV n.n),PV.sl (List.map zA5 n.s),PV.own 2 [],PV.omap (List.map zBJ MM),I (F.getD 0 0),I (F.getD 1 0),I (F.getD 2 0),I (F.getD 3 0),I (F.getD 4 0),I (F.getD 5 0),I (F.getD 6 0),I (F.getD 7 0),I (Q.getD 0 0),I (Q.getD 1 0),I (Q.getD 2 0),I (Q.getD 3 0),I (Q.getD 4 0),I (Q.getD 5 0),I (Q.getD 6 0),I (Q.getD 7 0)]).box [] 0 (14+i) 1=some (true,[I (Q.getD i 0)])) an)<|zAc 2<|S_a [(9,.ret (I (max (Q.getD i 0) (↑k:Int))) [])] (ap (f165 (Q.getD i 0) ((↑k:Int))) an)<|zAc 2<|S_a [(2,.ob),(1,.v (PV.addr 5 [] 0 (14+i) none))] (ap ((by exact zAq (by omega)):decide (i<8)=true)<|ap ((zFq (by kernel_rfl)):PV.addr 5 [] 0 (14+i*(fun x=>x.size) Tryz.prog.types[3]) none=PV.addr 5 [] 0 (14+i) none) an)<|S_a [(8,.root ((PV.agg [I n.h,prs n.l,PV.sl (List.map ntV n.n),PV.sl (List.map zA5 n.s),PV.own 2 [],PV.omap (List.map zBJ MM),I (F.getD 0 0),I (F.getD 1 0),I (F.getD 2 0),I (F.getD 3 0),I (F.getD 4 0),I (F.getD 5 0),I (F.getD 6 0),I (F.getD 7 0),I ((Q.set i (max (Q.getD i 0) (↑k:Int))).getD 0 0),I ((Q.set i (max (Q.getD i 0) (↑k:Int))).getD 1 0),I ((Q.set i (max (Q.getD i 0) (↑k:Int))).getD 2 0),I ((Q.set i (max (Q.getD i 0) (↑k:Int))).getD 3 0),I ((Q.set i (max (Q.getD i 0) (↑k:Int))).getD 4 0),I ((Q.set i (max (Q.getD i 0) (↑k:Int))).getD 5 0),I ((Q.set i (max (Q.getD i 0) (↑k:Int))).getD 6 0),I ((Q.set i (max (Q.getD i 0) (↑k:Int))).getD 7 0)]).box) true)] (ap (zP8 (zKx (q:=(PV.agg [I n.h,prs n.l,PV.sl (List.map ntV n.n),PV.sl (List.map zA5 n.s),PV.own 2 [],PV.omap (List.map zBJ MM),I (F.getD 0 0),I (F.getD 1 0),I (F.getD 2 0),I (F.getD 3 0),I (F.getD 4 0),I (F.getD 5 0),I (F.getD 6 0),I (F.getD 7 0),I (Q.getD 0 0),I (Q.getD 1 0),I (Q.getD 2 0),I (Q.getD 3 0),I (Q.getD 4 0),I (Q.getD 5 0),I (Q.getD 6 0),I (Q.getD 7 0)]).box) (xs:=[PV.agg [I n.h,prs n.l,PV.sl (List.map ntV n.n),PV.sl (List.map zA5 n.s),PV.own 2 [],PV.omap (List.map zBJ MM),I (F.getD 0 0),I (F.getD 1 0),I (F.getD 2 0),I (F.getD 3 0),I (F.getD 4 0),I (F.getD 5 0),I (F.getD 6 0),I (F.getD 7 0),I (Q.getD 0 0),I (Q.getD 1 0),I (Q.getD 2 0),I (Q.getD 3 0),I (Q.getD 4 0),I (Q.getD 5 0),I (Q.getD 6 0),I (Q.getD 7 0)]]) (x:=PV.agg [I n.h,prs n.l,PV.sl (List.map ntV n.n),PV.sl (List.map zA5 n.s),PV.own 2 [],PV.omap (List.map zBJ MM),I (F.getD 0 0),I (F.getD 1 0),I (F.getD 2 0),I (F.getD 3 0),I (F.getD 4 0),I (F.getD 5 0),I (F.getD 6 0),I (F.getD 7 0),I (Q.getD 0 0),I (Q.getD 1 0),I (Q.getD 2 0),I (Q.getD 3 0),I (Q.getD 4 0),I (Q.getD 5 0),I (Q.getD 6 0),I (Q.getD 7 0)]) (y:=PV.agg [I n.h,prs n.l,PV.sl (List.map ntV n.n),PV.sl (List.map zA5 n.s),PV.own 2 [],PV.omap (List.map zBJ MM),I (F.getD 0 0),I (F.getD 1 0),I (F.getD 2 0),I (F.getD 3 0),I (F.getD 4 0),I (F.getD 5 0),I (F.getD 6 0),I (F.getD 7 0),I ((Q.set i (max (Q.getD i 0) (↑k:Int))).getD 0 0),I ((Q.set i (max (Q.getD i 0) (↑k:Int))).getD 1 0),I ((Q.set i (max (Q.getD i 0) (↑k:Int))).getD 2 0),I ((Q.set i (max (Q.getD i 0) (↑k:Int))).getD 3 0),I ((Q.set i (max (Q.getD i 0) (↑k:Int))).getD 4 0),I ((Q.set i (max (Q.getD i 0) (↑k:Int))).getD 5 0),I ((Q.set i (max (Q.getD i 0) (↑k:Int))).getD 6 0),I ((Q.set i (max (Q.getD i 0) (↑k:Int))).getD 7 0)]) (q':=(PV.agg [I n.h,prs n.l,PV.sl (List.map ntV n.n),PV.sl (List.map zA5 n.s),PV.own 2 [],PV.omap (List.map zBJ MM),I (F.getD 0 0),I (F.getD 1 0),I (F.getD 2 0),I (F.getD 3 0),I (F.getD 4 0),I (F.getD 5 0),I (F.getD 6 0),I (F.getD 7 0),I ((Q.set i (max (Q.getD i 0) (↑k:Int))).getD 0 0),I ((Q.set i (max (Q.getD i 0) (↑k:Int))).getD 1 0),I ((Q.set i (max (Q.getD i 0) (↑k:Int))).getD 2 0),I ((Q.set i (max (Q.getD i 0) (↑k:Int))).getD 3 0),I ((Q.set i (max (Q.getD i 0) (↑k:Int))).getD 4 0),I ((Q.set i (max (Q.getD i 0) (↑k:Int))).getD 5 0),I ((Q.set i (max (Q.getD i 0) (↑k:Int))).getD 6 0),I ((Q.set i (max (Q.getD i 0) (↑k:Int))).getD 7 0)]).box) rfl (zOJ (A:=[I n.h,prs n.l,PV.sl (List.map ntV n.n),PV.sl (List.map zA5 n.s),PV.own 2 [],PV.omap (List.map zBJ MM),I (F.getD 0 0),I (F.getD 1 0),I (F.getD 2 0),I (F.getD 3 0),I (F.getD 4 0),I (F.getD 5 0),I (F.getD 6 0),I (F.getD 7 0)]) (B:=[]) (F:=Q) (m:=8) (j:=i) (u:=max (Q.getD i 0) (↑k:Int)) (by first | rfl | exact zB9 (by kernel_rfl) | exact zB6 (by kernel_rfl) | (simp;done)) (by omega) (by omega)) rfl (hb:=zO4 (A:=[I n.h,prs n.l,PV.sl (List.map ntV n.n),PV.sl (List.map zA5 n.s),PV.own 2 [],PV.omap (List.map zBJ MM),I (F.getD 0 0),I (F.getD 1 0),I (F.getD 2 0),I (F.getD 3 0),I (F.getD 4 0),I (F.getD 5 0),I (F.getD 6 0),I (F.getD 7 0)]) (B:=[]) (F:=Q) (m:=8) (j:=i) (by first | rfl | exact zB9 (by kernel_rfl) | exact zB6 (by kernel_rfl) | (simp;done)) (by omega))) rfl:zBF (PV.agg [I n.h,prs n.l,PV.sl (List.map ntV n.n),PV.sl (List.map zA5 n.s),PV.own 2 [],PV.omap (List.map zBJ MM),I (F.getD 0 0),I (F.getD 1 0),I (F.getD 2 0),I (F.getD 3 0),I (F.getD 4 0),I (F.getD 5 0),I (F.getD 6 0),I (F.getD 7 0),I (Q.getD 0 0),I (Q.getD 1 0),I (Q.getD 2 0),I (Q.getD 3 0),I (Q.getD 4 0),I (Q.getD 5 0),I (Q.getD 6 0),I (Q.getD 7 0)]).box [] 0 (14+i) (I (max (Q.getD i 0) (↑k:Int))).cells=some (PV.agg [I n.h,prs n.l,PV.sl (List.map ntV n.n),PV.sl (List.map zA5 n.s),PV.own 2 [],PV.omap (List.map zBJ MM),I (F.getD 0 0),I (F.getD 1 0),I (F.getD 2 0),I (F.getD 3 0),I (F.getD 4 0),I (F.getD 5 0),I (F.getD 6 0),I (F.getD 7 0),I ((Q.set i (max (Q.getD i 0) (↑k:Int))).getD 0 0),I ((Q.set i (max (Q.getD i 0) (↑k:Int))).getD 1 0),I ((Q.set i (max (Q.getD i 0) (↑k:Int))).getD 2 0),I ((Q.set i (max (Q.getD i 0) (↑k:Int))).getD 3 0),I ((Q.set i (max (Q.getD i 0) (↑k:Int))).getD 4 0),I ((Q.set i (max (Q.getD i 0) (↑k:Int))).getD 5 0),I ((Q.set i (max (Q.getD i 0) (↑k:Int))).getD 6 0),I ((Q.set i (max (Q.getD i 0) (↑k:Int))).getD 7 0)]).box∧zAD (PV.agg [I n.h,prs n.l,PV.sl (List.map ntV n.n),PV.sl (List.map zA5 n.s),PV.own 2 [],PV.omap (List.map zBJ MM),I (F.getD 0 0),I (F.getD 1 0),I (F.getD 2 0),I (F.getD 3 0),I (F.getD 4 0),I (F.getD 5 0),I (F.getD 6 0),I (F.getD 7 0),I (Q.getD 0 0),I (Q.getD 1 0),I (Q.getD 2 0),I (Q.getD 3 0),I (Q.getD 4 0),I (Q.getD 5 0),I (Q.getD 6 0),I (Q.getD 7 0)]).box (PV.agg [I n.h,prs n.l,PV.sl (List.map ntV n.n),PV.sl (List.map zA5 n.s),PV.own 2 [],PV.omap (List.map zBJ MM),I (F.getD 0 0),I (F.getD 1 0),I (F.getD 2 0),I (F.getD 3 0),I (F.getD 4 0),I (F.getD 5 0),I (F.getD 6 0),I (F.getD 7 0),I ((Q.set i (max (Q.getD i 0) (↑k:Int))).getD 0 0),I ((Q.set i (max (Q.getD i 0) (↑k:Int))).getD 1 0),I ((Q.set i (max (Q.getD i 0) (↑k:Int))).getD 2 0),I ((Q.set i (max (Q.getD i 0) (↑k:Int))).getD 3 0),I ((Q.set i (max (Q.getD i 0) (↑k:Int))).getD 4 0),I ((Q.set i (max (Q.getD i 0) (↑k:Int))).getD 5 0),I ((Q.set i (max (Q.getD i 0) (↑k:Int))).getD 6 0),I ((Q.set i (max (Q.getD i 0) (↑k:Int))).getD 7 0)]).box []=true) an)<|zAa<|zAg<|S_a [(1,.v (I (↑(k+1):Int)))] (ap (wrN k) an)<|zAc 1<|zAa ?_)) (fun k1=>(zAm<|zAg<|S_a [(1,.v (I (↑(k+1):Int)))] (ap (wrN k) an)<|zAc 1<|zAa ?_))
     ·rw [zP6,if_pos (by assumption)] at jI
      exact ⟨(k+1,Q.set i (max (Q.getD i 0) k)),⟨by omega,jI.symm⟩,by simp only;omega,by kernel_rfl,by kernel_rfl⟩
     ·rw [zP6,if_neg (by assumption)] at jI
      exact ⟨(k+1,Q),⟨by omega,jI.symm⟩,by simp only;omega,by kernel_rfl,by kernel_rfl⟩
    ·refine zAd 1<|zAa<|zAh<|zBd ((↑k:Int)<(↑n.n.length:Int)) (by omega)<|zAM 6<|zAg<|S_a [(1,.v (I (↑(i+1):Int)))] (ap (wrN i) an)<|zAc 1<|zAa ?_
     exact ⟨(i+1,Q),⟨by omega,by rw [yJ,hQ,show k=n.n.length by omega]⟩,by simp only;omega,by kernel_rfl,by kernel_rfl⟩
   ·refine zAd 1<|zAa<|zAh<|zBd ((↑i:Int)<(↑n.n.length:Int)) (by omega)<|zAM 4<|zAd 1<|zAc 1<|zAc 1<|zAa<|zAn<|E_a [] an (PV.tup [(PV.agg [I n.h,prs n.l,PV.sl (List.map ntV n.n),PV.sl (List.map zA5 n.s),PV.own 2 [],PV.omap (List.map zBJ MM),I (F.getD 0 0),I (F.getD 1 0),I (F.getD 2 0),I (F.getD 3 0),I (F.getD 4 0),I (F.getD 5 0),I (F.getD 6 0),I (F.getD 7 0),I (L.getD 0 0),I (L.getD 1 0),I (L.getD 2 0),I (L.getD 3 0),I (L.getD 4 0),I (L.getD 5 0),I (L.getD 6 0),I (L.getD 7 0)]).box,I 0]) [] ?_ rfl
    rw [hL,show i=n.n.length by omega]
end
end Go.Eng
set_option maxRecDepth 10000
set_option maxHeartbeats 4000000
namespace Go.Eng
open Go Go.Proofs
abbrev mapM (M:List (Int×Int)):PV := .map (M.map zBJ)
abbrev zDT (n:Nw) (cs:List (Int×Int)):PV := .ref (zCS n (prs cs) (mapM (n.l.map pr2)) (zAi n) (zBo n))
def zIn (n:Nw) (c:Int×Int):Bool:=inB c.1 0 (n.n.length-1)&&inB c.2 0 (n.s.length-1)
def zPj (n:Nw) (cs:List (Int×Int)):Int:=if zGA n=0 then if (cs.length:Int)>16 then 2 else if (!cs.all fun c=>zIn n c)=true then 1 else 0 else zGA n
def zP5 (n:Nw) (cs:List (Int×Int)) (e:Int):Int:=if zPj n cs=0 then if inB e 0 12=true then 0 else 3 else zPj n cs
structure CrOk (n:Nw) (cs:List (Int×Int)):Prop where
 err:zPj n cs=0
 nw:NwOk n
 len:cs.length≤16
 cs:∀ c∈cs,(0≤c.1∧c.1<n.n.length)∧(0≤c.2∧c.2<n.s.length)
structure CrW (n:Nw) (cs:List (Int×Int)):Prop where
 nw:NwOk n
 len:cs.length≤1000
 cs:∀ c∈cs,(0≤c.1∧c.1<n.n.length)∧(0≤c.2∧c.2<n.s.length)
theorem CrOk.w {n:Nw} {cs:List (Int×Int)} (h:CrOk n cs):CrW n cs:=⟨h.nw,by have:=h.len;omega,h.cs⟩
theorem zWh {n:Nw} {cs:List (Int×Int)} (he:zPj n cs=0):CrOk n cs:=by
 have he0:=he
 unfold zPj at he
 split at he
 case isFalse h=>exact absurd he h
 rename_i c1
 split at he
 ·cases he
 split at he
 ·cases he
 rename_i c2 c3
 simp only [Bool.not_eq_true,Bool.not_eq_false',List.all_eq_true] at c3
 refine ⟨he0,zU8 c1,by omega,fun c hc=>?_⟩
 have:=c3 c hc
 simp only [zIn,Bool.and_eq_true] at this
 have b1:=zFM this.1
 have b2:=zFM this.2
 omega
structure EvOk (n:Nw) (cs:List (Int×Int)) (e:Int):Prop where
 err:zP5 n cs e=0
 cr:CrOk n cs
 ev:0≤e∧e≤12
theorem zSR {n:Nw} {cs:List (Int×Int)} {e:Int} (he:zP5 n cs e=0):EvOk n cs e:=by
 have he0:=he
 unfold zP5 at he
 split at he
 case isFalse h=>exact absurd he h
 rename_i c1
 split at he
 ·rename_i h;exact ⟨he0,zWh c1,zFM h⟩
 ·cases he
section
variable [Yo]
theorem f170 (n:Nw) (x:Int) (hb:n.s.length≤6):FG 170 [nwV n,I x] (.bool (inB x 0 (n.s.length-1))):=by
 refine zAe Tryz.f170 ?_
 refine zAd 2<|zAa<|zAd 3<|S_a [(0,.n n.s.length)] (ap (lnS zA5 n.s) an)<|S_a [(1,.v (I ((↑n.s.length:Int)-1)))] (ap ((zCr rfl (by omega)):I (IntKind.i64.wrap ((↑n.s.length:Int)-1))=I ((↑n.s.length:Int)-1)) an)<|S_a [(10,.ret (PV.bool (inB x 0 ((↑n.s.length:Int)-1))) [])] (ap (f107 x (0) ((↑n.s.length:Int)-1)) an)<|zAc 1<|zAa<|zAn<|E_a [] an (PV.bool (inB x 0 ((↑n.s.length:Int)-1))) [] rfl rfl
theorem f118 (n:Nw) (c:Int×Int) (cp:PV) (M:List (Int×Int)) (F L:List Int) (ho:NwOk n):FG 118 [.ref (zCS n cp (mapM M) F L),prV c] (.bool (zIn n c)):=by
 have h1:=ho.nl.2
 have h2:=ho.sl.2
 refine zAe Tryz.f118 ?_
 refine zAd 2<|zAa<|zAd 6<|S_a [(8,.ret (PV.bool (inB c.fst 0 ((↑n.n.length:Int)-1))) [])] (ap (f106 n c.fst (by omega)) an)<|zAc 1<|zGh 12 (inB c.fst 0 ((↑n.n.length:Int)-1)) (fun k0=>(zAc 6<|S_a [(8,.ret (PV.bool (inB c.snd 0 ((↑n.s.length:Int)-1))) [])] (ap (f170 n c.snd (by omega)) an)<|zAc 2<|zAa<|zAn<|E_a [] an (PV.bool (inB c.snd 0 ((↑n.s.length:Int)-1))) [] ?_ rfl)) (fun k0=>(zAc 9<|zAa<|zAn<|E_a [] an (PV.bool false) [] ?_ rfl))
 ·simp only [zIn,k0,Bool.true_and]
 ·simp only [zIn,k0,Bool.false_and]
theorem f204_1 (n:Nw) (M:List (Int×Int)) (F L:List Int) (ho:NwOk n) (x:Int×Int):FG 204 [prV x,.ref (.func 118 [.ref (zCS n (.sl []) (mapM M) F L)] [])] (.bool (!(zIn n x))):=by
 refine zAe Tryz.f204 ?_
 refine zAd 2<|zAa<|zAd 2<|S_a [(7,.ret (PV.bool (zIn n x)) [])] (ap (f118 n x (PV.sl []) M F L (by omega)) an)<|zAc 2<|zAa<|zAn<|E_a [] an (PV.bool !zIn n x) [] rfl rfl
theorem f203_1 (n:Nw) (M:List (Int×Int)) (F L:List Int) (ho:NwOk n) (l:List (Int×Int)) (hl:l.length<4294967296):FG 203 [.sl (l.map prV),.func 204 [] [.ref (.func 118 [.ref (zCS n (.sl []) (mapM M) F L)] [])]] (I (zEC (fun x => !(zIn n x)) l)):=by
 refine zAe Tryz.f203 ?_
 refine zAd 1<|zAa<|zAh<|zAd 1<|S_a [(0,.n l.length)] (ap (lnS prV l) an)<|zAc 1<|zAa<|zAk 0 ?_
 refine zAy (fun i=>i≤l.length∧∀ j,j<i→(fun x => !(zIn n x)) (l.getD j default)=false) (fun i=>[(8,I (i:Nat))]) (fun i=>l.length-i) (0:Nat) (by simp) fun i ⟨hi,ha⟩=>?_
 refine zAd 1<|zAa<|zAh<|zDn ((↑i:Int)<(↑l.length:Int)) (fun k0=>(zAm<|zAh<|zAk 1<|zAd 2<|zAa<|zAd 3<|S_a [(2,.v (PV.agg [I (l.getD i default).fst,I (l.getD i default).snd]))] (ap (zCh default (by omega):(List.map prV l)[i]? = some (PV.agg [I (l.getD i default).fst,I (l.getD i default).snd])) an)<|zAc 1<|S_a [(7,.ret (PV.bool !zIn n (l.getD i default)) [])] (ap (f204_1 n M F L (by omega) (l.getD i default)) an)<|zAa<|zGb (!zIn n (l.getD i default)) (fun k1=>(zAd 2<|zAa<|zAn<|E_a [] an (I (↑i:Int)) [] ?_ rfl)) (fun k1=>(zAm<|zAg<|S_a [(1,.v (I (↑(i+1):Int)))] (ap (wrN i) an)<|zAc 1<|zAa ?_)))) (fun k0=>(zAM 0<|zAd 1<|zAa<|zAn<|E_a [] an (I (-1)) [] ?_ rfl))
 ·rw [zB5 (i:=i) (by omega) (fun j hj=>by rw [← zAB (d:=default)];exact ha j hj) (by rw [← zAB (d:=default)];first | assumption | exact decide_eq_true ‹_› | (simp only [Bool.not_eq_true',decide_eq_false_iff_not];assumption))]
 ·refine ⟨i+1,⟨by omega,fun j hj=>?_⟩,by omega,by kernel_rfl,by kernel_rfl⟩
  rcases Nat.lt_succ_iff_lt_or_eq.1 hj with h | rfl
  ·exact ha j h
  ·first | assumption | exact decide_eq_false ‹_› | (simp only [Bool.not_eq_false',decide_eq_true_eq];first | assumption | (apply Decidable.of_not_not;assumption))
 ·rw [zCy fun j hj=>by rw [← zAB (d:=default)];exact ha j (by omega)]
theorem f159_1 (n:Nw) (M:List (Int×Int)) (F L:List Int) (ho:NwOk n) (l:List (Int×Int)) (hl:l.length<4294967296):FG 159 [.sl (l.map prV),.func 204 [] [.ref (.func 118 [.ref (zCS n (.sl []) (mapM M) F L)] [])]] (.bool (l.any (fun x => !(zIn n x)))):=by
 refine zAe Tryz.f159 ?_
 refine zAd 1<|zAa<|zAd 2<|S_a [(7,.ret (I (zEC (fun x => !zIn n x) l)) [])] (ap (f203_1 n M F L (by omega) l (by omega)) an)<|zAc 2<|zAa<|zAn<|E_a [] an (PV.bool (decide (zEC (fun x => !zIn n x) l≥0))) [] ?_ rfl
 rw [zD9]
theorem f164_1 (n:Nw) (M:List (Int×Int)) (F L:List Int) (ho:NwOk n) (l:List (Int×Int)) (hl:l.length<4294967296):FG 164 [.sl (l.map prV),.func 118 [.ref (zCS n (.sl []) (mapM M) F L)] []] (.bool (l.all (fun x=>zIn n x))):=by
 refine zAe Tryz.f164 ?_
 refine zAd 2<|zAa<|zAd 2<|S_a [(12,.ret (PV.bool (l.any fun x => !zIn n x)) [])] (ap (f159_1 n M F L (by omega) l (by omega)) an)<|zAc 2<|zAa<|zAn<|E_a [] an (PV.bool !l.any fun x => !zIn n x) [] ?_ rfl
 simp [List.not_any_eq_all_not]
theorem f99_1 (n:Nw) (cs:List (Int×Int)) (ho:CrOk n cs):FG 99 [nwV n,prs cs] (.tup [zDT n cs,I 0]):=by
 have hn:=ho.nw
 have hl:=ho.len
 have ha:(!cs.all fun c=>zIn n c)=false:=by
  simp only [Bool.not_eq_false',List.all_eq_true]
  intro c hc
  have:=ho.cs c hc
  simp only [zIn,inB,Bool.and_eq_true,decide_eq_true_eq];omega
 refine zAe Tryz.f99 ?_
 refine zAd 3<|zAa<|zAd 1<|S_a [(6,.ret (PV.tup [(zCS n (PV.own 2 []) (zWb (List.map pr2 n.l)) (zAi n) (zBo n)).box,I 0]) [])] (ap (f139_1 n (by omega)) an)<|zAc 5<|zAa<|zAh<|zAk 0<|zAd 3<|zAa<|zAH<|zAd 1<|S_a [(0,.n cs.length)] (ap (lnS prV cs) an)<|zAc 2<|zAa<|zBd ((↑cs.length:Int)>16) (by omega)<|zAd 3<|S_a [(13,.ret (PV.bool (cs.all fun x=>zIn n x)) [])] (ap (f164_1 n (List.map pr2 n.l) (zAi n) (zBo n) (by omega) cs (by omega)) an)<|zAc 2<|zAa<|zGb (!cs.all fun x=>zIn n x) (fun k0=>(zAd 2<|zAa<|zAn<|E_a [] an (PV.tup [PV.nilp,I 1]) [] ?_ rfl)) (fun k0=>(zAm<|zAd 5<|zAa<|zAd 1<|zAc 1<|zAc 1<|zAa<|zAn<|E_a [] an (PV.tup [(PV.agg (I n.h::prs n.l::PV.sl (List.map ntV n.n)::PV.sl (List.map zA5 n.s)::prs cs::PV.map (List.map zBJ (List.map pr2 n.l))::(zAX (zAi n) 8++zAX (zBo n) 8))).ref,I 0]) [] rfl rfl))
 rw [ha] at k0;cases k0
theorem f90_1 (n:Nw) (cs:List (Int×Int)) (e:Int) (ho:EvOk n cs e):FG 90 [nwV n,prs cs,I e] (.tup [zDT n cs,I 0]):=by
 have hc:=ho.cr
 have he:inB e 0 12=true:=by have:=ho.ev;simp only [inB,Bool.and_eq_true,decide_eq_true_eq];omega
 refine zAe Tryz.f90 ?_
 refine zAd 3<|zAa<|zAd 2<|S_a [(8,.ret (PV.tup [zDT n cs,I 0]) [])] (ap (f99_1 n cs (by omega)) an)<|zAc 5<|zAa<|zAh<|zAd 4<|S_a [(10,.ret (PV.bool (inB e 0 12)) [])] (ap (f107 e (0) (12)) an)<|zAc 2<|zAa<|zGb (!inB e 0 12) (fun k0=>(zAg<|zAc 1<|zAa<|zAh<|zAd 2<|zAa<|zDW<|zAd 3<|zAa<|zAn<|E_a [] an (PV.tup [PV.nilp,I 3]) [] ?_ rfl)) (fun k0=>(zAm<|zAh<|zAd 2<|zAa<|zAH<|zAm<|zAd 3<|zAa<|zAn<|E_a [] an (PV.tup [(PV.agg (I n.h::prs n.l::PV.sl (List.map ntV n.n)::PV.sl (List.map zA5 n.s)::prs cs::PV.map (List.map zBJ (List.map pr2 n.l))::(zAX (zAi n) 8++zAX (zBo n) 8))).ref,I 0]) [] rfl rfl))
 rw [he] at k0;cases k0
theorem f140 (n:Nw) (cp:PV) (M:List (Int×Int)) (F L:List Int) (ho:NwOk n) (h:Int) (s:Int) (hs:0≤s∧s<n.s.length):FG 140 [.ref (zCS n cp (mapM M) F L),I h,I s] (.bool (has (n.s.getD s.toNat []) h)):=by
 have h1:=zBU (d:=[]) ho.rows s.toNat (by omega)
 refine zAe Tryz.f140 ?_
 refine zAd 1<|zAa<|zAd 6<|S_a [(0,.ob),(1,.v (zA5 (n.s.getD s.toNat [])))] (ap ((by exact zAq (by omega)):decide (0≤s)=true)<|ap (zCh [] (by omega):(List.map zA5 n.s)[s.toNat]? = some (zA5 (n.s.getD s.toNat []))) an)<|zAc 2<|S_a [(8,.ret (PV.bool (has (n.s.getD s.toNat []) h)) [])] (ap (f58 (n.s.getD s.toNat []) h (by omega)) an)<|zAc 1<|zAa<|zAn<|E_a [] an (PV.bool (has (n.s.getD s.toNat []) h)) [] rfl rfl
theorem f116 (n:Nw) (cs:List (Int×Int)) (h:Int):FG 116 [zDT n cs,I h] (.func 169 [] [.ref (zDT n cs),.ref (I h)]):=by
 refine zAe Tryz.f116 ?_
 refine zAd 3<|zAa<|zAd 2<|zAa<|zAn<|E_a [] an (PV.func 169 [] [(PV.agg (I n.h::prs n.l::PV.sl (List.map ntV n.n)::PV.sl (List.map zA5 n.s)::prs cs::PV.map (List.map zBJ (List.map pr2 n.l))::(zAX (zAi n) 8++zAX (zBo n) 8))).ref.ref,(I h).ref]) [] rfl rfl
end
def zEw (n:Nw) (a b:Int):Bool:=decide (pr2 (a,b)∈n.l.map pr2)
def zHA (n:Nw) (h:Nat) (o:Nat):List Nat:=(List.range o).filter fun o=>zEw n h o
theorem zMl {n:Nw} {h o:Nat}:zHA n h (o+1)=if zEw n h o=true then zHA n h o++[o] else zHA n h o:=by
 unfold zHA;rw [List.range_succ,List.filter_append]
 by_cases hn:zEw n h o=true
 ·rw [if_pos hn];simp [hn]
 ·rw [if_neg hn];simp [hn]
theorem zTc {n:Nw} {h t m:Nat} (ht:t≤m):zHA n h t <+: zHA n h m:=by
  induction ht with
  | refl=>exact List.prefix_refl _
  | step _ ih => rw [zMl];split
                 · exact ih.trans (List.prefix_append _ _)
                 · exact ih
theorem zSV {α:Type} {x y:List α} (h:x <+: y) {k:Int} (hk:k=x.length):x=y.take k.toNat:=by
 rw [hk,Int.toNat_natCast];exact List.prefix_iff_eq_take.1 h
abbrev zJv (n:Nw) (h o:Nat):List (List PV):=(zHA n h o).map fun (o:Nat)=>[I o]
abbrev zR9 (n:Nw) (cs:List (Int×Int)) (h:Nat):List PV:=[.ref (zDT n cs),.ref (I h)]
theorem zUR [Yo] (n:Nw) (cs:List (Int×Int)) (h:Nat) (ho:NwOk n) (hh:(h:Int)<n.h) (k:Int) (hk:k = -1∨1≤k∧k≤(zHA n h n.h.toNat).length) (i:Nat):W Tryz.prog zCD 169 Tryz.f169.ntmps (Tryz.f169.body.getD .ret) (zBb ([]++PV.yld i::zR9 n cs h) []) (some ⟨[],k,i⟩) fun x _ lg=>(x = .norm∨x = .ret)∧lg.map (·.xs)=some (if k = -1 then zJv n h n.h.toNat else (zJv n h n.h.toNat).take k.toNat):=by
 have hb:=ho.h
 refine zAd 6<|zAa<|zAk 0 ?_
 refine zVH (fun (o,xs,kc)=>o≤n.h.toNat∧xs=zJv n h o∧kc=k-xs.length∧(k = -1∨1≤kc)) (fun (o,_,_)=>[(10,I (o:Nat))]) (fun (_,xs,kc)=>some ⟨xs,kc,i⟩) (fun (o,_,_)=>n.h.toNat-o) ((0:Nat),([]:List (List PV)),k) ⟨Nat.zero_le _,rfl,by simp,by omega⟩ fun (o,xs,kc) ⟨hr,jZ,hkc,jR⟩=>?_
 by_cases hol:(o:Int)<n.h
 ·have uO:=zMl (n:=n) (h:=h) (o:=o)
  by_cases hI:zEw n h o=true
  ·rw [if_pos hI] at uO
   have LE:pr2 ((h:Int),(o:Int))∈n.l.map pr2:=by simpa [zEw] using hI
   obtain ⟨j,hj,jK⟩:=zQN LE
   have kJ:zI2 ((n.l.map pr2).map zBJ) j=some (.bool true):=by
    have:j<n.l.length:=by simpa using hj
    simp [zI2,this]
   have qi:xs++[[I o]]=zJv n h (o+1):=by rw [zJv,uO,List.map_append,jZ];rfl
   have ud:xs++[[I o]] <+: zJv n h n.h.toNat:=by rw [qi];exact (zTc (by omega)).map _
   refine zAd 1<|zAa<|zAh<|zA3 ((↑o:Int)<n.h) (by omega)<|zAm<|zAh<|zAk 1<|zAd 2<|zAa<|zAd 7<|S_a [(6,.ret (prV (pr2 ((↑h:Int),(↑o:Int)))) [])] (ap (f110 (((↑h:Int),(↑o:Int)))) an)<|S_a [(2,.ix (some j)),(0,.v (PV.bool true))] (ap jK<|ap (kJ:zI2 (List.map zBJ (List.map pr2 n.l)) j=some (PV.bool true)) an)<|zAc 3 ?_
   refine zVa kc xs [I o] i (fun hk3=>?_) (fun hk3=>?_) (by omega)
   ·refine zAc 2<|zAa<|zDW<|zAn ?_
    refine ⟨.inr rfl,?_⟩
    have wc:k=(xs++[[I (o:Int)]]).length:=by simp;omega
    have jR:¬ k = -1:=by omega
    rw [if_neg jR,← zSV ud wc];show Option.map _ _=_;kernel_rfl
   ·refine zAc 2<|zAa<|zAH<|zAm<|zAg<|S_a [(1,.v (I (↑(o+1):Int)))] (ap (wrN o) an)<|zAc 1<|zAa ?_
    exact ⟨(o+1,xs++[[I o]],kc-1),⟨by omega,qi,by simp;omega,by omega⟩,by simp only;omega,by kernel_rfl,by kernel_rfl⟩
  ·rw [if_neg hI] at uO
   have LE:pr2 ((h:Int),(o:Int))∉n.l.map pr2:=by simpa [zEw] using hI
   have jK:=zKY LE
   refine zAd 1<|zAa<|zAh<|zA3 ((↑o:Int)<n.h) (by omega)<|zAm<|zAh<|zAk 1<|zAd 2<|zAa<|zAd 7<|S_a [(6,.ret (prV (pr2 ((↑h:Int),(↑o:Int)))) [])] (ap (f110 (((↑h:Int),(↑o:Int)))) an)<|S_a [(2,.ix none)] (ap jK an)<|zAc 6<|zAa<|zAH<|zAm<|zAg<|S_a [(1,.v (I (↑(o+1):Int)))] (ap (wrN o) an)<|zAc 1<|zAa ?_
   exact ⟨(o+1,xs,kc),⟨by omega,by rw [zJv,uO];exact jZ,hkc,jR⟩,by simp only;omega,by kernel_rfl,by kernel_rfl⟩
 ·have e:o=n.h.toNat:=by omega
  subst e
  have hZ:xs.length=(zHA n h n.h.toNat).length:=by rw [jZ];simp
  have jR:k = -1:=by omega
  refine zAd 1<|zAa<|zAh<|zBd ((↑n.h.toNat:Int)<n.h) (by omega)<|zAM 0 ?_
  refine ⟨.inl rfl,?_⟩
  rw [if_pos jR,← jZ];show Option.map _ _=_;kernel_rfl
theorem zZG (n:Nw) (cs:List (Int×Int)) (h:Nat) (ho:NwOk n) (hh:(h:Int)<n.h) (k:Int) (hk:k = -1∨1≤k∧k≤(zHA n h n.h.toNat).length):@zSI (yo1 Tryz.prog zCD) 169 [] (zR9 n cs h) k (if k = -1 then zJv n h n.h.toNat else (zJv n h n.h.toNat).take k.toNat) :=
 zTM Tryz.f169 (fun i=>@zUR yo0 n cs h ho hh k hk i) (by omega)
noncomputable instance nwYo:Yo:=yo1 Tryz.prog zCD
theorem zUh (n:Nw) (cs:List (Int×Int)) (h:Nat) (ho:NwOk n) (hh:(h:Int)<n.h):zGa 169 [] (zR9 n cs h) (zJv n h n.h.toNat):=by
 refine ⟨?_,fun j h1 h2=>?_⟩
 ·have:=zZG n cs h ho hh (-1) (.inl rfl)
  rwa [if_pos rfl] at this
 ·have:=zZG n cs h ho hh (j:Int) (.inr ⟨by omega,by simpa using h2⟩)
  rw [if_neg (by omega)] at this
  exact this
end Go.Eng
