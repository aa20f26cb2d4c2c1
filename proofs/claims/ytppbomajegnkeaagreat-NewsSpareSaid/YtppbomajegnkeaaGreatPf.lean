/- For any news, cries and evenings the law NewsSpare ends in true: the cries that can be left out, or the error, are as specified; without conditions. -/
import Derived.Test.YtppbomajegnkeaaGreatPe
import Derived.Test.YtppbomajegnkeaaGreatPd
set_option linter.unusedVariables false
set_option linter.unusedSimpArgs false
set_option linter.unusedSectionVars false
set_option maxRecDepth 10000
set_option maxHeartbeats 4000000
namespace Go.Eng
open Go Go.Proofs
def zGF (h:Int) (x:Int×Int):Bool:=inB x.1 0 (h-1)&&inB x.2 0 (h-1)
def zHI (x:Int×Int):Bool:=decide (x.1≠x.2)
def zBt (h:Int) (l:List (Int×Int)):Int:=if (l.all fun x=>zGF h x)=true then if (l.all fun x=>zHI x)=true then if (l.map pr2).Nodup then 0 else 5 else 8 else 1
def zNg (l:List (Int×Bool)):Bool:=(List.range l.length).all fun i=>inB (l.getD i default).1 (-1) ((i:Int)-1)
def zLH (l:List (Int×Bool)) (i:Nat):Bool:=decide ((l.getD i default).1≠-1)&&(l.take i).any fun y=>decide (y.1=(l.getD i default).1)
def zCw (l:List (Int×Bool)):Int:=if zNg l=true then if (List.range l.length).any (zLH l)=true then 5 else 0 else 1
def zC7 (l:List Int):Bool:=zFA l&&decide ((zGE l).length=l.length)
def zIs (h:Int) (l:List Int):Bool:=l.all fun x=>inB x 0 (h-1)
def zCS (n:Nw):Int :=
 if (!inB n.h 1 10)=true then 2 else if (n.l.length:Int)>15 then 2 else if (!inB n.n.length 1 8)=true then 2 else if (!inB n.s.length 1 6)=true then 2
 else if zBt n.h n.l=0 then
  if zCw n.n=0 then
   if (!n.s.all fun x=>zIs n.h x)=true then 1 else if (!n.s.all fun x=>zC7 x)=true then 4 else 0
  else zCw n.n
 else zBt n.h n.l
theorem zWw {n lo hi:Int} (h:(!inB n lo hi)=false):lo≤n∧n≤hi:=by simpa [inB] using h
abbrev zBy (x:Int×Int):PV×PV:=(prV x,.bool true)
theorem zOF {M:List (Int×Int)} (x:Int×Int):zC1 Tryz.prog 87 (prV x) (M.map zBy) 0=some (M.findIdx? fun y=>decide (x=y)):=by
 rw [zMl (kx:=Prod.fst) (ky:=Prod.snd) (fun _=>rfl) (zQQ) x.1 x.2 M 0]
 simp [zWM]
theorem zRo {M:List (Int×Int)} {x:Int×Int} (h:x∈M):∃ j,j<M.length∧zC1 Tryz.prog 87 (prV x) (M.map zBy) 0=some (some j):=by
 rw [zOF]
 cases hf:M.findIdx? fun y=>decide (x=y) with
 | none =>
  rw [List.findIdx?_eq_none_iff] at hf
  have:=hf x h;simp at this
 | some j=>exact ⟨j,(List.findIdx?_eq_some_iff_getElem.1 hf).1,rfl⟩
theorem zLq {M:List (Int×Int)} {x:Int×Int} (h:x∉M):zC1 Tryz.prog 87 (prV x) (M.map zBy) 0=some none:=by
 rw [zOF,List.findIdx?_eq_none_iff.2]
 intro y hy
 simp only [decide_eq_false_iff_not]
 intro e;subst e;exact h hy
structure Small (n:Nw):Prop where
 hl:n.l.length<1000000
 hn:n.n.length<1000000
 hs:n.s.length<1000000
 hr:∀ x∈n.s,x.length<1000000
section
variable [Yo]
theorem f196 (n:Nw) (x:Int×Int) (hb:1≤n.h∧n.h≤10):FG 196 [prV x,.ref (nwV n)] (.bool (zGF n.h x)):=by
 refine zAe Tryz.f196 ?_
 refine zAc 2<|zAa<|zAc 1<|zAd 1<|zAd 1<|S_a [(8,.ret (PV.bool (inB x.fst 0 (n.h-1))) [])] (ap (f109 n x.fst (by omega)) an)<|zAd 1<|zEi 8 (inB x.fst 0 (n.h-1)) (fun k0=>(zAd 1<|zAd 1<|zAd 1<|S_a [(8,.ret (PV.bool (inB x.snd 0 (n.h-1))) [])] (ap (f109 n x.snd (by omega)) an)<|zAd 2<|zAa<|zAn<|E_a [] an (PV.bool (inB x.snd 0 (n.h-1))) [] ?_ rfl)) (fun k0=>(zAd 6<|zAa<|zAn<|E_a [] an (PV.bool false) [] ?_ rfl))
 ·simp only [zGF,k0,Bool.true_and]
 ·simp only [zGF,k0,Bool.false_and]
theorem f197 (x:Int×Int):FG 197 [prV x] (.bool (zHI x)):=by
 refine zAe Tryz.f197 ?_
 refine zAc 2<|zAa<|zAc 1<|zAd 1<|zAd 1<|zAd 3<|zAa<|zAn<|E_a [] an (PV.bool (x.fst != x.snd)) [] ?_ rfl
 congr 1;rw [Bool.eq_iff_iff];simp [zHI]
theorem f199 (x y:Int×Bool):FG 199 [ntV y,.ref (ntV x)] (.bool (decide (y.1=x.1))):=by
 refine zAe Tryz.f199 ?_
 refine zAc 2<|zAa<|zAc 6<|zAa<|zAn<|E_a [] an (PV.bool (y.fst==x.fst)) [] rfl rfl
theorem f168_1 (n:Nw) (hb:1≤n.h∧n.h≤10) (x:Int):FG 168 [I x,.ref (.func 109 [nwV n] [])] (.bool (!(inB x 0 (n.h-1)))):=by
 refine zAe Tryz.f168 ?_
 refine zAc 1<|zAa<|zAc 2<|S_a [(8,.ret (PV.bool (inB x 0 (n.h-1))) [])] (ap (f109 n x (by omega)) an)<|zAd 2<|zAa<|zAn<|E_a [] an (PV.bool !inB x 0 (n.h-1)) [] rfl rfl
theorem f131_1 (n:Nw) (hb:1≤n.h∧n.h≤10) (l:List (Int)) (hl:l.length<4294967296):FG 131 [.sl (l.map I),.func 168 [] [.ref (.func 109 [nwV n] [])]] (I (zEF (fun x => !(inB x 0 (n.h-1))) l)):=by
 refine zAe Tryz.f131 ?_
 refine zAc 1<|zAa<|zAh<|zAc 1<|S_a [(0,.n l.length)] (ap (lnS I l) an)<|zAd 1<|zAa<|zAi 0 ?_
 refine zAq (fun i=>i≤l.length∧∀ j,j<i→(fun x => !(inB x 0 (n.h-1))) (l.getD j 0)=false) (fun i=>[(8,I (i:Nat))]) (fun i=>l.length-i) (0:Nat) (by simp) fun i ⟨hi,ha⟩=>?_
 refine zAc 1<|zAa<|zAh<|zB3 ((↑i:Int)<(↑l.length:Int)) (fun k0=>(zAk<|zAh<|zAi 1<|zAc 2<|zAa<|zAc 3<|S_a [(2,.v (I (l.getD i 0)))] (ap (zBJ (0) (by omega):(List.map I l)[i]? = some (I (l.getD i 0))) an)<|zAd 1<|S_a [(7,.ret (PV.bool !inB (l.getD i 0) 0 (n.h-1)) [])] (ap (f168_1 n (by omega) (l.getD i 0)) an)<|zAa<|zEb (!inB (l.getD i 0) 0 (n.h-1)) (fun k1=>(zAc 2<|zAa<|zAn<|E_a [] an (I (↑i:Int)) [] ?_ rfl)) (fun k1=>(zAk<|zAf<|S_a [(1,.v (I (↑(i+1):Int)))] (ap (wrN i) an)<|zAd 1<|zAa ?_)))) (fun k0=>(zAA 0<|zAc 1<|zAa<|zAn<|E_a [] an (I (-1)) [] ?_ rfl))
 ·rw [zBX (i:=i) (by omega) (fun j hj=>by rw [← zAt (d:=0)];exact ha j hj) (by rw [← zAt (d:=0)];first | assumption | exact decide_eq_true ‹_› | (simp only [Bool.not_eq_true',decide_eq_false_iff_not];assumption))]
 ·refine ⟨i+1,⟨by omega,fun j hj=>?_⟩,by omega,by kernel_rfl,by kernel_rfl⟩
  rcases Nat.lt_succ_iff_lt_or_eq.1 hj with h | rfl
  ·exact ha j h
  ·first | assumption | exact decide_eq_false ‹_› | (simp only [Bool.not_eq_false',decide_eq_true_eq];first | assumption | (apply Decidable.of_not_not;assumption))
 ·rw [zCn fun j hj=>by rw [← zAt (d:=0)];exact ha j (by omega)]
theorem f52_1 (n:Nw) (hb:1≤n.h∧n.h≤10) (l:List (Int)) (hl:l.length<4294967296):FG 52 [.sl (l.map I),.func 168 [] [.ref (.func 109 [nwV n] [])]] (.bool (l.any (fun x => !(inB x 0 (n.h-1))))):=by
 refine zAe Tryz.f52 ?_
 refine zAc 1<|zAa<|zAc 2<|S_a [(7,.ret (I (zEF (fun x => !inB x 0 (n.h-1)) l)) [])] (ap (f131_1 n (by omega) l (by omega)) an)<|zAd 2<|zAa<|zAn<|E_a [] an (PV.bool (decide (zEF (fun x => !inB x 0 (n.h-1)) l≥0))) [] ?_ rfl
 rw [zD1]
theorem f108_1 (n:Nw) (hb:1≤n.h∧n.h≤10) (l:List (Int)) (hl:l.length<4294967296):FG 108 [.sl (l.map I),.func 109 [nwV n] []] (.bool (l.all (fun x=>inB x 0 (n.h-1)))):=by
 refine zAe Tryz.f108 ?_
 refine zAc 2<|zAa<|zAc 2<|S_a [(12,.ret (PV.bool (l.any fun x => !inB x 0 (n.h-1))) [])] (ap (f52_1 n (by omega) l (by omega)) an)<|zAd 2<|zAa<|zAn<|E_a [] an (PV.bool !l.any fun x => !inB x 0 (n.h-1)) [] ?_ rfl
 simp [List.not_any_eq_all_not]
theorem f221_1 (n:Nw) (hb:1≤n.h∧n.h≤10) (x:Int×Int):FG 221 [prV x,.ref (.func 196 [] [.ref (nwV n)])] (.bool (!(zGF n.h x))):=by
 refine zAe Tryz.f221 ?_
 refine zAc 2<|zAa<|zAc 2<|S_a [(7,.ret (PV.bool (zGF n.h x)) [])] (ap (f196 n x (by omega)) an)<|zAd 2<|zAa<|zAn<|E_a [] an (PV.bool !zGF n.h x) [] rfl rfl
theorem f202_1 (n:Nw) (hb:1≤n.h∧n.h≤10) (l:List (Int×Int)) (hl:l.length<4294967296):FG 202 [.sl (l.map prV),.func 221 [] [.ref (.func 196 [] [.ref (nwV n)])]] (I (zEF (fun x => !(zGF n.h x)) l)):=by
 refine zAe Tryz.f202 ?_
 refine zAc 1<|zAa<|zAh<|zAc 1<|S_a [(0,.n l.length)] (ap (lnS prV l) an)<|zAd 1<|zAa<|zAi 0 ?_
 refine zAq (fun i=>i≤l.length∧∀ j,j<i→(fun x => !(zGF n.h x)) (l.getD j default)=false) (fun i=>[(8,I (i:Nat))]) (fun i=>l.length-i) (0:Nat) (by simp) fun i ⟨hi,ha⟩=>?_
 refine zAc 1<|zAa<|zAh<|zB3 ((↑i:Int)<(↑l.length:Int)) (fun k0=>(zAk<|zAh<|zAi 1<|zAc 2<|zAa<|zAc 3<|S_a [(2,.v (PV.agg [I (l.getD i default).fst,I (l.getD i default).snd]))] (ap (zBJ default (by omega):(List.map prV l)[i]? = some (PV.agg [I (l.getD i default).fst,I (l.getD i default).snd])) an)<|zAd 1<|S_a [(7,.ret (PV.bool !zGF n.h (l.getD i default)) [])] (ap (f221_1 n (by omega) (l.getD i default)) an)<|zAa<|zEb (!zGF n.h (l.getD i default)) (fun k1=>(zAc 2<|zAa<|zAn<|E_a [] an (I (↑i:Int)) [] ?_ rfl)) (fun k1=>(zAk<|zAf<|S_a [(1,.v (I (↑(i+1):Int)))] (ap (wrN i) an)<|zAd 1<|zAa ?_)))) (fun k0=>(zAA 0<|zAc 1<|zAa<|zAn<|E_a [] an (I (-1)) [] ?_ rfl))
 ·rw [zBX (i:=i) (by omega) (fun j hj=>by rw [← zAt (d:=default)];exact ha j hj) (by rw [← zAt (d:=default)];first | assumption | exact decide_eq_true ‹_› | (simp only [Bool.not_eq_true',decide_eq_false_iff_not];assumption))]
 ·refine ⟨i+1,⟨by omega,fun j hj=>?_⟩,by omega,by kernel_rfl,by kernel_rfl⟩
  rcases Nat.lt_succ_iff_lt_or_eq.1 hj with h | rfl
  ·exact ha j h
  ·first | assumption | exact decide_eq_false ‹_› | (simp only [Bool.not_eq_false',decide_eq_true_eq];first | assumption | (apply Decidable.of_not_not;assumption))
 ·rw [zCn fun j hj=>by rw [← zAt (d:=default)];exact ha j (by omega)]
theorem f156_1 (n:Nw) (hb:1≤n.h∧n.h≤10) (l:List (Int×Int)) (hl:l.length<4294967296):FG 156 [.sl (l.map prV),.func 221 [] [.ref (.func 196 [] [.ref (nwV n)])]] (.bool (l.any (fun x => !(zGF n.h x)))):=by
 refine zAe Tryz.f156 ?_
 refine zAc 1<|zAa<|zAc 2<|S_a [(7,.ret (I (zEF (fun x => !zGF n.h x) l)) [])] (ap (f202_1 n (by omega) l (by omega)) an)<|zAd 2<|zAa<|zAn<|E_a [] an (PV.bool (decide (zEF (fun x => !zGF n.h x) l≥0))) [] ?_ rfl
 rw [zD1]
theorem f195_1 (n:Nw) (hb:1≤n.h∧n.h≤10) (l:List (Int×Int)) (hl:l.length<4294967296):FG 195 [.sl (l.map prV),.func 196 [] [.ref (nwV n)]] (.bool (l.all (fun x=>zGF n.h x))):=by
 refine zAe Tryz.f195 ?_
 refine zAc 2<|zAa<|zAc 2<|S_a [(12,.ret (PV.bool (l.any fun x => !zGF n.h x)) [])] (ap (f156_1 n (by omega) l (by omega)) an)<|zAd 2<|zAa<|zAn<|E_a [] an (PV.bool !l.any fun x => !zGF n.h x) [] ?_ rfl
 simp [List.not_any_eq_all_not]
theorem f221_2  (x:Int×Int):FG 221 [prV x,.ref (.func 197 [] [])] (.bool (!(zHI x))):=by
 refine zAe Tryz.f221 ?_
 refine zAc 2<|zAa<|zAc 2<|S_a [(6,.ret (PV.bool (zHI x)) [])] (ap (f197 x) an)<|zAd 2<|zAa<|zAn<|E_a [] an (PV.bool !zHI x) [] rfl rfl
theorem f202_2  (l:List (Int×Int)) (hl:l.length<4294967296):FG 202 [.sl (l.map prV),.func 221 [] [.ref (.func 197 [] [])]] (I (zEF (fun x => !(zHI x)) l)):=by
 refine zAe Tryz.f202 ?_
 refine zAc 1<|zAa<|zAh<|zAc 1<|S_a [(0,.n l.length)] (ap (lnS prV l) an)<|zAd 1<|zAa<|zAi 0 ?_
 refine zAq (fun i=>i≤l.length∧∀ j,j<i→(fun x => !(zHI x)) (l.getD j default)=false) (fun i=>[(8,I (i:Nat))]) (fun i=>l.length-i) (0:Nat) (by simp) fun i ⟨hi,ha⟩=>?_
 refine zAc 1<|zAa<|zAh<|zB3 ((↑i:Int)<(↑l.length:Int)) (fun k0=>(zAk<|zAh<|zAi 1<|zAc 2<|zAa<|zAc 3<|S_a [(2,.v (PV.agg [I (l.getD i default).fst,I (l.getD i default).snd]))] (ap (zBJ default (by omega):(List.map prV l)[i]? = some (PV.agg [I (l.getD i default).fst,I (l.getD i default).snd])) an)<|zAd 1<|S_a [(7,.ret (PV.bool !zHI (l.getD i default)) [])] (ap (f221_2 (l.getD i default)) an)<|zAa<|zEb (!zHI (l.getD i default)) (fun k1=>(zAc 2<|zAa<|zAn<|E_a [] an (I (↑i:Int)) [] ?_ rfl)) (fun k1=>(zAk<|zAf<|S_a [(1,.v (I (↑(i+1):Int)))] (ap (wrN i) an)<|zAd 1<|zAa ?_)))) (fun k0=>(zAA 0<|zAc 1<|zAa<|zAn<|E_a [] an (I (-1)) [] ?_ rfl))
 ·rw [zBX (i:=i) (by omega) (fun j hj=>by rw [← zAt (d:=default)];exact ha j hj) (by rw [← zAt (d:=default)];first | assumption | exact decide_eq_true ‹_› | (simp only [Bool.not_eq_true',decide_eq_false_iff_not];assumption))]
 ·refine ⟨i+1,⟨by omega,fun j hj=>?_⟩,by omega,by kernel_rfl,by kernel_rfl⟩
  rcases Nat.lt_succ_iff_lt_or_eq.1 hj with h | rfl
  ·exact ha j h
  ·first | assumption | exact decide_eq_false ‹_› | (simp only [Bool.not_eq_false',decide_eq_true_eq];first | assumption | (apply Decidable.of_not_not;assumption))
 ·rw [zCn fun j hj=>by rw [← zAt (d:=default)];exact ha j (by omega)]
theorem f156_2  (l:List (Int×Int)) (hl:l.length<4294967296):FG 156 [.sl (l.map prV),.func 221 [] [.ref (.func 197 [] [])]] (.bool (l.any (fun x => !(zHI x)))):=by
 refine zAe Tryz.f156 ?_
 refine zAc 1<|zAa<|zAc 2<|S_a [(7,.ret (I (zEF (fun x => !zHI x) l)) [])] (ap (f202_2 l (by omega)) an)<|zAd 2<|zAa<|zAn<|E_a [] an (PV.bool (decide (zEF (fun x => !zHI x) l≥0))) [] ?_ rfl
 rw [zD1]
theorem f195_2  (l:List (Int×Int)) (hl:l.length<4294967296):FG 195 [.sl (l.map prV),.func 197 [] []] (.bool (l.all (fun x=>zHI x))):=by
 refine zAe Tryz.f195 ?_
 refine zAc 2<|zAa<|zAc 2<|S_a [(12,.ret (PV.bool (l.any fun x => !zHI x)) [])] (ap (f156_2 l (by omega)) an)<|zAd 2<|zAa<|zAn<|E_a [] an (PV.bool !l.any fun x => !zHI x) [] ?_ rfl
 simp [List.not_any_eq_all_not]
theorem f222_1 (y:Int) (yb:Bool) (l:List (Int×Bool)) (hl:l.length<4294967296):FG 222 [.sl (l.map ntV),.func 199 [] [.ref (.agg [I y,.bool yb])]] (I (zEF (fun x=>decide (x.1=y)) l)):=by
 refine zAe Tryz.f222 ?_
 refine zAc 1<|zAa<|zAh<|zAc 1<|S_a [(0,.n l.length)] (ap (lnS ntV l) an)<|zAd 1<|zAa<|zAi 0 ?_
 refine zAq (fun i=>i≤l.length∧∀ j,j<i→(fun x=>decide (x.1=y)) (l.getD j default)=false) (fun i=>[(8,I (i:Nat))]) (fun i=>l.length-i) (0:Nat) (by simp) fun i ⟨hi,ha⟩=>?_
 refine zAc 1<|zAa<|zAh<|zB3 ((↑i:Int)<(↑l.length:Int)) (fun k0=>(zAk<|zAh<|zAi 1<|zAc 2<|zAa<|zAc 3<|S_a [(2,.v (PV.agg [I (l.getD i default).fst,PV.bool (l.getD i default).snd]))] (ap (zBJ default (by omega):(List.map ntV l)[i]? = some (PV.agg [I (l.getD i default).fst,PV.bool (l.getD i default).snd])) an)<|zAd 1<|S_a [(7,.ret (PV.bool (decide ((l.getD i default).fst=(y,yb).fst))) [])] (ap (f199 ((y,yb)) (l.getD i default)) an)<|zAa<|zB3 ((l.getD i default).fst=(y,yb).fst) (fun k1=>(zAc 2<|zAa<|zAn<|E_a [] an (I (↑i:Int)) [] ?_ rfl)) (fun k1=>(zAk<|zAf<|S_a [(1,.v (I (↑(i+1):Int)))] (ap (wrN i) an)<|zAd 1<|zAa ?_)))) (fun k0=>(zAA 0<|zAc 1<|zAa<|zAn<|E_a [] an (I (-1)) [] ?_ rfl))
 ·rw [zBX (i:=i) (by omega) (fun j hj=>by rw [← zAt (d:=default)];exact ha j hj) (by rw [← zAt (d:=default)];first | assumption | exact decide_eq_true ‹_› | (simp only [Bool.not_eq_true',decide_eq_false_iff_not];assumption))]
 ·refine ⟨i+1,⟨by omega,fun j hj=>?_⟩,by omega,by kernel_rfl,by kernel_rfl⟩
  rcases Nat.lt_succ_iff_lt_or_eq.1 hj with h | rfl
  ·exact ha j h
  ·first | assumption | exact decide_eq_false ‹_› | (simp only [Bool.not_eq_false',decide_eq_true_eq];first | assumption | (apply Decidable.of_not_not;assumption))
 ·rw [zCn fun j hj=>by rw [← zAt (d:=default)];exact ha j (by omega)]
theorem f198_1 (y:Int) (yb:Bool) (l:List (Int×Bool)) (hl:l.length<4294967296):FG 198 [.sl (l.map ntV),.func 199 [] [.ref (.agg [I y,.bool yb])]] (.bool (l.any (fun x=>decide (x.1=y)))):=by
 refine zAe Tryz.f198 ?_
 refine zAc 1<|zAa<|zAc 2<|S_a [(7,.ret (I (zEF (fun x=>decide (x.fst=y)) l)) [])] (ap (f222_1 y yb l (by omega)) an)<|zAd 2<|zAa<|zAn<|E_a [] an (PV.bool (decide (zEF (fun x=>decide (x.fst=y)) l≥0))) [] ?_ rfl
 rw [zD1]
theorem f150 (n:Nw) (hb:1≤n.h∧n.h≤10) (hl:n.l.length≤15):FG 150 [nwV n] (I (zBt n.h n.l)):=by
 refine zAe Tryz.f150 ?_
 refine zAc 2<|zAa<|zAh<|zAi 0<|zAc 3<|S_a [(13,.ret (PV.bool (n.l.all fun x=>zGF n.h x)) [])] (ap (f195_1 n (by omega) n.l (by omega)) an)<|zAd 2<|zAa<|zEb (!n.l.all fun x=>zGF n.h x) (fun k0=>(zAc 1<|zAa<|zAn<|E_a [] an (I 1) [] ?_ rfl)) (fun k0=>(zAc 2<|S_a [(7,.ret (PV.bool (n.l.all fun x=>zHI x)) [])] (ap (f195_2 n.l (by omega)) an)<|zAd 2<|zAa<|zEb (!n.l.all fun x=>zHI x) (fun k1=>(zAc 1<|zAa<|zAn<|E_a [] an (I 8) [] ?_ rfl)) (fun k1=>(zAk<|zAc 2<|zAa<|zAh<|zAc 2<|S_a [(0,.n n.l.length)] (ap (lnS prV n.l) an)<|zAd 1<|zAa<|zAi 1 ?_))))
 ·rw [Bool.not_eq_true'] at k0
  simp [zBt,k0]
 ·rw [Bool.not_eq_false'] at k0
  rw [Bool.not_eq_true'] at k1
  simp [zBt,k0,k1]
 ·refine zAq (fun (i,M)=>i≤n.l.length∧M=(n.l.take i).map pr2∧M.Nodup) (fun (i,M)=>[(3,.omap (M.map zBy)),(21,I (i:Nat))]) (fun (i,_)=>n.l.length-i) ((0:Nat),([]:List (Int×Int))) ⟨Nat.zero_le _,rfl,List.nodup_nil⟩ fun (i,M) ⟨hi,hM,hN⟩=>?_
  by_cases yI:i<n.l.length
  ·have yZ:(n.l.take (i+1)).map pr2=M++[pr2 (n.l.getD i default)]:=by rw [zB2 (d:=default) yI,List.map_append,← hM];rfl
   by_cases hin:pr2 (n.l.getD i default)∈M
   ·obtain ⟨j,hj,jK⟩:=zRo hin
    have jl:zJB (M.map zBy) j=some (.bool true):=by simp [zJB,hj]
    refine zAc 1<|zAa<|zAh<|zAU ((↑i:Int)<(↑n.l.length:Int)) (by omega)<|zAk<|zAh<|zAi 2<|zAh<|zAf<|S_a [(2,.v (PV.agg [I (n.l.getD i default).fst,I (n.l.getD i default).snd]))] (ap (zBJ default (by omega):(List.map prV n.l)[i]? = some (PV.agg [I (n.l.getD i default).fst,I (n.l.getD i default).snd])) an)<|zAd 3<|zAa<|zAh<|zAc 2<|S_a [(6,.ret (prV (pr2 (n.l.getD i default))) [])] (ap (f110 (n.l.getD i default)) an)<|S_a [(3,.ix (some j)),(0,.v (PV.bool true))] (ap jK<|ap (jl:zJB (List.map zBy M) j=some (PV.bool true)) an)<|zAa<|zBR<|zAc 1<|zAa<|zAn<|E_a [] an (I 5) [] ?_ rfl
    rw [Bool.not_eq_false'] at k0 k1
    have yW:¬ (n.l.map pr2).Nodup:=fun h=>by
     rw [← List.take_append_drop (i+1) n.l,List.map_append,yZ] at h
     have h2:=(List.nodup_append.1 h).1
     have h3:=(List.nodup_append.1 h2).2.2
     exact h3 _ hin _ (List.mem_singleton.2 rfl) rfl
    simp only [zBt,k0,k1,yW,if_true,if_false]
   ·have jK:=zLq hin
    refine zAc 1<|zAa<|zAh<|zAU ((↑i:Int)<(↑n.l.length:Int)) (by omega)<|zAk<|zAh<|zAi 2<|zAh<|zAf<|S_a [(2,.v (PV.agg [I (n.l.getD i default).fst,I (n.l.getD i default).snd]))] (ap (zBJ default (by omega):(List.map prV n.l)[i]? = some (PV.agg [I (n.l.getD i default).fst,I (n.l.getD i default).snd])) an)<|zAd 3<|zAa<|zAh<|zAc 2<|S_a [(6,.ret (prV (pr2 (n.l.getD i default))) [])] (ap (f110 (n.l.getD i default)) an)<|S_a [(3,.ix none)] (ap jK an)<|zAa<|zA0<|zAk<|zAf<|zAd 2<|S_a [(6,.ret (prV (pr2 (n.l.getD i default))) [])] (ap (f110 (n.l.getD i default)) an)<|S_a [(4,.ix none),(0,.v (PV.omap (List.map zBy (M++[pr2 (n.l.getD i default)]))))] (ap jK<|ap ((by simp):PV.omap (List.map zBy M++[(PV.agg [I (pr2 (n.l.getD i default)).fst,I (pr2 (n.l.getD i default)).snd],PV.bool true)])=PV.omap (List.map zBy (M++[pr2 (n.l.getD i default)]))) an)<|zAa<|zAf<|S_a [(1,.v (I (↑(i+1):Int)))] (ap (wrN i) an)<|zAd 1<|zAa ?_
    refine ⟨(i+1,M++[pr2 (n.l.getD i default)]),⟨by omega,yZ.symm,?_⟩,by simp only;omega,by kernel_rfl,by kernel_rfl⟩
    rw [List.nodup_append]
    refine ⟨hN,by simp,fun a ha b hb=>?_⟩
    rw [List.mem_singleton] at hb;subst hb
    intro e;subst e;exact hin ha
  ·refine zAc 1<|zAa<|zAh<|zAT ((↑i:Int)<(↑n.l.length:Int)) (by omega)<|zAA 1<|zAc 1<|zAa<|zAn<|E_a [] an (I 0) [] ?_ rfl
   rw [Bool.not_eq_false'] at k0 k1
   rw [List.take_of_length_le (by omega)] at hM
   rw [hM] at hN
   simp only [zBt,k0,k1,hN,if_true]
theorem f151 (n:Nw) (hl:n.n.length≤8):FG 151 [nwV n] (I (zCw n.n)):=by
 refine zAe Tryz.f151 ?_
 refine zAc 2<|zAa<|zAh<|zAc 2<|S_a [(0,.n n.n.length)] (ap (lnS ntV n.n) an)<|zAd 1<|zAa<|zAi 0 ?_
 refine zAq (fun i=>i≤n.n.length∧∀ j,j<i→inB (n.n.getD j default).1 (-1) ((j:Int)-1)=true) (fun i=>[(10,I (i:Nat))]) (fun i=>n.n.length-i) (0:Nat) ⟨Nat.zero_le _,fun j h=>absurd h (Nat.not_lt_zero _)⟩ fun i ⟨hi,ha⟩=>?_
 refine zAc 1<|zAa<|zAh<|zB3 ((↑i:Int)<(↑n.n.length:Int)) (fun k0=>(zAk<|zAh<|zAi 1<|zAc 1<|S_a [(2,.v (PV.agg [I (n.n.getD i default).fst,PV.bool (n.n.getD i default).snd]))] (ap (zBJ default (by omega):(List.map ntV n.n)[i]? = some (PV.agg [I (n.n.getD i default).fst,PV.bool (n.n.getD i default).snd])) an)<|zAd 4<|zAa<|zAc 3<|S_a [(1,.v (I ((↑i:Int)-1)))] (ap ((zDl rfl (by omega)):I (IntKind.i64.wrap ((↑i:Int)-1))=I ((↑i:Int)-1)) an)<|S_a [(10,.ret (PV.bool (inB (n.n.getD i default).fst (-1) ((↑i:Int)-1))) [])] (ap (f107 ((n.n.getD i default).fst) (-1) ((↑i:Int)-1)) an)<|zAd 1<|zAa<|zEb (!inB (n.n.getD i default).fst (-1) ((↑i:Int)-1)) (fun k1=>(zAc 1<|zAa<|zAn<|E_a [] an (I 1) [] ?_ rfl)) (fun k1=>(zAk<|zAf<|S_a [(1,.v (I (↑(i+1):Int)))] (ap (wrN i) an)<|zAd 1<|zAa ?_)))) (fun k0=>(zAA 0<|zAh<|zAc 2<|S_a [(0,.n n.n.length)] (ap (lnS ntV n.n) an)<|zAd 1<|zAa<|zAi 2 ?_))
 ·rw [Bool.not_eq_true'] at k1
  have:zNg n.n=false:=by
   simp only [zNg,List.all_eq_false]
   exact ⟨i,List.mem_range.2 (by omega),by simpa using k1⟩
  simp [zCw,this]
 ·rw [Bool.not_eq_false'] at k1
  refine ⟨i+1,⟨by omega,fun j hj=>?_⟩,by omega,by kernel_rfl,by kernel_rfl⟩
  rcases Nat.lt_succ_iff_lt_or_eq.1 hj with h | rfl
  ·exact ha j h
  ·exact k1
 ·have hin:zNg n.n=true:=by
   simp only [zNg,List.all_eq_true,List.mem_range]
   exact fun j hj=>ha j (by omega)
  clear ha
  refine zAq (fun i=>i≤n.n.length∧∀ j,j<i→zLH n.n j=false) (fun i=>[(25,I (i:Nat))]) (fun i=>n.n.length-i) (0:Nat) ⟨Nat.zero_le _,fun j h=>absurd h (Nat.not_lt_zero _)⟩ fun k ⟨hk,hb⟩=>?_
  have yZ:zLH n.n k=false→∀ j,j<k+1→zLH n.n j=false:=fun h j hj=>by
   rcases Nat.lt_succ_iff_lt_or_eq.1 hj with h2 | rfl
   ·exact hb j h2
   ·exact h
  refine zAc 1<|zAa<|zAh<|zB3 ((↑k:Int)<(↑n.n.length:Int)) (fun k2=>(zAk<|zAh<|zAi 3<|zAc 1<|S_a [(2,.v (PV.agg [I (n.n.getD k default).fst,PV.bool (n.n.getD k default).snd]))] (ap (zBJ default (by omega):(List.map ntV n.n)[k]? = some (PV.agg [I (n.n.getD k default).fst,PV.bool (n.n.getD k default).snd])) an)<|zAd 4<|zAa<|zAc 4<|zWL 33 ((n.n.getD k default).fst = -1) (fun k3=>(zAd 3<|S_a [(3,.ob),(0,.ob),(0,.v (PV.sl (List.map ntV (List.take k n.n))))] (ap ((by exact zBi (by simp only [List.length_map,zzLn,zAY]<;>omega)):k.ble (List.map ntV n.n).length=true)<|ap ((by exact all_map _):((List.map ntV n.n).all fun x=>x.cells.length.beq ((fun x=>x.size) Tryz.prog.types[99]))=true)<|ap ((by simp):PV.sl (List.take k (List.drop 0 (List.map ntV n.n)))=PV.sl (List.map ntV (List.take k n.n))) an)<|zAd 1<|S_a [(13,.ret (PV.bool ((List.take k n.n).any fun x=>decide (x.fst=(n.n.getD k default).fst))) [])] (ap (f198_1 ((n.n.getD k default).fst) ((n.n.getD k default).snd) (List.take k n.n) (by first | omega | (simp<;>omega))) an)<|zAd 1<|zAa<|zEb ((List.take k n.n).any fun x=>decide (x.fst=(n.n.getD k default).fst)) (fun k4=>(zAc 1<|zAa<|zAn<|E_a [] an (I 5) [] ?_ rfl)) (fun k4=>(zAk<|zAf<|S_a [(1,.v (I (↑(k+1):Int)))] (ap (wrN k) an)<|zAd 1<|zAa ?_)))) (fun k3=>(zAd 7<|zAa<|zA0<|zAk<|zAf<|S_a [(1,.v (I (↑(k+1):Int)))] (ap (wrN k) an)<|zAd 1<|zAa ?_)))) (fun k2=>(zAA 2<|zAc 1<|zAa<|zAn<|E_a [] an (I 0) [] ?_ rfl))
  ·have h1:zLH n.n k=true:=by
    have k4:((n.n.take k).any fun y=>decide (y.1=(n.n.getD k default).1))=true:=k4
    simp only [zLH,k4,Bool.and_true,decide_eq_true_eq];assumption
   have:(List.range n.n.length).any (zLH n.n)=true:=List.any_eq_true.2 ⟨k,List.mem_range.2 (by omega),h1⟩
   simp only [zCw,hin,this,if_true]
  ·have h1:zLH n.n k=false:=by
    have k4:((n.n.take k).any fun y=>decide (y.1=(n.n.getD k default).1))=false:=k4
    simp only [zLH,k4,Bool.and_false]
   exact ⟨k+1,⟨by omega,yZ h1⟩,by omega,by kernel_rfl,by kernel_rfl⟩
  ·have h1:zLH n.n k=false:=by
    simp only [zLH,Bool.and_eq_false_iff,decide_eq_false_iff_not]
    exact .inl (by simpa using k3)
   exact ⟨k+1,⟨by omega,yZ h1⟩,by omega,by kernel_rfl,by kernel_rfl⟩
  ·have:(List.range n.n.length).any (zLH n.n)=false:=by
    simp only [List.any_eq_false,List.mem_range,Bool.not_eq_true]
    exact fun j hj=>hb j (by omega)
   simp only [zCw,hin,this,if_true];rfl
theorem f153 (n:Nw) (l:List Int) (hb:1≤n.h∧n.h≤10) (hl:l.length<1000000):FG 153 [zAR l,.ref (nwV n)] (.bool (zIs n.h l)):=by
 refine zAe Tryz.f153 ?_
 refine zAc 1<|zAa<|zAc 3<|S_a [(7,.ret (PV.bool (l.all fun x=>inB x 0 (n.h-1))) [])] (ap (f108_1 n (by omega) l (by omega)) an)<|zAd 1<|zAa<|zAn<|E_a [] an (PV.bool (l.all fun x=>inB x 0 (n.h-1))) [] rfl rfl
theorem f154 (l:List Int) (hl:l.length<1000000):FG 154 [zAR l] (.bool (zC7 l)):=by
 refine zAe Tryz.f154 ?_
 refine zAc 1<|zAa<|zAc 1<|S_a [(6,.ret (PV.bool (zFA l)) [])] (ap (f155 l (by omega)) an)<|zAd 1<|zEi 5 (zFA l) (fun k0=>(zAd 1<|S_a [(6,.ret (PV.own 1 (List.map I l)) [])] (ap (f65 l (by omega)) an)<|S_a [(3,.ob),(1,.v (PV.own 1 (List.map I l))),(2,.ret (PV.own 1 (List.map I (zGE l))) [])] (ap ((by exact zBi (by simp only [List.length_map,zzLn,zAY]<;>omega)):(List.map I l).length.ble (List.map I l).length=true)<|ap ((zAW zAQ):PV.own 1 (List.take (List.map I l).length (List.drop 0 (List.map I l)))=PV.own 1 (List.map I l))<|ap (f97 l (by omega)) an)<|S_a [(0,.n ((zGE l).length))] (ap (lnS I (zGE l)) an)<|zAd 1<|S_a [(0,.n l.length)] (ap (lnS I l) an)<|zAd 3<|zAa<|zAn<|E_a [] an (PV.bool ((↑(zGE l).length:Int)==(↑l.length:Int))) [] ?_ rfl)) (fun k0=>(zAd 9<|zAa<|zAn<|E_a [] an (PV.bool false) [] ?_ rfl))
 ·simp only [zC7,k0,Bool.true_and];congr 1;rw [Bool.eq_iff_iff];simp;omega
 ·simp only [zC7,k0,Bool.false_and]
theorem f201_1 (n:Nw) (hb:1≤n.h∧n.h≤10) (x:List Int) (hx:x.length<1000000):FG 201 [zAR x,.ref (.func 153 [] [.ref (nwV n)])] (.bool (!(zIs n.h x))):=by
 refine zAe Tryz.f201 ?_
 refine zAc 1<|zAa<|zAc 2<|S_a [(7,.ret (PV.bool (zIs n.h x)) [])] (ap (f153 n x (by omega) (by omega)) an)<|zAd 2<|zAa<|zAn<|E_a [] an (PV.bool !zIs n.h x) [] rfl rfl
theorem f223_1 (n:Nw) (hb:1≤n.h∧n.h≤10) (l:List (List Int)) (hl:l.length<4294967296) (hr:∀ x∈l,x.length<1000000):FG 223 [.sl (l.map zAR),.func 201 [] [.ref (.func 153 [] [.ref (nwV n)])]] (I (zEF (fun x => !(zIs n.h x)) l)):=by
 refine zAe Tryz.f223 ?_
 refine zAc 1<|zAa<|zAh<|zAc 1<|S_a [(0,.n l.length)] (ap (lnS zAR l) an)<|zAd 1<|zAa<|zAi 0 ?_
 refine zAq (fun i=>i≤l.length∧∀ j,j<i→(fun x => !(zIs n.h x)) (l.getD j [])=false) (fun i=>[(8,I (i:Nat))]) (fun i=>l.length-i) (0:Nat) (by simp) fun i ⟨hi,ha⟩=>?_
 by_cases yI:i<l.length
 ·have LE:=zBK (d:=[]) hr i yI
  refine zAc 1<|zAa<|zAh<|zAU ((↑i:Int)<(↑l.length:Int)) (by omega)<|zAk<|zAh<|zAi 1<|zAc 2<|zAa<|zAc 3<|S_a [(2,.v (zAR (l.getD i [])))] (ap (zBJ [] (by omega):(List.map zAR l)[i]? = some (zAR (l.getD i []))) an)<|zAd 1<|S_a [(7,.ret (PV.bool !zIs n.h (l.getD i [])) [])] (ap (f201_1 n (by omega) (l.getD i []) (by omega)) an)<|zAa<|zEb (!zIs n.h (l.getD i [])) (fun k0=>(zAc 2<|zAa<|zAn<|E_a [] an (I (↑i:Int)) [] ?_ rfl)) (fun k0=>(zAk<|zAf<|S_a [(1,.v (I (↑(i+1):Int)))] (ap (wrN i) an)<|zAd 1<|zAa ?_))
  ·rw [zBX (i:=i) yI (fun j hj=>by rw [← zAt (d:=[])];exact ha j hj) (by rw [← zAt (d:=[])];first | assumption | exact decide_eq_true ‹_›)]
  ·refine ⟨i+1,⟨by omega,fun j hj=>?_⟩,by omega,by kernel_rfl,by kernel_rfl⟩
   rcases Nat.lt_succ_iff_lt_or_eq.1 hj with h | rfl
   ·exact ha j h
   ·first | assumption | exact decide_eq_false ‹_› | (simp only [Bool.not_eq_false',decide_eq_true_eq];assumption)
 ·refine zAc 1<|zAa<|zAh<|zAT ((↑i:Int)<(↑l.length:Int)) (by omega)<|zAA 0<|zAc 1<|zAa<|zAn<|E_a [] an (I (-1)) [] ?_ rfl
  rw [zCn fun j hj=>by rw [← zAt (d:=[])];exact ha j (by omega)]
theorem f200_1 (n:Nw) (hb:1≤n.h∧n.h≤10) (l:List (List Int)) (hl:l.length<4294967296) (hr:∀ x∈l,x.length<1000000):FG 200 [.sl (l.map zAR),.func 201 [] [.ref (.func 153 [] [.ref (nwV n)])]] (.bool (l.any (fun x => !(zIs n.h x)))):=by
 refine zAe Tryz.f200 ?_
 refine zAc 1<|zAa<|zAc 2<|S_a [(7,.ret (I (zEF (fun x => !zIs n.h x) l)) [])] (ap (f223_1 n (by omega) l (by omega) (by omega)) an)<|zAd 2<|zAa<|zAn<|E_a [] an (PV.bool (decide (zEF (fun x => !zIs n.h x) l≥0))) [] ?_ rfl
 rw [zD1]
theorem f152_1 (n:Nw) (hb:1≤n.h∧n.h≤10) (l:List (List Int)) (hl:l.length<4294967296) (hr:∀ x∈l,x.length<1000000):FG 152 [.sl (l.map zAR),.func 153 [] [.ref (nwV n)]] (.bool (l.all (fun x=>zIs n.h x))):=by
 refine zAe Tryz.f152 ?_
 refine zAc 2<|zAa<|zAc 2<|S_a [(12,.ret (PV.bool (l.any fun x => !zIs n.h x)) [])] (ap (f200_1 n (by omega) l (by omega) (by omega)) an)<|zAd 2<|zAa<|zAn<|E_a [] an (PV.bool !l.any fun x => !zIs n.h x) [] ?_ rfl
 simp [List.not_any_eq_all_not]
theorem f201_2  (x:List Int) (hx:x.length<1000000):FG 201 [zAR x,.ref (.func 154 [] [])] (.bool (!(zC7 x))):=by
 refine zAe Tryz.f201 ?_
 refine zAc 1<|zAa<|zAc 2<|S_a [(6,.ret (PV.bool (zC7 x)) [])] (ap (f154 x (by omega)) an)<|zAd 2<|zAa<|zAn<|E_a [] an (PV.bool !zC7 x) [] rfl rfl
theorem f223_2  (l:List (List Int)) (hl:l.length<4294967296) (hr:∀ x∈l,x.length<1000000):FG 223 [.sl (l.map zAR),.func 201 [] [.ref (.func 154 [] [])]] (I (zEF (fun x => !(zC7 x)) l)):=by
 refine zAe Tryz.f223 ?_
 refine zAc 1<|zAa<|zAh<|zAc 1<|S_a [(0,.n l.length)] (ap (lnS zAR l) an)<|zAd 1<|zAa<|zAi 0 ?_
 refine zAq (fun i=>i≤l.length∧∀ j,j<i→(fun x => !(zC7 x)) (l.getD j [])=false) (fun i=>[(8,I (i:Nat))]) (fun i=>l.length-i) (0:Nat) (by simp) fun i ⟨hi,ha⟩=>?_
 by_cases yI:i<l.length
 ·have LE:=zBK (d:=[]) hr i yI
  refine zAc 1<|zAa<|zAh<|zAU ((↑i:Int)<(↑l.length:Int)) (by omega)<|zAk<|zAh<|zAi 1<|zAc 2<|zAa<|zAc 3<|S_a [(2,.v (zAR (l.getD i [])))] (ap (zBJ [] (by omega):(List.map zAR l)[i]? = some (zAR (l.getD i []))) an)<|zAd 1<|S_a [(7,.ret (PV.bool !zC7 (l.getD i [])) [])] (ap (f201_2 (l.getD i []) (by omega)) an)<|zAa<|zEb (!zC7 (l.getD i [])) (fun k0=>(zAc 2<|zAa<|zAn<|E_a [] an (I (↑i:Int)) [] ?_ rfl)) (fun k0=>(zAk<|zAf<|S_a [(1,.v (I (↑(i+1):Int)))] (ap (wrN i) an)<|zAd 1<|zAa ?_))
  ·rw [zBX (i:=i) yI (fun j hj=>by rw [← zAt (d:=[])];exact ha j hj) (by rw [← zAt (d:=[])];first | assumption | exact decide_eq_true ‹_›)]
  ·refine ⟨i+1,⟨by omega,fun j hj=>?_⟩,by omega,by kernel_rfl,by kernel_rfl⟩
   rcases Nat.lt_succ_iff_lt_or_eq.1 hj with h | rfl
   ·exact ha j h
   ·first | assumption | exact decide_eq_false ‹_› | (simp only [Bool.not_eq_false',decide_eq_true_eq];assumption)
 ·refine zAc 1<|zAa<|zAh<|zAT ((↑i:Int)<(↑l.length:Int)) (by omega)<|zAA 0<|zAc 1<|zAa<|zAn<|E_a [] an (I (-1)) [] ?_ rfl
  rw [zCn fun j hj=>by rw [← zAt (d:=[])];exact ha j (by omega)]
theorem f200_2  (l:List (List Int)) (hl:l.length<4294967296) (hr:∀ x∈l,x.length<1000000):FG 200 [.sl (l.map zAR),.func 201 [] [.ref (.func 154 [] [])]] (.bool (l.any (fun x => !(zC7 x)))):=by
 refine zAe Tryz.f200 ?_
 refine zAc 1<|zAa<|zAc 2<|S_a [(7,.ret (I (zEF (fun x => !zC7 x) l)) [])] (ap (f223_2 l (by omega) (by omega)) an)<|zAd 2<|zAa<|zAn<|E_a [] an (PV.bool (decide (zEF (fun x => !zC7 x) l≥0))) [] ?_ rfl
 rw [zD1]
theorem f152_2  (l:List (List Int)) (hl:l.length<4294967296) (hr:∀ x∈l,x.length<1000000):FG 152 [.sl (l.map zAR),.func 154 [] []] (.bool (l.all (fun x=>zC7 x))):=by
 refine zAe Tryz.f152 ?_
 refine zAc 2<|zAa<|zAc 2<|S_a [(12,.ret (PV.bool (l.any fun x => !zC7 x)) [])] (ap (f200_2 l (by omega) (by omega)) an)<|zAd 2<|zAa<|zAn<|E_a [] an (PV.bool !l.any fun x => !zC7 x) [] ?_ rfl
 simp [List.not_any_eq_all_not]
theorem f76 (n:Nw) (hs:Small n):FG 76 [nwV n] (I (zCS n)):=by
 refine zAe Tryz.f76 ?_
 have h1:=hs.hl
 have h2:=hs.hn
 have h3:=hs.hs
 have h4:=hs.hr
 refine zAc 2<|zAa<|zAh<|zAc 2<|S_a [(10,.ret (PV.bool (inB n.h 1 10)) [])] (ap (f107 n.h (1) (10)) an)<|zAd 2<|zEi 9 (!inB n.h 1 10) (fun k0=>(zAd 19<|zAa<|zBR<|zAc 1<|zAa<|zAn<|E_a [] an (I 2) [] ?_ rfl)) (fun k0=>(zAd 2<|S_a [(0,.n n.l.length)] (ap (lnS prV n.l) an)<|zAd 3<|zEM 15 ((↑n.l.length:Int)>15) (fun k1=>(zAd 13<|zAa<|zBR<|zAc 1<|zAa<|zAn<|E_a [] an (I 2) [] ?_ rfl)) (fun k1=>(zAd 2<|S_a [(0,.n n.n.length)] (ap (lnS ntV n.n) an)<|S_a [(10,.ret (PV.bool (inB (↑n.n.length:Int) 1 8)) [])] (ap (f107 ((↑n.n.length:Int)) (1) (8)) an)<|zAd 3<|zEi 22 (!inB (↑n.n.length:Int) 1 8) (fun k2=>(zAd 6<|zAa<|zBR<|zAc 1<|zAa<|zAn<|E_a [] an (I 2) [] ?_ rfl)) (fun k2=>(zAd 2<|S_a [(0,.n n.s.length)] (ap (lnS zAR n.s) an)<|S_a [(10,.ret (PV.bool (inB (↑n.s.length:Int) 1 6)) [])] (ap (f107 ((↑n.s.length:Int)) (1) (6)) an)<|zAd 2<|zAa<|zEb (!inB (↑n.s.length:Int) 1 6) (fun k3=>(zAc 1<|zAa<|zAn<|E_a [] an (I 2) [] ?_ rfl)) (fun k3=>(zAk<|zAh<|zAc 1<|S_a [(6,.ret (I (zBt n.h n.l)) [])] (ap (f150 n ?_ (by first | omega | (simp<;>omega))) an)<|zAd 1<|zAa<|zAc 2<|zAa<|zDh (zBt n.h n.l=0) (fun k4=>(zAc 2<|zAa<|zAn<|E_a [] an (I (zBt n.h n.l)) [] ?_ rfl)) (fun k4=>(zAk<|zAh<|zAc 1<|S_a [(6,.ret (I (zCw n.n)) [])] (ap (f151 n ?_) an)<|zAd 1<|zAa<|zAc 2<|zAa<|zDh (zCw n.n=0) (fun k5=>(zAc 2<|zAa<|zAn<|E_a [] an (I (zCw n.n)) [] ?_ rfl)) (fun k5=>(zAk<|zAh<|zAi 0<|zAc 3<|S_a [(13,.ret (PV.bool (n.s.all fun x=>zIs n.h x)) [])] (ap (f152_1 n ?_ n.s (by omega) (by omega)) an)<|zAd 2<|zAa<|zEb (!n.s.all fun x=>zIs n.h x) (fun k6=>(zAc 1<|zAa<|zAn<|E_a [] an (I 1) [] ?_ rfl)) (fun k6=>(zAc 2<|S_a [(7,.ret (PV.bool (n.s.all fun x=>zC7 x)) [])] (ap (f152_2 n.s (by omega) (by omega)) an)<|zAd 2<|zAa<|zEb (!n.s.all fun x=>zC7 x) (fun k7=>(zAc 1<|zAa<|zAn<|E_a [] an (I 4) [] ?_ rfl)) (fun k7=>(zAk<|zAc 1<|zAa<|zAn<|E_a [] an (I 0) [] ?_ rfl))))))))))))))))
 all_goals first | exact zWw k0 | (have:=zWw k2;omega) | (simp [zCS, *];done)
end
end Go.Eng
set_option maxRecDepth 10000
set_option maxHeartbeats 4000000
namespace Go.Eng
open Go Go.Proofs
theorem zRx {l:List Int}:∀ k,k≤l.length→(zGE (l.take k)).length≤k∧((∃ j,1≤j∧j<k∧l.getD j 0=l.getD (j-1) 0)→(zGE (l.take k)).length<k)
 | 0,_=>⟨by simp [zGE],fun ⟨j,h1,h2,_⟩=>by omega⟩
 | k + 1,hk=>by
  obtain ⟨h1,h2⟩:=zRx (l:=l) k (by omega)
  cases k with
  | zero =>
   rw [zG6 (show 0<l.length by omega)]
   exact ⟨by simp [zGE,zUD],fun ⟨j,h1,h2,_⟩=>by omega⟩
  | succ k =>
   rw [zHd (by omega) (by omega)]
   split
   ·exact ⟨by omega,fun _=>by omega⟩
   ·rename_i hI
    refine ⟨by rw [List.length_append];simp;omega,fun ⟨j,g1,g2,g3⟩=>?_⟩
    have hj:j<k+1:=by
     by_cases h:j=k+1
     ·subst h;exact absurd g3 hI
     ·omega
    have:=h2 ⟨j,g1,hj,g3⟩
    rw [List.length_append];simp;omega
theorem zRU {l:List Int} (h:zFA l=true) (j:Nat) (hj:j+1<l.length):l.getD j 0≤l.getD (j+1) 0:=by
 simp only [zFA,List.all_eq_true,List.mem_range,decide_eq_true_eq] at h
 exact h j (by omega)
theorem zHq {l:List Int}:zC7 l=zSn l:=by
 rw [Bool.eq_iff_iff]
 constructor
 ·intro h
  simp only [zC7,Bool.and_eq_true,decide_eq_true_eq] at h
  simp only [zSn,List.all_eq_true,List.mem_range,decide_eq_true_eq]
  intro j hj
  have h1:=zRU h.1 j (by omega)
  have h2:=(zRx (l:=l) l.length (Nat.le_refl _)).2
  rw [List.take_length] at h2
  by_cases he:l.getD (j+1) 0=l.getD j 0
  ·have:=h2 ⟨j+1,by omega,by omega,by simpa using he⟩
   omega
  ·omega
 ·intro h
  simp only [zSn,List.all_eq_true,List.mem_range,decide_eq_true_eq] at h
  simp only [zC7,zFA,Bool.and_eq_true,decide_eq_true_eq,List.all_eq_true,List.mem_range]
  refine ⟨fun j hj=>by have:=h j hj;omega,?_⟩
  have:=zHh (l:=l) l.length (Nat.le_refl _) fun j h1 h2=>by
   have:=h (j-1) (by omega)
   rw [show j-1+1=j by omega] at this
   omega
  rw [List.take_length] at this
  rw [this]
structure NwOk (n:Nw):Prop where
 err:zCS n=0
 h:1≤n.h∧n.h≤10
 ll:n.l.length≤15
 nl:1≤n.n.length∧n.n.length≤8
 sl:1≤n.s.length∧n.s.length≤6
 lr:∀ x∈n.l,(0≤x.1∧x.1<n.h)∧(0≤x.2∧x.2<n.h)
 lne:∀ x∈n.l,x.1≠x.2
 ld:(n.l.map pr2).Nodup
 na:∀ i,i<n.n.length→-1≤(n.n.getD i default).1∧(n.n.getD i default).1<i
 nd:∀ i k,k<i→i<n.n.length→(n.n.getD i default).1≠-1→(n.n.getD k default).1≠(n.n.getD i default).1
 sr:∀ l∈n.s,∀ x∈l,0≤x∧x<n.h
 ss:∀ l∈n.s,zSn l=true
theorem zRI {l:List Int} (h:zSn l=true):∀ i j,i<j→j<l.length→l.getD i 0<l.getD j 0:=by
 simp only [zSn,List.all_eq_true,List.mem_range,decide_eq_true_eq] at h
 intro i j qh hj
 induction j with
 | zero=>omega
 | succ j ih =>
  have h1:=h j (by omega)
  by_cases he:i=j
  ·subst he;exact h1
  ·have:=ih (by omega) (by omega);omega
theorem zTt {l:List Int} (h:zSn l=true) {B:Int} (hb:∀ x∈l,0≤x∧x<B):(l.length:Int)≤B∨l.length=0:=by
 by_cases h0:l.length=0
 ·exact .inr h0
 ·left
  have key:∀ j,j<l.length→(j:Int)≤l.getD j 0:=by
   intro j
   induction j with
   | zero=>intro hj;exact (zBK hb 0 hj).1
   | succ j ih =>
    intro hj
    have h1:=ih (by omega)
    have h2:=zRI h j (j+1) (by omega) hj
    omega
  have h1:=key (l.length-1) (by omega)
  have h2:=(zBK (d:=(0:Int)) hb (l.length-1) (by omega)).2
  omega
theorem NwOk.rows {n:Nw} (ho:NwOk n):∀ l∈n.s,l.length≤10:=fun l hl=>by
 have h1:=zTt (ho.ss l hl) (ho.sr l hl)
 have:=ho.h
 omega
theorem NwOk.small {n:Nw} (ho:NwOk n):Small n:=⟨by have:=ho.ll;omega,by have:=ho.nl;omega,by have:=ho.sl;omega,fun l hl=>by have:=ho.rows l hl;omega⟩
theorem zEx {n lo hi:Int} (h:inB n lo hi=true):lo≤n∧n≤hi:=by simpa [inB] using h
theorem zPE {h:Int} {l:List (Int×Int)} (he:zBt h l=0):(l.all fun x=>zGF h x)=true∧(l.all fun x=>zHI x)=true∧(l.map pr2).Nodup:=by
 unfold zBt at he
 split at he
 ·split at he
  ·split at he
   ·exact ⟨by assumption,by assumption,by assumption⟩
   ·cases he
  ·cases he
 ·cases he
theorem zR1 {l:List (Int×Bool)} (he:zCw l=0):zNg l=true∧(List.range l.length).any (zLH l)=false:=by
 unfold zCw at he
 split at he
 ·split at he
  ·cases he
  ·rename_i h1 h2;exact ⟨h1,by rw [Bool.not_eq_true] at h2;exact h2⟩
 ·cases he
theorem zS7 {n:Nw} (he:zCS n=0):NwOk n:=by
 have he0:=he
 unfold zCS at he
 split at he
 ·cases he
 split at he
 ·cases he
 split at he
 ·cases he
 split at he
 ·cases he
 rename_i c1 c2 c3 c4
 split at he
 case isFalse h=>exact absurd he h
 rename_i c5
 split at he
 case isFalse h=>exact absurd he h
 rename_i c6
 split at he
 ·cases he
 split at he
 ·cases he
 rename_i c7 c8
 simp only [Bool.not_eq_true,Bool.not_eq_false'] at c1 c3 c4 c7 c8
 obtain ⟨d1,d2,d3⟩:=zPE c5
 obtain ⟨e1,e2⟩:=zR1 c6
 rw [List.all_eq_true] at c7 c8 d1 d2
 simp only [zNg,List.all_eq_true,List.mem_range] at e1
 simp only [List.any_eq_false,List.mem_range] at e2
 have a3:=zEx c3
 have a4:=zEx c4
 refine ⟨he0,zEx c1,by omega,by omega,by omega,fun x hx=>?_,fun x hx=>by have:=d2 x hx;simpa [zHI] using this,d3,fun i hi=>?_,fun i k hk hi hI hx=>?_,fun l hl x hx=>?_,fun l hl=>by rw [← zHq];exact c8 l hl⟩
 ·have:=d1 x hx
  simp only [zGF,Bool.and_eq_true] at this
  have b1:=zEx this.1
  have b2:=zEx this.2
  omega
 ·have:=zEx (e1 i hi);omega
 ·refine e2 i hi ?_
  simp only [zLH,Bool.and_eq_true,decide_eq_true_eq,List.any_eq_true]
  refine ⟨hI,n.n.getD k default,?_,hx⟩
  rw [zAt (by omega)]
  exact List.mem_take_iff_getElem.2 ⟨k,by omega,rfl⟩
 ·have:=c7 l hl
  simp only [zIs,List.all_eq_true] at this
  have:=zEx (this x hx);omega
def zMC (F:List Int) (i:Nat) (a:Int):List Int:=if a = -1 then F.set i i else (F.set i i).set i ((F.set i i).getD a.toNat 0)
def zO2 (l:List (Int×Bool)):Nat→List Int
 | 0=>List.replicate 8 0
 | i+1=>zMC (zO2 l i) i (l.getD i default).1
def zP2 (F:List Int) (L:List Int) (i k:Nat):List Int:=if F.getD k 0=F.getD i 0 then L.set i (max (L.getD i 0) k) else L
def zVt (F:List Int) (i:Nat) (L:List Int) (k:Nat):List Int:=(List.range k).foldl (fun L k=>zP2 F L i k) L
def zT4 (F:List Int) (m i:Nat):List Int:=(List.range i).foldl (fun L i=>zVt F i L m) (List.replicate 8 0)
theorem zQy {F:List Int} {i:Nat} {a:Int}:(zMC F i a).length=F.length:=by unfold zMC;split<;>simp
theorem zGT {l:List (Int×Bool)}:∀ i,(zO2 l i).length=8
 | 0=>by simp [zO2]
 | i+1=>by rw [zO2,zQy];exact zGT i
theorem zQD {F L:List Int} {i k:Nat}:(zP2 F L i k).length=L.length:=by unfold zP2;split<;>simp
theorem zMO {F L:List Int} {i k:Nat}:zVt F i L (k+1)=zP2 F (zVt F i L k) i k:=by
 simp only [zVt,List.range_succ,List.foldl_append,List.foldl_cons,List.foldl_nil]
theorem zKR {F L:List Int} {i:Nat}:∀ k,(zVt F i L k).length=L.length
 | 0=>rfl
 | k+1=>by rw [zMO,zQD];exact zKR k
theorem zMY {F:List Int} {m i:Nat}:zT4 F m (i+1)=zVt F i (zT4 F m i) m:=by
 simp only [zT4,List.range_succ,List.foldl_append,List.foldl_cons,List.foldl_nil]
theorem zO5 {F:List Int} {m:Nat}:∀ i,(zT4 F m i).length=8
 | 0=>by simp [zT4]
 | i+1=>by rw [zMY,zKR];exact zO5 i
def zAl (n:Nw):List Int:=zO2 n.n n.n.length
def zA8 (n:Nw):List Int:=zT4 (zAl n) n.n.length n.n.length
abbrev zCs (n:Nw) (cs ms:PV) (F L:List Int):PV := .agg [I n.h,.sl (n.l.map prV),.sl (n.n.map ntV),.sl (n.s.map zAR),cs,ms,I (F.getD 0 0),I (F.getD 1 0),I (F.getD 2 0),I (F.getD 3 0),I (F.getD 4 0),I (F.getD 5 0),I (F.getD 6 0),I (F.getD 7 0),I (L.getD 0 0),I (L.getD 1 0),I (L.getD 2 0),I (L.getD 3 0),I (L.getD 4 0),I (L.getD 5 0),I (L.getD 6 0),I (L.getD 7 0)]
abbrev zTP (M:List (Int×Int)):PV := .omap (M.map zBy)
section
variable [Yo]
theorem f139_2 (n:Nw) (hs:Small n) (he:¬ zCS n=0):FG 139 [nwV n] (.tup [.nilp,I (zCS n)]):=by
 refine zAe Tryz.f139 ?_
 refine zAc 3<|zAa<|zAh<|zAc 1<|S_a [(6,.ret (I (zCS n)) [])] (ap (f76 n (by omega)) an)<|zAd 1<|zAa<|zAc 2<|zAa<|zD8 (zCS n=0) (by omega)<|zAc 3<|zAa<|zAn<|E_a [] an (PV.tup [PV.nilp,I (zCS n)]) [] rfl rfl
theorem f139_1 (n:Nw) (ho:NwOk n):FG 139 [nwV n] (.tup [.box (zCs n (.own 2 []) (zTP (n.l.map pr2)) (zAl n) (zA8 n)),I 0]):=by
 have hs:=ho.small
 have he:=ho.err
 have h1:=ho.nl.2
 have h2:=ho.ll
 have h3:=ho.ld
 have h4:=ho.na
 refine zAe Tryz.f139 ?_
 refine zAc 3<|zAa<|zAh<|zAc 1<|S_a [(6,.ret (I (zCS n)) [])] (ap (f76 n (by omega)) an)<|zAd 1<|zAa<|zAc 2<|zAa<|zHm (zCS n=0) (by omega)<|zAk<|zAc 5<|zAa<|zAh<|zAc 2<|S_a [(0,.n n.l.length)] (ap (lnS prV n.l) an)<|zAd 1<|zAa<|zAi 0 ?_
 refine zAq (fun (i,M)=>i≤n.l.length∧M=(n.l.take i).map pr2) (fun (i,M)=>[(5,.box (zCs n (.own 2 []) (zTP M) (List.replicate 8 0) (List.replicate 8 0))),(24,I (i:Nat))]) (fun (i,_)=>n.l.length-i) ((0:Nat),([]:List (Int×Int))) ⟨Nat.zero_le _,rfl⟩ fun (i,M) ⟨hi,hM⟩=>?_
 by_cases yI:i<n.l.length
 ·have yZ:(n.l.take (i+1)).map pr2=M++[pr2 (n.l.getD i default)]:=by rw [zB2 (d:=default) yI,List.map_append,← hM];rfl
  have hin:pr2 (n.l.getD i default)∉M:=fun hm=>by
   rw [← List.take_append_drop (i+1) n.l,List.map_append,yZ] at h3
   have h2:=(List.nodup_append.1 h3).1
   have h3:=(List.nodup_append.1 h2).2.2
   exact h3 _ hm _ (List.mem_singleton.2 rfl) rfl
  have jK:=zLq hin
  refine zAc 1<|zAa<|zAh<|zAU ((↑i:Int)<(↑n.l.length:Int)) (by omega)<|zAk<|zAh<|zAi 1<|zAh<|zAf<|S_a [(2,.v (PV.agg [I (n.l.getD i default).fst,I (n.l.getD i default).snd]))] (ap (zBJ default (by omega):(List.map prV n.l)[i]? = some (PV.agg [I (n.l.getD i default).fst,I (n.l.getD i default).snd])) an)<|zAd 3<|zAa<|zAf<|zAd 5<|S_a [(6,.ret (prV (pr2 (n.l.getD i default))) [])] (ap (f110 (n.l.getD i default)) an)<|S_a [(4,.ix none),(0,.v (PV.omap (List.map zBy (M++[pr2 (n.l.getD i default)]))))] (ap jK<|ap ((by simp):PV.omap (List.map zBy M++[(PV.agg [I (pr2 (n.l.getD i default)).fst,I (pr2 (n.l.getD i default)).snd],PV.bool true)])=PV.omap (List.map zBy (M++[pr2 (n.l.getD i default)]))) an)<|zAa<|zAf<|S_a [(1,.v (I (↑(i+1):Int)))] (ap (wrN i) an)<|zAd 1<|zAa ?_
  exact ⟨(i+1,M++[pr2 (n.l.getD i default)]),⟨by omega,yZ.symm⟩,by simp only;omega,by kernel_rfl,by kernel_rfl⟩
 ·refine zAc 1<|zAa<|zAh<|zAT ((↑i:Int)<(↑n.l.length:Int)) (by omega)<|zAA 0<|zAh<|zAc 2<|S_a [(0,.n n.n.length)] (ap (lnS ntV n.n) an)<|zAd 1<|zAa<|zAi 2 ?_
  rw [List.take_of_length_le (by omega)] at hM
  subst hM
  clear h3
  generalize hMM:n.l.map pr2=MM
  refine zAq (fun (i,F)=>i≤n.n.length∧F=zO2 n.n i) (fun (i,F)=>[(5,.box (zCs n (.own 2 []) (zTP MM) F (List.replicate 8 0))),(38,I (i:Nat))]) (fun (i,_)=>n.n.length-i) ((0:Nat),List.replicate 8 0) ⟨Nat.zero_le _,rfl⟩ fun (i,F) ⟨hi,hF⟩=>?_
  have hFl:F.length=8:=by rw [hF];exact zGT i
  by_cases yI:i<n.n.length
  ·have h4i:=h4 i yI
   have yK:zO2 n.n (i+1)=zMC F i (n.n.getD i default).1:=by rw [hF];rfl
   refine zAc 1<|zAa<|zAh<|zAU ((↑i:Int)<(↑n.n.length:Int)) (by omega)<|zAk<|zAh<|zAi 3<|zAc 1<|S_a [(2,.v (PV.agg [I (n.n.getD i default).fst,PV.bool (n.n.getD i default).snd]))] (ap (zBJ default (by omega):(List.map ntV n.n)[i]? = some (PV.agg [I (n.n.getD i default).fst,PV.bool (n.n.getD i default).snd])) an)<|zAd 4<|zAa<|zAc 5<|S_a [(2,.ob),(1,.v (PV.addr 5 [] 0 (6+i) none))] (ap ((by exact zAs (by omega)):decide (i<8)=true)<|ap ((zFr (by kernel_rfl)):PV.addr 5 [] 0 (6+i*(fun x=>x.size) Tryz.prog.types[3]) none=PV.addr 5 [] 0 (6+i) none) an)<|S_a [(8,.root ((PV.agg [I n.h,prs n.l,PV.sl (List.map ntV n.n),PV.sl (List.map zAR n.s),PV.own 2 [],PV.omap (List.map zBy MM),zs F i 0,zs F i 1,zs F i 2,zs F i 3,zs F i 4,zs F i 5,zs F i 6,zs F i 7,z8 0,z8 1,z8 2,z8 3,z8 4,z8 5,z8 6,z8 7]).box) true)] (ap (zPM (zKb (q:=(PV.agg [I n.h,prs n.l,PV.sl (List.map ntV n.n),PV.sl (List.map zAR n.s),PV.own 2 [],PV.omap (List.map zBy MM),I (F.getD 0 0),I (F.getD 1 0),I (F.getD 2 0),I (F.getD 3 0),I (F.getD 4 0),I (F.getD 5 0),I (F.getD 6 0),I (F.getD 7 0),z8 0,z8 1,z8 2,z8 3,z8 4,z8 5,z8 6,z8 7]).box) (xs:=[PV.agg [I n.h,prs n.l,PV.sl (List.map ntV n.n),PV.sl (List.map zAR n.s),PV.own 2 [],PV.omap (List.map zBy MM),I (F.getD 0 0),I (F.getD 1 0),I (F.getD 2 0),I (F.getD 3 0),I (F.getD 4 0),I (F.getD 5 0),I (F.getD 6 0),I (F.getD 7 0),z8 0,z8 1,z8 2,z8 3,z8 4,z8 5,z8 6,z8 7]]) (x:=PV.agg [I n.h,prs n.l,PV.sl (List.map ntV n.n),PV.sl (List.map zAR n.s),PV.own 2 [],PV.omap (List.map zBy MM),I (F.getD 0 0),I (F.getD 1 0),I (F.getD 2 0),I (F.getD 3 0),I (F.getD 4 0),I (F.getD 5 0),I (F.getD 6 0),I (F.getD 7 0),z8 0,z8 1,z8 2,z8 3,z8 4,z8 5,z8 6,z8 7]) (y:=PV.agg [I n.h,prs n.l,PV.sl (List.map ntV n.n),PV.sl (List.map zAR n.s),PV.own 2 [],PV.omap (List.map zBy MM),zs F i 0,zs F i 1,zs F i 2,zs F i 3,zs F i 4,zs F i 5,zs F i 6,zs F i 7,z8 0,z8 1,z8 2,z8 3,z8 4,z8 5,z8 6,z8 7]) (q':=(PV.agg [I n.h,prs n.l,PV.sl (List.map ntV n.n),PV.sl (List.map zAR n.s),PV.own 2 [],PV.omap (List.map zBy MM),zs F i 0,zs F i 1,zs F i 2,zs F i 3,zs F i 4,zs F i 5,zs F i 6,zs F i 7,z8 0,z8 1,z8 2,z8 3,z8 4,z8 5,z8 6,z8 7]).box) rfl (zN4 (A:=[I n.h,prs n.l,PV.sl (List.map ntV n.n),PV.sl (List.map zAR n.s),PV.own 2 [],PV.omap (List.map zBy MM)]) (B:=[z8 0,z8 1,z8 2,z8 3,z8 4,z8 5,z8 6,z8 7]) (F:=F) (m:=8) (j:=i) (u:=(↑i:Int)) (by first | rfl | exact zBU (by kernel_rfl) | exact zBV (by kernel_rfl) | (simp;done)) (by omega) (by omega)) rfl (hb:=zOd (A:=[I n.h,prs n.l,PV.sl (List.map ntV n.n),PV.sl (List.map zAR n.s),PV.own 2 [],PV.omap (List.map zBy MM)]) (B:=[z8 0,z8 1,z8 2,z8 3,z8 4,z8 5,z8 6,z8 7]) (F:=F) (m:=8) (j:=i) (by first | rfl | exact zBU (by kernel_rfl) | exact zBV (by kernel_rfl) | (simp;done)) (by omega))) rfl:zBw (PV.agg [I n.h,prs n.l,PV.sl (List.map ntV n.n),PV.sl (List.map zAR n.s),PV.own 2 [],PV.omap (List.map zBy MM),I (F.getD 0 0),I (F.getD 1 0),I (F.getD 2 0),I (F.getD 3 0),I (F.getD 4 0),I (F.getD 5 0),I (F.getD 6 0),I (F.getD 7 0),z8 0,z8 1,z8 2,z8 3,z8 4,z8 5,z8 6,z8 7]).box [] 0 (6+i) (I (↑i:Int)).cells=some (PV.agg [I n.h,prs n.l,PV.sl (List.map ntV n.n),PV.sl (List.map zAR n.s),PV.own 2 [],PV.omap (List.map zBy MM),zs F i 0,zs F i 1,zs F i 2,zs F i 3,zs F i 4,zs F i 5,zs F i 6,zs F i 7,z8 0,z8 1,z8 2,z8 3,z8 4,z8 5,z8 6,z8 7]).box∧zAE (PV.agg [I n.h,prs n.l,PV.sl (List.map ntV n.n),PV.sl (List.map zAR n.s),PV.own 2 [],PV.omap (List.map zBy MM),I (F.getD 0 0),I (F.getD 1 0),I (F.getD 2 0),I (F.getD 3 0),I (F.getD 4 0),I (F.getD 5 0),I (F.getD 6 0),I (F.getD 7 0),z8 0,z8 1,z8 2,z8 3,z8 4,z8 5,z8 6,z8 7]).box (PV.agg [I n.h,prs n.l,PV.sl (List.map ntV n.n),PV.sl (List.map zAR n.s),PV.own 2 [],PV.omap (List.map zBy MM),zs F i 0,zs F i 1,zs F i 2,zs F i 3,zs F i 4,zs F i 5,zs F i 6,zs F i 7,z8 0,z8 1,z8 2,z8 3,z8 4,z8 5,z8 6,z8 7]).box []=true) an)<|zAa<|zAc 3<|zAa<|zDh ((n.n.getD i default).fst = -1) (fun k0=>(zAf<|zAd 7<|S_a [(0,.ob),(1,.ob),(1,.v (PV.addr 5 [] 0 (6+(n.n.getD i default).fst.toNat) none))] (ap ((by exact zAs (by omega)):decide (0≤(n.n.getD i default).fst)=true)<|ap ((by exact zAs (by omega)):decide ((n.n.getD i default).fst.toNat<8)=true)<|ap ((zFr (by kernel_rfl)):PV.addr 5 [] 0 (6+(n.n.getD i default).fst.toNat*(fun x=>x.size) Tryz.prog.types[3]) none=PV.addr 5 [] 0 (6+(n.n.getD i default).fst.toNat) none) an)<|S_a [(0,.cs true ([I ((F.set i (↑i:Int)).getD (n.n.getD i default).fst.toNat 0)]))] (ap (zDy (q:=(PV.agg [I n.h,prs n.l,PV.sl (List.map ntV n.n),PV.sl (List.map zAR n.s),PV.own 2 [],PV.omap (List.map zBy MM),zs F i 0,zs F i 1,zs F i 2,zs F i 3,zs F i 4,zs F i 5,zs F i 6,zs F i 7,z8 0,z8 1,z8 2,z8 3,z8 4,z8 5,z8 6,z8 7]).box) (xs:=[PV.agg [I n.h,prs n.l,PV.sl (List.map ntV n.n),PV.sl (List.map zAR n.s),PV.own 2 [],PV.omap (List.map zBy MM),zs F i 0,zs F i 1,zs F i 2,zs F i 3,zs F i 4,zs F i 5,zs F i 6,zs F i 7,z8 0,z8 1,z8 2,z8 3,z8 4,z8 5,z8 6,z8 7]]) (x:=PV.agg [I n.h,prs n.l,PV.sl (List.map ntV n.n),PV.sl (List.map zAR n.s),PV.own 2 [],PV.omap (List.map zBy MM),zs F i 0,zs F i 1,zs F i 2,zs F i 3,zs F i 4,zs F i 5,zs F i 6,zs F i 7,z8 0,z8 1,z8 2,z8 3,z8 4,z8 5,z8 6,z8 7]) rfl rfl (zKm (A:=[I n.h,prs n.l,PV.sl (List.map ntV n.n),PV.sl (List.map zAR n.s),PV.own 2 [],PV.omap (List.map zBy MM)]) (B:=[z8 0,z8 1,z8 2,z8 3,z8 4,z8 5,z8 6,z8 7]) (F:=F.set i (↑i:Int)) (m:=8) (j:=(n.n.getD i default).fst.toNat) (by first | rfl | exact zBU (by kernel_rfl) | exact zBV (by kernel_rfl) | (simp;done)) (by omega)):zAw 5 (PV.agg [I n.h,prs n.l,PV.sl (List.map ntV n.n),PV.sl (List.map zAR n.s),PV.own 2 [],PV.omap (List.map zBy MM),zs F i 0,zs F i 1,zs F i 2,zs F i 3,zs F i 4,zs F i 5,zs F i 6,zs F i 7,z8 0,z8 1,z8 2,z8 3,z8 4,z8 5,z8 6,z8 7]).box [] 0 (6+(n.n.getD i default).fst.toNat) 1=some (true,[I ((F.set i (↑i:Int)).getD (n.n.getD i default).fst.toNat 0)])) an)<|zAd 2<|S_a [(2,.ob),(1,.v (PV.addr 5 [] 0 (6+i) none))] (ap ((by exact zAs (by omega)):decide (i<8)=true)<|ap ((zFr (by kernel_rfl)):PV.addr 5 [] 0 (6+i*(fun x=>x.size) Tryz.prog.types[3]) none=PV.addr 5 [] 0 (6+i) none) an)<|S_a [(8,.root ((PV.agg [I n.h,prs n.l,PV.sl (List.map ntV n.n),PV.sl (List.map zAR n.s),PV.own 2 [],PV.omap (List.map zBy MM),I (((F.set i (↑i:Int)).set i ((F.set i (↑i:Int)).getD (n.n.getD i default).fst.toNat 0)).getD 0 0),I (((F.set i (↑i:Int)).set i ((F.set i (↑i:Int)).getD (n.n.getD i default).fst.toNat 0)).getD 1 0),I (((F.set i (↑i:Int)).set i ((F.set i (↑i:Int)).getD (n.n.getD i default).fst.toNat 0)).getD 2 0),I (((F.set i (↑i:Int)).set i ((F.set i (↑i:Int)).getD (n.n.getD i default).fst.toNat 0)).getD 3 0),I (((F.set i (↑i:Int)).set i ((F.set i (↑i:Int)).getD (n.n.getD i default).fst.toNat 0)).getD 4 0),I (((F.set i (↑i:Int)).set i ((F.set i (↑i:Int)).getD (n.n.getD i default).fst.toNat 0)).getD 5 0),I (((F.set i (↑i:Int)).set i ((F.set i (↑i:Int)).getD (n.n.getD i default).fst.toNat 0)).getD 6 0),I (((F.set i (↑i:Int)).set i ((F.set i (↑i:Int)).getD (n.n.getD i default).fst.toNat 0)).getD 7 0),z8 0,z8 1,z8 2,z8 3,z8 4,z8 5,z8 6,z8 7]).box) true)] (ap (zPM (zKb (q:=(PV.agg [I n.h,prs n.l,PV.sl (List.map ntV n.n),PV.sl (List.map zAR n.s),PV.own 2 [],PV.omap (List.map zBy MM),zs F i 0,zs F i 1,zs F i 2,zs F i 3,zs F i 4,zs F i 5,zs F i 6,zs F i 7,z8 0,z8 1,z8 2,z8 3,z8 4,z8 5,z8 6,z8 7]).box) (xs:=[PV.agg [I n.h,prs n.l,PV.sl (List.map ntV n.n),PV.sl (List.map zAR n.s),PV.own 2 [],PV.omap (List.map zBy MM),zs F i 0,zs F i 1,zs F i 2,zs F i 3,zs F i 4,zs F i 5,zs F i 6,zs F i 7,z8 0,z8 1,z8 2,z8 3,z8 4,z8 5,z8 6,z8 7]]) (x:=PV.agg [I n.h,prs n.l,PV.sl (List.map ntV n.n),PV.sl (List.map zAR n.s),PV.own 2 [],PV.omap (List.map zBy MM),zs F i 0,zs F i 1,zs F i 2,zs F i 3,zs F i 4,zs F i 5,zs F i 6,zs F i 7,z8 0,z8 1,z8 2,z8 3,z8 4,z8 5,z8 6,z8 7]) (y:=PV.agg [I n.h,prs n.l,PV.sl (List.map ntV n.n),PV.sl (List.map zAR n.s),PV.own 2 [],PV.omap (List.map zBy MM),I (((F.set i (↑i:Int)).set i ((F.set i (↑i:Int)).getD (n.n.getD i default).fst.toNat 0)).getD 0 0),I (((F.set i (↑i:Int)).set i ((F.set i (↑i:Int)).getD (n.n.getD i default).fst.toNat 0)).getD 1 0),I (((F.set i (↑i:Int)).set i ((F.set i (↑i:Int)).getD (n.n.getD i default).fst.toNat 0)).getD 2 0),I (((F.set i (↑i:Int)).set i ((F.set i (↑i:Int)).getD (n.n.getD i default).fst.toNat 0)).getD 3 0),I (((F.set i (↑i:Int)).set i ((F.set i (↑i:Int)).getD (n.n.getD i default).fst.toNat 0)).getD 4 0),I (((F.set i (↑i:Int)).set i ((F.set i (↑i:Int)).getD (n.n.getD i default).fst.toNat 0)).getD 5 0),I (((F.set i (↑i:Int)).set i ((F.set i (↑i:Int)).getD (n.n.getD i default).fst.toNat 0)).getD 6 0),I (((F.set i (↑i:Int)).set i ((F.set i (↑i:Int)).getD (n.n.getD i default).fst.toNat 0)).getD 7 0),z8 0,z8 1,z8 2,z8 3,z8 4,z8 5,z8 6,z8 7]) (q':=(PV.agg [I n.h,prs n.l,PV.sl (List.map ntV n.n),PV.sl (List.map zAR n.s),PV.own 2 [],PV.omap (List.map zBy MM),I (((F.set i (↑i:Int)).set i ((F.set i (↑i:Int)).getD (n.n.getD i default).fst.toNat 0)).getD 0 0),I (((F.set i (↑i:Int)).set i ((F.set i (↑i:Int)).getD (n.n.getD i default).fst.toNat 0)).getD 1 0),I (((F.set i (↑i:Int)).set i ((F.set i (↑i:Int)).getD (n.n.getD i default).fst.toNat 0)).getD 2 0),I (((F.set i (↑i:Int)).set i ((F.set i (↑i:Int)).getD (n.n.getD i default).fst.toNat 0)).getD 3 0),I (((F.set i (↑i:Int)).set i ((F.set i (↑i:Int)).getD (n.n.getD i default).fst.toNat 0)).getD 4 0),I (((F.set i (↑i:Int)).set i ((F.set i (↑i:Int)).getD (n.n.getD i default).fst.toNat 0)).getD 5 0),I (((F.set i (↑i:Int)).set i ((F.set i (↑i:Int)).getD (n.n.getD i default).fst.toNat 0)).getD 6 0),I (((F.set i (↑i:Int)).set i ((F.set i (↑i:Int)).getD (n.n.getD i default).fst.toNat 0)).getD 7 0),z8 0,z8 1,z8 2,z8 3,z8 4,z8 5,z8 6,z8 7]).box) rfl (zN4 (A:=[I n.h,prs n.l,PV.sl (List.map ntV n.n),PV.sl (List.map zAR n.s),PV.own 2 [],PV.omap (List.map zBy MM)]) (B:=[z8 0,z8 1,z8 2,z8 3,z8 4,z8 5,z8 6,z8 7]) (F:=F.set i (↑i:Int)) (m:=8) (j:=i) (u:=(F.set i (↑i:Int)).getD (n.n.getD i default).fst.toNat 0) (by first | rfl | exact zBU (by kernel_rfl) | exact zBV (by kernel_rfl) | (simp;done)) (by omega) (by first | omega | (simp<;>omega))) rfl (hb:=zOd (A:=[I n.h,prs n.l,PV.sl (List.map ntV n.n),PV.sl (List.map zAR n.s),PV.own 2 [],PV.omap (List.map zBy MM)]) (B:=[z8 0,z8 1,z8 2,z8 3,z8 4,z8 5,z8 6,z8 7]) (F:=F.set i (↑i:Int)) (m:=8) (j:=i) (by first | rfl | exact zBU (by kernel_rfl) | exact zBV (by kernel_rfl) | (simp;done)) (by omega))) rfl:zBw (PV.agg [I n.h,prs n.l,PV.sl (List.map ntV n.n),PV.sl (List.map zAR n.s),PV.own 2 [],PV.omap (List.map zBy MM),zs F i 0,zs F i 1,zs F i 2,zs F i 3,zs F i 4,zs F i 5,zs F i 6,zs F i 7,z8 0,z8 1,z8 2,z8 3,z8 4,z8 5,z8 6,z8 7]).box [] 0 (6+i) (I ((F.set i (↑i:Int)).getD (n.n.getD i default).fst.toNat 0)).cells=some (PV.agg [I n.h,prs n.l,PV.sl (List.map ntV n.n),PV.sl (List.map zAR n.s),PV.own 2 [],PV.omap (List.map zBy MM),I (((F.set i (↑i:Int)).set i ((F.set i (↑i:Int)).getD (n.n.getD i default).fst.toNat 0)).getD 0 0),I (((F.set i (↑i:Int)).set i ((F.set i (↑i:Int)).getD (n.n.getD i default).fst.toNat 0)).getD 1 0),I (((F.set i (↑i:Int)).set i ((F.set i (↑i:Int)).getD (n.n.getD i default).fst.toNat 0)).getD 2 0),I (((F.set i (↑i:Int)).set i ((F.set i (↑i:Int)).getD (n.n.getD i default).fst.toNat 0)).getD 3 0),I (((F.set i (↑i:Int)).set i ((F.set i (↑i:Int)).getD (n.n.getD i default).fst.toNat 0)).getD 4 0),I (((F.set i (↑i:Int)).set i ((F.set i (↑i:Int)).getD (n.n.getD i default).fst.toNat 0)).getD 5 0),I (((F.set i (↑i:Int)).set i ((F.set i (↑i:Int)).getD (n.n.getD i default).fst.toNat 0)).getD 6 0),I (((F.set i (↑i:Int)).set i ((F.set i (↑i:Int)).getD (n.n.getD i default).fst.toNat 0)).getD 7 0),z8 0,z8 1,z8 2,z8 3,z8 4,z8 5,z8 6,z8 7]).box∧zAE (PV.agg [I n.h,prs n.l,PV.sl (List.map ntV n.n),PV.sl (List.map zAR n.s),PV.own 2 [],PV.omap (List.map zBy MM),zs F i 0,zs F i 1,zs F i 2,zs F i 3,zs F i 4,zs F i 5,zs F i 6,zs F i 7,z8 0,z8 1,z8 2,z8 3,z8 4,z8 5,z8 6,z8 7]).box (PV.agg [I n.h,prs n.l,PV.sl (List.map ntV n.n),PV.sl (List.map zAR n.s),PV.own 2 [],PV.omap (List.map zBy MM),I (((F.set i (↑i:Int)).set i ((F.set i (↑i:Int)).getD (n.n.getD i default).fst.toNat 0)).getD 0 0),I (((F.set i (↑i:Int)).set i ((F.set i (↑i:Int)).getD (n.n.getD i default).fst.toNat 0)).getD 1 0),I (((F.set i (↑i:Int)).set i ((F.set i (↑i:Int)).getD (n.n.getD i default).fst.toNat 0)).getD 2 0),I (((F.set i (↑i:Int)).set i ((F.set i (↑i:Int)).getD (n.n.getD i default).fst.toNat 0)).getD 3 0),I (((F.set i (↑i:Int)).set i ((F.set i (↑i:Int)).getD (n.n.getD i default).fst.toNat 0)).getD 4 0),I (((F.set i (↑i:Int)).set i ((F.set i (↑i:Int)).getD (n.n.getD i default).fst.toNat 0)).getD 5 0),I (((F.set i (↑i:Int)).set i ((F.set i (↑i:Int)).getD (n.n.getD i default).fst.toNat 0)).getD 6 0),I (((F.set i (↑i:Int)).set i ((F.set i (↑i:Int)).getD (n.n.getD i default).fst.toNat 0)).getD 7 0),z8 0,z8 1,z8 2,z8 3,z8 4,z8 5,z8 6,z8 7]).box []=true) an)<|zAa<|zAf<|S_a [(1,.v (I (↑(i+1):Int)))] (ap (wrN i) an)<|zAd 1<|zAa ?_)) (fun k0=>(zAk<|zAf<|S_a [(1,.v (I (↑(i+1):Int)))] (ap (wrN i) an)<|zAd 1<|zAa ?_))
   ·rw [zMC,if_neg k0] at yK
    exact ⟨(i+1,(F.set i i).set i ((F.set i i).getD (n.n.getD i default).1.toNat 0)),⟨by omega,yK.symm⟩,by simp only;omega,by kernel_rfl,by kernel_rfl⟩
   ·rw [zMC,if_pos k0] at yK
    exact ⟨(i+1,F.set i i),⟨by omega,yK.symm⟩,by simp only;omega,by kernel_rfl,by kernel_rfl⟩
  ·have hFF:F=zAl n:=by rw [hF,zAl,show i=n.n.length by omega]
   subst hFF
   clear hF
   have w5:zA8 n=zT4 (zAl n) n.n.length n.n.length:=rfl
   rw [w5]
   generalize hG:zAl n=F at *
   clear w5 h4
   refine zAc 1<|zAa<|zAh<|zAT ((↑i:Int)<(↑n.n.length:Int)) (by omega)<|zAA 2<|zAh<|zAc 2<|S_a [(0,.n n.n.length)] (ap (lnS ntV n.n) an)<|zAd 1<|zAa<|zAi 4 ?_
   refine zAq (fun (i,L)=>i≤n.n.length∧L=zT4 F n.n.length i) (fun (i,L)=>[(5,.box (zCs n (.own 2 []) (zTP MM) F L)),(68,I (i:Nat))]) (fun (i,_)=>n.n.length-i) ((0:Nat),List.replicate 8 0) ⟨Nat.zero_le _,rfl⟩ fun (i,L) ⟨hi,hL⟩=>?_
   have hLl:L.length=8:=by rw [hL];exact zO5 i
   by_cases yI:i<n.n.length
   ·have yK:=zMY (F:=F) (m:=n.n.length) (i:=i)
    rw [← hL] at yK
    refine zAc 1<|zAa<|zAh<|zAU ((↑i:Int)<(↑n.n.length:Int)) (by omega)<|zAk<|zAh<|zAi 5<|zAc 2<|zAa<|zAc 2<|S_a [(0,.n n.n.length)] (ap (lnS ntV n.n) an)<|zAd 1<|zAa<|zAi 6 ?_
    refine zAq (fun (k,Q)=>k≤n.n.length∧Q=zVt F i L k) (fun (k,Q)=>[(5,.box (zCs n (.own 2 []) (zTP MM) F Q)),(74,I (k:Nat))]) (fun (k,_)=>n.n.length-k) ((0:Nat),L) ⟨Nat.zero_le _,rfl⟩ fun (k,Q) ⟨hk,hQ⟩=>?_
    have hQl:Q.length=8:=by rw [hQ,zKR];exact hLl
    by_cases uM:k<n.n.length
    ·have jP:=zMO (F:=F) (L:=L) (i:=i) (k:=k)
     rw [← hQ] at jP
     clear yK hL hQ
     refine zAc 1<|zAa<|zAh<|zAU ((↑k:Int)<(↑n.n.length:Int)) (by omega)<|zAk<|zAh<|zAi 7<|zAc 2<|zAa<|zAc 4<|S_a [(2,.ob),(1,.v (PV.addr 5 [] 0 (6+k) none))] (ap ((by exact zAs (by omega)):decide (k<8)=true)<|ap ((zFr (by kernel_rfl)):PV.addr 5 [] 0 (6+k*(fun x=>x.size) Tryz.prog.types[3]) none=PV.addr 5 [] 0 (6+k) none) an)<|S_a [(0,.cs true ([I (F.getD k 0)]))] (ap (zDy (q:=(PV.agg [I n.h,prs n.l,PV.sl (List.map ntV n.n),PV.sl (List.map zAR n.s),PV.own 2 [],PV.omap (List.map zBy MM),I (F.getD 0 0),I (F.getD 1 0),I (F.getD 2 0),I (F.getD 3 0),I (F.getD 4 0),I (F.getD 5 0),I (F.getD 6 0),I (F.getD 7 0),I (Q.getD 0 0),I (Q.getD 1 0),I (Q.getD 2 0),I (Q.getD 3 0),I (Q.getD 4 0),I (Q.getD 5 0),I (Q.getD 6 0),I (Q.getD 7 0)]).box) (xs:=[PV.agg [I n.h,prs n.l,PV.sl (List.map ntV n.n),PV.sl (List.map zAR n.s),PV.own 2 [],PV.omap (List.map zBy MM),I (F.getD 0 0),I (F.getD 1 0),I (F.getD 2 0),I (F.getD 3 0),I (F.getD 4 0),I (F.getD 5 0),I (F.getD 6 0),I (F.getD 7 0),I (Q.getD 0 0),I (Q.getD 1 0),I (Q.getD 2 0),I (Q.getD 3 0),I (Q.getD 4 0),I (Q.getD 5 0),I (Q.getD 6 0),I (Q.getD 7 0)]]) (x:=PV.agg [I n.h,prs n.l,PV.sl (List.map ntV n.n),PV.sl (List.map zAR n.s),PV.own 2 [],PV.omap (List.map zBy MM),I (F.getD 0 0),I (F.getD 1 0),I (F.getD 2 0),I (F.getD 3 0),I (F.getD 4 0),I (F.getD 5 0),I (F.getD 6 0),I (F.getD 7 0),I (Q.getD 0 0),I (Q.getD 1 0),I (Q.getD 2 0),I (Q.getD 3 0),I (Q.getD 4 0),I (Q.getD 5 0),I (Q.getD 6 0),I (Q.getD 7 0)]) rfl rfl (zKm (A:=[I n.h,prs n.l,PV.sl (List.map ntV n.n),PV.sl (List.map zAR n.s),PV.own 2 [],PV.omap (List.map zBy MM)]) (B:=[I (Q.getD 0 0),I (Q.getD 1 0),I (Q.getD 2 0),I (Q.getD 3 0),I (Q.getD 4 0),I (Q.getD 5 0),I (Q.getD 6 0),I (Q.getD 7 0)]) (F:=F) (m:=8) (j:=k) (by first | rfl | exact zBU (by kernel_rfl) | exact zBV (by kernel_rfl) | (simp;done)) (by omega)):zAw 5 (PV.agg [I n.h,prs n.l,PV.sl (List.map ntV n.n),PV.sl (List.map zAR n.s),PV.own 2 [],PV.omap (List.map zBy MM),I (F.getD 0 0),I (F.getD 1 0),I (F.getD 2 0),I (F.getD 3 0),I (F.getD 4 0),I (F.getD 5 0),I (F.getD 6 0),I (F.getD 7 0),I (Q.getD 0 0),I (Q.getD 1 0),I (Q.getD 2 0),I (Q.getD 3 0),I (Q.getD 4 0),I (Q.getD 5 0),I (Q.getD 6 0),I (Q.getD 7 0)]).box [] 0 (6+k) 1=some (true,[I (F.getD k 0)])) an)<|zAd 4<|S_a [(2,.ob),(1,.v (PV.addr 5 [] 0 (6+i) none))] (ap ((by exact zAs (by omega)):decide (i<8)=true)<|ap ((zFr (by kernel_rfl)):PV.addr 5 [] 0 (6+i*(fun x=>x.size) Tryz.prog.types[3]) none=PV.addr 5 [] 0 (6+i) none) an)<|S_a [(0,.cs true ([I (F.getD i 0)]))] (ap (zDy (q:=(PV.agg [I n.h,prs n.l,PV.sl (List.map ntV n.n),PV.sl (List.map zAR n.s),PV.own 2 [],PV.omap (List.map zBy MM),I (F.getD 0 0),I (F.getD 1 0),I (F.getD 2 0),I (F.getD 3 0),I (F.getD 4 0),I (F.getD 5 0),I (F.getD 6 0),I (F.getD 7 0),I (Q.getD 0 0),I (Q.getD 1 0),I (Q.getD 2 0),I (Q.getD 3 0),I (Q.getD 4 0),I (Q.getD 5 0),I (Q.getD 6 0),I (Q.getD 7 0)]).box) (xs:=[PV.agg [I n.h,prs n.l,PV.sl (List.map ntV n.n),PV.sl (List.map zAR n.s),PV.own 2 [],PV.omap (List.map zBy MM),I (F.getD 0 0),I (F.getD 1 0),I (F.getD 2 0),I (F.getD 3 0),I (F.getD 4 0),I (F.getD 5 0),I (F.getD 6 0),I (F.getD 7 0),I (Q.getD 0 0),I (Q.getD 1 0),I (Q.getD 2 0),I (Q.getD 3 0),I (Q.getD 4 0),I (Q.getD 5 0),I (Q.getD 6 0),I (Q.getD 7 0)]]) (x:=PV.agg [I n.h,prs n.l,PV.sl (List.map ntV n.n),PV.sl (List.map zAR n.s),PV.own 2 [],PV.omap (List.map zBy MM),I (F.getD 0 0),I (F.getD 1 0),I (F.getD 2 0),I (F.getD 3 0),I (F.getD 4 0),I (F.getD 5 0),I (F.getD 6 0),I (F.getD 7 0),I (Q.getD 0 0),I (Q.getD 1 0),I (Q.getD 2 0),I (Q.getD 3 0),I (Q.getD 4 0),I (Q.getD 5 0),I (Q.getD 6 0),I (Q.getD 7 0)]) rfl rfl (zKm (A:=[I n.h,prs n.l,PV.sl (List.map ntV n.n),PV.sl (List.map zAR n.s),PV.own 2 [],PV.omap (List.map zBy MM)]) (B:=[I (Q.getD 0 0),I (Q.getD 1 0),I (Q.getD 2 0),I (Q.getD 3 0),I (Q.getD 4 0),I (Q.getD 5 0),I (Q.getD 6 0),I (Q.getD 7 0)]) (F:=F) (m:=8) (j:=i) (by first | rfl | exact zBU (by kernel_rfl) | exact zBV (by kernel_rfl) | (simp;done)) (by omega)):zAw 5 (PV.agg [I n.h,prs n.l,PV.sl (List.map ntV n.n),PV.sl (List.map zAR n.s),PV.own 2 [],PV.omap (List.map zBy MM),I (F.getD 0 0),I (F.getD 1 0),I (F.getD 2 0),I (F.getD 3 0),I (F.getD 4 0),I (F.getD 5 0),I (F.getD 6 0),I (F.getD 7 0),I (Q.getD 0 0),I (Q.getD 1 0),I (Q.getD 2 0),I (Q.getD 3 0),I (Q.getD 4 0),I (Q.getD 5 0),I (Q.getD 6 0),I (Q.getD 7 0)]).box [] 0 (6+i) 1=some (true,[I (F.getD i 0)])) an)<|zAd 1<|zAa<|zB3 (F.getD k 0=F.getD i 0) (fun k1=>(zAf<|zAd 6<|S_a [(2,.ob),(1,.v (PV.addr 5 [] 0 (14+i) none))] (ap ((by exact zAs (by omega)):decide (i<8)=true)<|ap ((zFr (by kernel_rfl)):PV.addr 5 [] 0 (14+i*(fun x=>x.size) Tryz.prog.types[3]) none=PV.addr 5 [] 0 (14+i) none) an)<|S_a [(0,.cs true ([I (Q.getD i 0)]))] (ap (zDy (q:=(PV.agg [I n.h,prs n.l,PV.sl (List.map ntV n.n),PV.sl (List.map zAR n.s),PV.own 2 [],PV.omap (List.map zBy MM),I (F.getD 0 0),I (F.getD 1 0),I (F.getD 2 0),I (F.getD 3 0),I (F.getD 4 0),I (F.getD 5 0),I (F.getD 6 0),I (F.getD 7 0),I (Q.getD 0 0),I (Q.getD 1 0),I (Q.getD 2 0),I (Q.getD 3 0),I (Q.getD 4 0),I (Q.getD 5 0),I (Q.getD 6 0),I (Q.getD 7 0)]).box) (xs:=[PV.agg [I n.h,prs n.l,PV.sl (List.map ntV n.n),PV.sl (List.map zAR n.s),PV.own 2 [],PV.omap (List.map zBy MM),I (F.getD 0 0),I (F.getD 1 0),I (F.getD 2 0),I (F.getD 3 0),I (F.getD 4 0),I (F.getD 5 0),I (F.getD 6 0),I (F.getD 7 0),I (Q.getD 0 0),I (Q.getD 1 0),I (Q.getD 2 0),I (Q.getD 3 0),I (Q.getD 4 0),I (Q.getD 5 0),I (Q.getD 6 0),I (Q.getD 7 0)]]) (x:=PV.agg [I n.h,prs n.l,PV.sl (List.map ntV n.n),PV.sl (List.map zAR n.s),PV.own 2 [],PV.omap (List.map zBy MM),I (F.getD 0 0),I (F.getD 1 0),I (F.getD 2 0),I (F.getD 3 0),I (F.getD 4 0),I (F.getD 5 0),I (F.getD 6 0),I (F.getD 7 0),I (Q.getD 0 0),I (Q.getD 1 0),I (Q.getD 2 0),I (Q.getD 3 0),I (Q.getD 4 0),I (Q.getD 5 0),I (Q.getD 6 0),I (Q.getD 7 0)]) rfl rfl (zKm (A:=[I n.h,prs n.l,PV.sl (List.map ntV n.n),PV.sl (List.map zAR n.s),PV.own 2 [],PV.omap (List.map zBy MM),I (F.getD 0 0),I (F.getD 1 0),I (F.getD 2 0),I (F.getD 3 0),I (F.getD 4 0),I (F.getD 5 0),I (F.getD 6 0),I (F.getD 7 0)]) (B:=[]) (F:=Q) (m:=8) (j:=i) (by first | rfl | exact zBU (by kernel_rfl) | exact zBV (by kernel_rfl) | (simp;done)) (by omega)):zAw 5 (PV.agg [I n.h,prs n.l,PV.sl (List.map ntV n.n),PV.sl (List.map zAR n.s),PV.own 2 [],PV.omap (List.map zBy MM),I (F.getD 0 0),I (F.getD 1 0),I (F.getD 2 0),I (F.getD 3 0),I (F.getD 4 0),I (F.getD 5 0),I (F.getD 6 0),I (F.getD 7 0),I (Q.getD 0 0),I (Q.getD 1 0),I (Q.getD 2 0),I (Q.getD 3 0),I (Q.getD 4 0),I (Q.getD 5 0),I (Q.getD 6 0),I (Q.getD 7 0)]).box [] 0 (14+i) 1=some (true,[I (Q.getD i 0)])) an)<|zAd 2<|S_a [(9,.ret (I (max (Q.getD i 0) (↑k:Int))) [])] (ap (f165 (Q.getD i 0) ((↑k:Int))) an)<|zAd 2<|S_a [(2,.ob),(1,.v (PV.addr 5 [] 0 (14+i) none))] (ap ((by exact zAs (by omega)):decide (i<8)=true)<|ap ((zFr (by kernel_rfl)):PV.addr 5 [] 0 (14+i*(fun x=>x.size) Tryz.prog.types[3]) none=PV.addr 5 [] 0 (14+i) none) an)<|S_a [(8,.root ((PV.agg [I n.h,prs n.l,PV.sl (List.map ntV n.n),PV.sl (List.map zAR n.s),PV.own 2 [],PV.omap (List.map zBy MM),I (F.getD 0 0),I (F.getD 1 0),I (F.getD 2 0),I (F.getD 3 0),I (F.getD 4 0),I (F.getD 5 0),I (F.getD 6 0),I (F.getD 7 0),I ((Q.set i (max (Q.getD i 0) (↑k:Int))).getD 0 0),I ((Q.set i (max (Q.getD i 0) (↑k:Int))).getD 1 0),I ((Q.set i (max (Q.getD i 0) (↑k:Int))).getD 2 0),I ((Q.set i (max (Q.getD i 0) (↑k:Int))).getD 3 0),I ((Q.set i (max (Q.getD i 0) (↑k:Int))).getD 4 0),I ((Q.set i (max (Q.getD i 0) (↑k:Int))).getD 5 0),I ((Q.set i (max (Q.getD i 0) (↑k:Int))).getD 6 0),I ((Q.set i (max (Q.getD i 0) (↑k:Int))).getD 7 0)]).box) true)] (ap (zPM (zKb (q:=(PV.agg [I n.h,prs n.l,PV.sl (List.map ntV n.n),PV.sl (List.map zAR n.s),PV.own 2 [],PV.omap (List.map zBy MM),I (F.getD 0 0),I (F.getD 1 0),I (F.getD 2 0),I (F.getD 3 0),I (F.getD 4 0),I (F.getD 5 0),I (F.getD 6 0),I (F.getD 7 0),I (Q.getD 0 0),I (Q.getD 1 0),I (Q.getD 2 0),I (Q.getD 3 0),I (Q.getD 4 0),I (Q.getD 5 0),I (Q.getD 6 0),I (Q.getD 7 0)]).box) (xs:=[PV.agg [I n.h,prs n.l,PV.sl (List.map ntV n.n),PV.sl (List.map zAR n.s),PV.own 2 [],PV.omap (List.map zBy MM),I (F.getD 0 0),I (F.getD 1 0),I (F.getD 2 0),I (F.getD 3 0),I (F.getD 4 0),I (F.getD 5 0),I (F.getD 6 0),I (F.getD 7 0),I (Q.getD 0 0),I (Q.getD 1 0),I (Q.getD 2 0),I (Q.getD 3 0),I (Q.getD 4 0),I (Q.getD 5 0),I (Q.getD 6 0),I (Q.getD 7 0)]]) (x:=PV.agg [I n.h,prs n.l,PV.sl (List.map ntV n.n),PV.sl (List.map zAR n.s),PV.own 2 [],PV.omap (List.map zBy MM),I (F.getD 0 0),I (F.getD 1 0),I (F.getD 2 0),I (F.getD 3 0),I (F.getD 4 0),I (F.getD 5 0),I (F.getD 6 0),I (F.getD 7 0),I (Q.getD 0 0),I (Q.getD 1 0),I (Q.getD 2 0),I (Q.getD 3 0),I (Q.getD 4 0),I (Q.getD 5 0),I (Q.getD 6 0),I (Q.getD 7 0)]) (y:=PV.agg [I n.h,prs n.l,PV.sl (List.map ntV n.n),PV.sl (List.map zAR n.s),PV.own 2 [],PV.omap (List.map zBy MM),I (F.getD 0 0),I (F.getD 1 0),I (F.getD 2 0),I (F.getD 3 0),I (F.getD 4 0),I (F.getD 5 0),I (F.getD 6 0),I (F.getD 7 0),I ((Q.set i (max (Q.getD i 0) (↑k:Int))).getD 0 0),I ((Q.set i (max (Q.getD i 0) (↑k:Int))).getD 1 0),I ((Q.set i (max (Q.getD i 0) (↑k:Int))).getD 2 0),I ((Q.set i (max (Q.getD i 0) (↑k:Int))).getD 3 0),I ((Q.set i (max (Q.getD i 0) (↑k:Int))).getD 4 0),I ((Q.set i (max (Q.getD i 0) (↑k:Int))).getD 5 0),I ((Q.set i (max (Q.getD i 0) (↑k:Int))).getD 6 0),I ((Q.set i (max (Q.getD i 0) (↑k:Int))).getD 7 0)]) (q':=(PV.agg [I n.h,prs n.l,PV.sl (List.map ntV n.n),PV.sl (List.map zAR n.s),PV.own 2 [],PV.omap (List.map zBy MM),I (F.getD 0 0),I (F.getD 1 0),I (F.getD 2 0),I (F.getD 3 0),I (F.getD 4 0),I (F.getD 5 0),I (F.getD 6 0),I (F.getD 7 0),I ((Q.set i (max (Q.getD i 0) (↑k:Int))).getD 0 0),I ((Q.set i (max (Q.getD i 0) (↑k:Int))).getD 1 0),I ((Q.set i (max (Q.getD i 0) (↑k:Int))).getD 2 0),I ((Q.set i (max (Q.getD i 0) (↑k:Int))).getD 3 0),I ((Q.set i (max (Q.getD i 0) (↑k:Int))).getD 4 0),I ((Q.set i (max (Q.getD i 0) (↑k:Int))).getD 5 0),I ((Q.set i (max (Q.getD i 0) (↑k:Int))).getD 6 0),I ((Q.set i (max (Q.getD i 0) (↑k:Int))).getD 7 0)]).box) rfl (zN4 (A:=[I n.h,prs n.l,PV.sl (List.map ntV n.n),PV.sl (List.map zAR n.s),PV.own 2 [],PV.omap (List.map zBy MM),I (F.getD 0 0),I (F.getD 1 0),I (F.getD 2 0),I (F.getD 3 0),I (F.getD 4 0),I (F.getD 5 0),I (F.getD 6 0),I (F.getD 7 0)]) (B:=[]) (F:=Q) (m:=8) (j:=i) (u:=max (Q.getD i 0) (↑k:Int)) (by first | rfl | exact zBU (by kernel_rfl) | exact zBV (by kernel_rfl) | (simp;done)) (by omega) (by omega)) rfl (hb:=zOd (A:=[I n.h,prs n.l,PV.sl (List.map ntV n.n),PV.sl (List.map zAR n.s),PV.own 2 [],PV.omap (List.map zBy MM),I (F.getD 0 0),I (F.getD 1 0),I (F.getD 2 0),I (F.getD 3 0),I (F.getD 4 0),I (F.getD 5 0),I (F.getD 6 0),I (F.getD 7 0)]) (B:=[]) (F:=Q) (m:=8) (j:=i) (by first | rfl | exact zBU (by kernel_rfl) | exact zBV (by kernel_rfl) | (simp;done)) (by omega))) rfl:zBw (PV.agg [I n.h,prs n.l,PV.sl (List.map ntV n.n),PV.sl (List.map zAR n.s),PV.own 2 [],PV.omap (List.map zBy MM),I (F.getD 0 0),I (F.getD 1 0),I (F.getD 2 0),I (F.getD 3 0),I (F.getD 4 0),I (F.getD 5 0),I (F.getD 6 0),I (F.getD 7 0),I (Q.getD 0 0),I (Q.getD 1 0),I (Q.getD 2 0),I (Q.getD 3 0),I (Q.getD 4 0),I (Q.getD 5 0),I (Q.getD 6 0),I (Q.getD 7 0)]).box [] 0 (14+i) (I (max (Q.getD i 0) (↑k:Int))).cells=some (PV.agg [I n.h,prs n.l,PV.sl (List.map ntV n.n),PV.sl (List.map zAR n.s),PV.own 2 [],PV.omap (List.map zBy MM),I (F.getD 0 0),I (F.getD 1 0),I (F.getD 2 0),I (F.getD 3 0),I (F.getD 4 0),I (F.getD 5 0),I (F.getD 6 0),I (F.getD 7 0),I ((Q.set i (max (Q.getD i 0) (↑k:Int))).getD 0 0),I ((Q.set i (max (Q.getD i 0) (↑k:Int))).getD 1 0),I ((Q.set i (max (Q.getD i 0) (↑k:Int))).getD 2 0),I ((Q.set i (max (Q.getD i 0) (↑k:Int))).getD 3 0),I ((Q.set i (max (Q.getD i 0) (↑k:Int))).getD 4 0),I ((Q.set i (max (Q.getD i 0) (↑k:Int))).getD 5 0),I ((Q.set i (max (Q.getD i 0) (↑k:Int))).getD 6 0),I ((Q.set i (max (Q.getD i 0) (↑k:Int))).getD 7 0)]).box∧zAE (PV.agg [I n.h,prs n.l,PV.sl (List.map ntV n.n),PV.sl (List.map zAR n.s),PV.own 2 [],PV.omap (List.map zBy MM),I (F.getD 0 0),I (F.getD 1 0),I (F.getD 2 0),I (F.getD 3 0),I (F.getD 4 0),I (F.getD 5 0),I (F.getD 6 0),I (F.getD 7 0),I (Q.getD 0 0),I (Q.getD 1 0),I (Q.getD 2 0),I (Q.getD 3 0),I (Q.getD 4 0),I (Q.getD 5 0),I (Q.getD 6 0),I (Q.getD 7 0)]).box (PV.agg [I n.h,prs n.l,PV.sl (List.map ntV n.n),PV.sl (List.map zAR n.s),PV.own 2 [],PV.omap (List.map zBy MM),I (F.getD 0 0),I (F.getD 1 0),I (F.getD 2 0),I (F.getD 3 0),I (F.getD 4 0),I (F.getD 5 0),I (F.getD 6 0),I (F.getD 7 0),I ((Q.set i (max (Q.getD i 0) (↑k:Int))).getD 0 0),I ((Q.set i (max (Q.getD i 0) (↑k:Int))).getD 1 0),I ((Q.set i (max (Q.getD i 0) (↑k:Int))).getD 2 0),I ((Q.set i (max (Q.getD i 0) (↑k:Int))).getD 3 0),I ((Q.set i (max (Q.getD i 0) (↑k:Int))).getD 4 0),I ((Q.set i (max (Q.getD i 0) (↑k:Int))).getD 5 0),I ((Q.set i (max (Q.getD i 0) (↑k:Int))).getD 6 0),I ((Q.set i (max (Q.getD i 0) (↑k:Int))).getD 7 0)]).box []=true) an)<|zAa<|zAf<|S_a [(1,.v (I (↑(k+1):Int)))] (ap (wrN k) an)<|zAd 1<|zAa ?_)) (fun k1=>(zAk<|zAf<|S_a [(1,.v (I (↑(k+1):Int)))] (ap (wrN k) an)<|zAd 1<|zAa ?_))
     ·rw [zP2,if_pos (by assumption)] at jP
      exact ⟨(k+1,Q.set i (max (Q.getD i 0) k)),⟨by omega,jP.symm⟩,by simp only;omega,by kernel_rfl,by kernel_rfl⟩
     ·rw [zP2,if_neg (by assumption)] at jP
      exact ⟨(k+1,Q),⟨by omega,jP.symm⟩,by simp only;omega,by kernel_rfl,by kernel_rfl⟩
    ·refine zAc 1<|zAa<|zAh<|zAT ((↑k:Int)<(↑n.n.length:Int)) (by omega)<|zAA 6<|zAf<|S_a [(1,.v (I (↑(i+1):Int)))] (ap (wrN i) an)<|zAd 1<|zAa ?_
     exact ⟨(i+1,Q),⟨by omega,by rw [yK,hQ,show k=n.n.length by omega]⟩,by simp only;omega,by kernel_rfl,by kernel_rfl⟩
   ·refine zAc 1<|zAa<|zAh<|zAT ((↑i:Int)<(↑n.n.length:Int)) (by omega)<|zAA 4<|zAc 1<|zAd 1<|zAd 1<|zAa<|zAn<|E_a [] an (PV.tup [(PV.agg [I n.h,prs n.l,PV.sl (List.map ntV n.n),PV.sl (List.map zAR n.s),PV.own 2 [],PV.omap (List.map zBy MM),I (F.getD 0 0),I (F.getD 1 0),I (F.getD 2 0),I (F.getD 3 0),I (F.getD 4 0),I (F.getD 5 0),I (F.getD 6 0),I (F.getD 7 0),I (L.getD 0 0),I (L.getD 1 0),I (L.getD 2 0),I (L.getD 3 0),I (L.getD 4 0),I (L.getD 5 0),I (L.getD 6 0),I (L.getD 7 0)]).box,I 0]) [] ?_ rfl
    rw [hL,show i=n.n.length by omega]
end
end Go.Eng
set_option maxRecDepth 10000
set_option maxHeartbeats 4000000
namespace Go.Eng
open Go Go.Proofs
abbrev mapM (M:List (Int×Int)):PV := .map (M.map zBy)
abbrev zDL (n:Nw) (cs:List (Int×Int)):PV := .ref (zCs n (prs cs) (mapM (n.l.map pr2)) (zAl n) (zA8 n))
def zGG (n:Nw) (c:Int×Int):Bool:=inB c.1 0 (n.n.length-1)&&inB c.2 0 (n.s.length-1)
def zDi (n:Nw) (cs:List (Int×Int)):Int:=if zCS n=0 then if (cs.length:Int)>16 then 2 else if (!cs.all fun c=>zGG n c)=true then 1 else 0 else zCS n
def zDj (n:Nw) (cs:List (Int×Int)) (e:Int):Int:=if zDi n cs=0 then if inB e 0 12=true then 0 else 3 else zDi n cs
structure CrOk (n:Nw) (cs:List (Int×Int)):Prop where
 err:zDi n cs=0
 nw:NwOk n
 len:cs.length≤16
 cs:∀ c∈cs,(0≤c.1∧c.1<n.n.length)∧(0≤c.2∧c.2<n.s.length)
structure CrW (n:Nw) (cs:List (Int×Int)):Prop where
 nw:NwOk n
 len:cs.length≤1000
 cs:∀ c∈cs,(0≤c.1∧c.1<n.n.length)∧(0≤c.2∧c.2<n.s.length)
theorem CrOk.w {n:Nw} {cs:List (Int×Int)} (h:CrOk n cs):CrW n cs:=⟨h.nw,by have:=h.len;omega,h.cs⟩
theorem zVs {n:Nw} {cs:List (Int×Int)} (he:zDi n cs=0):CrOk n cs:=by
 have he0:=he
 unfold zDi at he
 split at he
 case isFalse h=>exact absurd he h
 rename_i c1
 split at he
 ·cases he
 split at he
 ·cases he
 rename_i c2 c3
 simp only [Bool.not_eq_true,Bool.not_eq_false',List.all_eq_true] at c3
 refine ⟨he0,zS7 c1,by omega,fun c hc=>?_⟩
 have:=c3 c hc
 simp only [zGG,Bool.and_eq_true] at this
 have b1:=zEx this.1
 have b2:=zEx this.2
 omega
structure EvOk (n:Nw) (cs:List (Int×Int)) (e:Int):Prop where
 err:zDj n cs e=0
 cr:CrOk n cs
 ev:0≤e∧e≤12
theorem zSX {n:Nw} {cs:List (Int×Int)} {e:Int} (he:zDj n cs e=0):EvOk n cs e:=by
 have he0:=he
 unfold zDj at he
 split at he
 case isFalse h=>exact absurd he h
 rename_i c1
 split at he
 ·rename_i h;exact ⟨he0,zVs c1,zEx h⟩
 ·cases he
section
variable [Yo]
theorem f170 (n:Nw) (x:Int) (hb:n.s.length≤6):FG 170 [nwV n,I x] (.bool (inB x 0 (n.s.length-1))):=by
 refine zAe Tryz.f170 ?_
 refine zAc 2<|zAa<|zAc 3<|S_a [(0,.n n.s.length)] (ap (lnS zAR n.s) an)<|S_a [(1,.v (I ((↑n.s.length:Int)-1)))] (ap ((zDl rfl (by omega)):I (IntKind.i64.wrap ((↑n.s.length:Int)-1))=I ((↑n.s.length:Int)-1)) an)<|S_a [(10,.ret (PV.bool (inB x 0 ((↑n.s.length:Int)-1))) [])] (ap (f107 x (0) ((↑n.s.length:Int)-1)) an)<|zAd 1<|zAa<|zAn<|E_a [] an (PV.bool (inB x 0 ((↑n.s.length:Int)-1))) [] rfl rfl
theorem f118 (n:Nw) (c:Int×Int) (cp:PV) (M:List (Int×Int)) (F L:List Int) (ho:NwOk n):FG 118 [.ref (zCs n cp (mapM M) F L),prV c] (.bool (zGG n c)):=by
 have h1:=ho.nl.2
 have h2:=ho.sl.2
 refine zAe Tryz.f118 ?_
 refine zAc 2<|zAa<|zAc 6<|S_a [(8,.ret (PV.bool (inB c.fst 0 ((↑n.n.length:Int)-1))) [])] (ap (f106 n c.fst (by omega)) an)<|zAd 1<|zEi 12 (inB c.fst 0 ((↑n.n.length:Int)-1)) (fun k0=>(zAd 6<|S_a [(8,.ret (PV.bool (inB c.snd 0 ((↑n.s.length:Int)-1))) [])] (ap (f170 n c.snd (by omega)) an)<|zAd 2<|zAa<|zAn<|E_a [] an (PV.bool (inB c.snd 0 ((↑n.s.length:Int)-1))) [] ?_ rfl)) (fun k0=>(zAd 9<|zAa<|zAn<|E_a [] an (PV.bool false) [] ?_ rfl))
 ·simp only [zGG,k0,Bool.true_and]
 ·simp only [zGG,k0,Bool.false_and]
theorem f204_1 (n:Nw) (M:List (Int×Int)) (F L:List Int) (ho:NwOk n) (x:Int×Int):FG 204 [prV x,.ref (.func 118 [.ref (zCs n (.sl []) (mapM M) F L)] [])] (.bool (!(zGG n x))):=by
 refine zAe Tryz.f204 ?_
 refine zAc 2<|zAa<|zAc 2<|S_a [(7,.ret (PV.bool (zGG n x)) [])] (ap (f118 n x (PV.sl []) M F L (by omega)) an)<|zAd 2<|zAa<|zAn<|E_a [] an (PV.bool !zGG n x) [] rfl rfl
theorem f203_1 (n:Nw) (M:List (Int×Int)) (F L:List Int) (ho:NwOk n) (l:List (Int×Int)) (hl:l.length<4294967296):FG 203 [.sl (l.map prV),.func 204 [] [.ref (.func 118 [.ref (zCs n (.sl []) (mapM M) F L)] [])]] (I (zEF (fun x => !(zGG n x)) l)):=by
 refine zAe Tryz.f203 ?_
 refine zAc 1<|zAa<|zAh<|zAc 1<|S_a [(0,.n l.length)] (ap (lnS prV l) an)<|zAd 1<|zAa<|zAi 0 ?_
 refine zAq (fun i=>i≤l.length∧∀ j,j<i→(fun x => !(zGG n x)) (l.getD j default)=false) (fun i=>[(8,I (i:Nat))]) (fun i=>l.length-i) (0:Nat) (by simp) fun i ⟨hi,ha⟩=>?_
 refine zAc 1<|zAa<|zAh<|zB3 ((↑i:Int)<(↑l.length:Int)) (fun k0=>(zAk<|zAh<|zAi 1<|zAc 2<|zAa<|zAc 3<|S_a [(2,.v (PV.agg [I (l.getD i default).fst,I (l.getD i default).snd]))] (ap (zBJ default (by omega):(List.map prV l)[i]? = some (PV.agg [I (l.getD i default).fst,I (l.getD i default).snd])) an)<|zAd 1<|S_a [(7,.ret (PV.bool !zGG n (l.getD i default)) [])] (ap (f204_1 n M F L (by omega) (l.getD i default)) an)<|zAa<|zEb (!zGG n (l.getD i default)) (fun k1=>(zAc 2<|zAa<|zAn<|E_a [] an (I (↑i:Int)) [] ?_ rfl)) (fun k1=>(zAk<|zAf<|S_a [(1,.v (I (↑(i+1):Int)))] (ap (wrN i) an)<|zAd 1<|zAa ?_)))) (fun k0=>(zAA 0<|zAc 1<|zAa<|zAn<|E_a [] an (I (-1)) [] ?_ rfl))
 ·rw [zBX (i:=i) (by omega) (fun j hj=>by rw [← zAt (d:=default)];exact ha j hj) (by rw [← zAt (d:=default)];first | assumption | exact decide_eq_true ‹_› | (simp only [Bool.not_eq_true',decide_eq_false_iff_not];assumption))]
 ·refine ⟨i+1,⟨by omega,fun j hj=>?_⟩,by omega,by kernel_rfl,by kernel_rfl⟩
  rcases Nat.lt_succ_iff_lt_or_eq.1 hj with h | rfl
  ·exact ha j h
  ·first | assumption | exact decide_eq_false ‹_› | (simp only [Bool.not_eq_false',decide_eq_true_eq];first | assumption | (apply Decidable.of_not_not;assumption))
 ·rw [zCn fun j hj=>by rw [← zAt (d:=default)];exact ha j (by omega)]
theorem f159_1 (n:Nw) (M:List (Int×Int)) (F L:List Int) (ho:NwOk n) (l:List (Int×Int)) (hl:l.length<4294967296):FG 159 [.sl (l.map prV),.func 204 [] [.ref (.func 118 [.ref (zCs n (.sl []) (mapM M) F L)] [])]] (.bool (l.any (fun x => !(zGG n x)))):=by
 refine zAe Tryz.f159 ?_
 refine zAc 1<|zAa<|zAc 2<|S_a [(7,.ret (I (zEF (fun x => !zGG n x) l)) [])] (ap (f203_1 n M F L (by omega) l (by omega)) an)<|zAd 2<|zAa<|zAn<|E_a [] an (PV.bool (decide (zEF (fun x => !zGG n x) l≥0))) [] ?_ rfl
 rw [zD1]
theorem f164_1 (n:Nw) (M:List (Int×Int)) (F L:List Int) (ho:NwOk n) (l:List (Int×Int)) (hl:l.length<4294967296):FG 164 [.sl (l.map prV),.func 118 [.ref (zCs n (.sl []) (mapM M) F L)] []] (.bool (l.all (fun x=>zGG n x))):=by
 refine zAe Tryz.f164 ?_
 refine zAc 2<|zAa<|zAc 2<|S_a [(12,.ret (PV.bool (l.any fun x => !zGG n x)) [])] (ap (f159_1 n M F L (by omega) l (by omega)) an)<|zAd 2<|zAa<|zAn<|E_a [] an (PV.bool !l.any fun x => !zGG n x) [] ?_ rfl
 simp [List.not_any_eq_all_not]
theorem f99_1 (n:Nw) (cs:List (Int×Int)) (ho:CrOk n cs):FG 99 [nwV n,prs cs] (.tup [zDL n cs,I 0]):=by
 have hn:=ho.nw
 have hl:=ho.len
 have ha:(!cs.all fun c=>zGG n c)=false:=by
  simp only [Bool.not_eq_false',List.all_eq_true]
  intro c hc
  have:=ho.cs c hc
  simp only [zGG,inB,Bool.and_eq_true,decide_eq_true_eq];omega
 refine zAe Tryz.f99 ?_
 refine zAc 3<|zAa<|zAc 1<|S_a [(6,.ret (PV.tup [(zCs n (PV.own 2 []) (zTP (List.map pr2 n.l)) (zAl n) (zA8 n)).box,I 0]) [])] (ap (f139_1 n (by omega)) an)<|zAd 5<|zAa<|zAh<|zAi 0<|zAc 3<|zAa<|zA0<|zAc 1<|S_a [(0,.n cs.length)] (ap (lnS prV cs) an)<|zAd 2<|zAa<|zAT ((↑cs.length:Int)>16) (by omega)<|zAc 3<|S_a [(13,.ret (PV.bool (cs.all fun x=>zGG n x)) [])] (ap (f164_1 n (List.map pr2 n.l) (zAl n) (zA8 n) (by omega) cs (by omega)) an)<|zAd 2<|zAa<|zEb (!cs.all fun x=>zGG n x) (fun k0=>(zAc 2<|zAa<|zAn<|E_a [] an (PV.tup [PV.nilp,I 1]) [] ?_ rfl)) (fun k0=>(zAk<|zAc 5<|zAa<|zAc 1<|zAd 1<|zAd 1<|zAa<|zAn<|E_a [] an (PV.tup [(PV.agg (I n.h::prs n.l::PV.sl (List.map ntV n.n)::PV.sl (List.map zAR n.s)::prs cs::PV.map (List.map zBy (List.map pr2 n.l))::(zAS (zAl n) 8++zAS (zA8 n) 8))).ref,I 0]) [] rfl rfl))
 rw [ha] at k0;cases k0
theorem f99_2 (n:Nw) (cs:List (Int×Int)) (hs:Small n) (hl:cs.length<1000000) (ho:¬ zDi n cs=0):FG 99 [nwV n,prs cs] (.tup [.nilp,I (zDi n cs)]):=by
 by_cases he:zCS n=0
 ·have hn:=zS7 he
  refine zAe Tryz.f99 ?_
  refine zAc 3<|zAa<|zAc 1<|S_a [(6,.ret (PV.tup [(zCs n (PV.own 2 []) (zTP (List.map pr2 n.l)) (zAl n) (zA8 n)).box,I 0]) [])] (ap (f139_1 n (by omega)) an)<|zAd 5<|zAa<|zAh<|zAi 0<|zAc 3<|zAa<|zA0<|zAc 1<|S_a [(0,.n cs.length)] (ap (lnS prV cs) an)<|zAd 2<|zAa<|zB3 ((↑cs.length:Int)>16) (fun k0=>(zAc 2<|zAa<|zAn<|E_a [] an (PV.tup [PV.nilp,I 2]) [] ?_ rfl)) (fun k0=>(zAc 3<|S_a [(13,.ret (PV.bool (cs.all fun x=>zGG n x)) [])] (ap (f164_1 n (List.map pr2 n.l) (zAl n) (zA8 n) (by omega) cs (by omega)) an)<|zAd 2<|zAa<|zEb (!cs.all fun x=>zGG n x) (fun k1=>(zAc 2<|zAa<|zAn<|E_a [] an (PV.tup [PV.nilp,I 1]) [] ?_ rfl)) (fun k1=>(zAk<|zAc 5<|zAa<|zAc 1<|zAd 1<|zAd 1<|zAa<|zAn<|E_a [] an (PV.tup [(PV.agg (I n.h::prs n.l::PV.sl (List.map ntV n.n)::PV.sl (List.map zAR n.s)::prs cs::PV.map (List.map zBy (List.map pr2 n.l))::(zAS (zAl n) 8++zAS (zA8 n) 8))).ref,I 0]) [] ?_ rfl))))
  ·simp only [zDi,he,k0,if_true]
  ·simp only [zDi,he,k0,k1,if_true,if_false];try rfl
  ·exact absurd (by simp only [zDi,he,k0,k1,if_true,if_false];rfl) ho
 ·refine zAe Tryz.f99 ?_
  refine zAc 3<|zAa<|zAc 1<|S_a [(6,.ret (PV.tup [PV.nilp,I (zCS n)]) [])] (ap (f139_2 n (by omega) (by omega)) an)<|zAd 5<|zAa<|zAh<|zAi 0<|zAc 3<|zAa<|zD8 (zCS n=0) (by omega)<|zAc 3<|zAa<|zAn<|E_a [] an (PV.tup [PV.nilp,I (zCS n)]) [] ?_ rfl
  simp only [zDi,he,if_false]
theorem f90_1 (n:Nw) (cs:List (Int×Int)) (e:Int) (ho:EvOk n cs e):FG 90 [nwV n,prs cs,I e] (.tup [zDL n cs,I 0]):=by
 have hc:=ho.cr
 have he:inB e 0 12=true:=by have:=ho.ev;simp only [inB,Bool.and_eq_true,decide_eq_true_eq];omega
 refine zAe Tryz.f90 ?_
 refine zAc 3<|zAa<|zAc 2<|S_a [(8,.ret (PV.tup [zDL n cs,I 0]) [])] (ap (f99_1 n cs (by omega)) an)<|zAd 5<|zAa<|zAh<|zAc 4<|S_a [(10,.ret (PV.bool (inB e 0 12)) [])] (ap (f107 e (0) (12)) an)<|zAd 2<|zAa<|zEb (!inB e 0 12) (fun k0=>(zAf<|zAd 1<|zAa<|zAh<|zAc 2<|zAa<|zBR<|zAc 3<|zAa<|zAn<|E_a [] an (PV.tup [PV.nilp,I 3]) [] ?_ rfl)) (fun k0=>(zAk<|zAh<|zAc 2<|zAa<|zA0<|zAk<|zAc 3<|zAa<|zAn<|E_a [] an (PV.tup [(PV.agg (I n.h::prs n.l::PV.sl (List.map ntV n.n)::PV.sl (List.map zAR n.s)::prs cs::PV.map (List.map zBy (List.map pr2 n.l))::(zAS (zAl n) 8++zAS (zA8 n) 8))).ref,I 0]) [] rfl rfl))
 rw [he] at k0;cases k0
theorem f90_2 (n:Nw) (cs:List (Int×Int)) (e:Int) (hs:Small n) (hl:cs.length<1000000) (ho:¬ zDj n cs e=0):FG 90 [nwV n,prs cs,I e] (.tup [.nilp,I (zDj n cs e)]):=by
 by_cases he:zDi n cs=0
 ·have hc:=zVs he
  refine zAe Tryz.f90 ?_
  refine zAc 3<|zAa<|zAc 2<|S_a [(8,.ret (PV.tup [zDL n cs,I 0]) [])] (ap (f99_1 n cs (by omega)) an)<|zAd 5<|zAa<|zAh<|zAc 4<|S_a [(10,.ret (PV.bool (inB e 0 12)) [])] (ap (f107 e (0) (12)) an)<|zAd 2<|zAa<|zEb (!inB e 0 12) (fun k0=>(zAf<|zAd 1<|zAa<|zAh<|zAc 2<|zAa<|zBR<|zAc 3<|zAa<|zAn<|E_a [] an (PV.tup [PV.nilp,I 3]) [] ?_ rfl)) (fun k0=>(zAk<|zAh<|zAc 2<|zAa<|zA0<|zAk<|zAc 3<|zAa<|zAn<|E_a [] an (PV.tup [(PV.agg (I n.h::prs n.l::PV.sl (List.map ntV n.n)::PV.sl (List.map zAR n.s)::prs cs::PV.map (List.map zBy (List.map pr2 n.l))::(zAS (zAl n) 8++zAS (zA8 n) 8))).ref,I 0]) [] ?_ rfl))
  ·rw [Bool.not_eq_true'] at k0
   simp only [zDj,he,k0,if_true];try rfl
  ·rw [Bool.not_eq_false'] at k0
   exact absurd (by simp only [zDj,he,k0,if_true]) ho
 ·refine zAe Tryz.f90 ?_
  refine zAc 3<|zAa<|zAc 2<|S_a [(8,.ret (PV.tup [PV.nilp,I (zDi n cs)]) [])] (ap (f99_2 n cs (by omega) (by omega) (by omega)) an)<|zAd 5<|zAa<|zAh<|zAc 3<|zT6 18 (zDi n cs=0) (by omega) (zAd 4<|zAa<|zA0<|zAk<|zAh<|zAc 2<|zAa<|zD8 (zDi n cs=0) (by omega)<|zAc 3<|zAa<|zAn<|E_a [] an (PV.tup [PV.nilp,I (zDi n cs)]) [] ?_ rfl)
  simp only [zDj,he,if_false]
theorem f140 (n:Nw) (cp:PV) (M:List (Int×Int)) (F L:List Int) (ho:NwOk n) (h:Int) (s:Int) (hs:0≤s∧s<n.s.length):FG 140 [.ref (zCs n cp (mapM M) F L),I h,I s] (.bool (has (n.s.getD s.toNat []) h)):=by
 have h1:=zBK (d:=[]) ho.rows s.toNat (by omega)
 refine zAe Tryz.f140 ?_
 refine zAc 1<|zAa<|zAc 6<|S_a [(0,.ob),(1,.v (zAR (n.s.getD s.toNat [])))] (ap ((by exact zAs (by omega)):decide (0≤s)=true)<|ap (zBJ [] (by omega):(List.map zAR n.s)[s.toNat]? = some (zAR (n.s.getD s.toNat []))) an)<|zAd 2<|S_a [(8,.ret (PV.bool (has (n.s.getD s.toNat []) h)) [])] (ap (f58 (n.s.getD s.toNat []) h (by omega)) an)<|zAd 1<|zAa<|zAn<|E_a [] an (PV.bool (has (n.s.getD s.toNat []) h)) [] rfl rfl
theorem f116 (n:Nw) (cs:List (Int×Int)) (h:Int):FG 116 [zDL n cs,I h] (.func 169 [] [.ref (zDL n cs),.ref (I h)]):=by
 refine zAe Tryz.f116 ?_
 refine zAc 3<|zAa<|zAc 2<|zAa<|zAn<|E_a [] an (PV.func 169 [] [(PV.agg (I n.h::prs n.l::PV.sl (List.map ntV n.n)::PV.sl (List.map zAR n.s)::prs cs::PV.map (List.map zBy (List.map pr2 n.l))::(zAS (zAl n) 8++zAS (zA8 n) 8))).ref.ref,(I h).ref]) [] rfl rfl
end
def zF6 (n:Nw) (a b:Int):Bool:=decide (pr2 (a,b)∈n.l.map pr2)
def zHF (n:Nw) (h:Nat) (o:Nat):List Nat:=(List.range o).filter fun o=>zF6 n h o
theorem zJI {n:Nw} {h o:Nat}:zHF n h (o+1)=if zF6 n h o=true then zHF n h o++[o] else zHF n h o:=by
 unfold zHF;rw [List.range_succ,List.filter_append]
 by_cases hn:zF6 n h o=true
 ·rw [if_pos hn];simp [hn]
 ·rw [if_neg hn];simp [hn]
theorem zTu {n:Nw} {h t m:Nat} (ht:t≤m):zHF n h t <+: zHF n h m:=by
  induction ht with
  | refl=>exact List.prefix_refl _
  | step _ ih => rw [zJI];split
                 · exact ih.trans (List.prefix_append _ _)
                 · exact ih
theorem zST {α:Type} {x y:List α} (h:x <+: y) {k:Int} (hk:k=x.length):x=y.take k.toNat:=by
 rw [hk,Int.toNat_natCast];exact List.prefix_iff_eq_take.1 h
abbrev zIR (n:Nw) (h o:Nat):List (List PV):=(zHF n h o).map fun (o:Nat)=>[I o]
abbrev zQC (n:Nw) (cs:List (Int×Int)) (h:Nat):List PV:=[.ref (zDL n cs),.ref (I h)]
theorem zVx [Yo] (n:Nw) (cs:List (Int×Int)) (h:Nat) (ho:NwOk n) (hh:(h:Int)<n.h) (k:Int) (hk:k = -1∨1≤k∧k≤(zHF n h n.h.toNat).length) (i:Nat):W Tryz.prog zJX 169 Tryz.f169.ntmps (Tryz.f169.body.getD .ret) (zA5 ([]++PV.yld i::zQC n cs h) []) (some ⟨[],k,i⟩) fun x _ lg=>(x = .norm∨x = .ret)∧lg.map (·.xs)=some (if k = -1 then zIR n h n.h.toNat else (zIR n h n.h.toNat).take k.toNat):=by
 have hb:=ho.h
 refine zAc 6<|zAa<|zAi 0 ?_
 refine zVH (fun (o,xs,kc)=>o≤n.h.toNat∧xs=zIR n h o∧kc=k-xs.length∧(k = -1∨1≤kc)) (fun (o,_,_)=>[(10,I (o:Nat))]) (fun (_,xs,kc)=>some ⟨xs,kc,i⟩) (fun (o,_,_)=>n.h.toNat-o) ((0:Nat),([]:List (List PV)),k) ⟨Nat.zero_le _,rfl,by simp,by omega⟩ fun (o,xs,kc) ⟨hr,jX,hkc,jI⟩=>?_
 by_cases hol:(o:Int)<n.h
 ·have yg:=zJI (n:=n) (h:=h) (o:=o)
  by_cases hI:zF6 n h o=true
  ·rw [if_pos hI] at yg
   have ga:pr2 ((h:Int),(o:Int))∈n.l.map pr2:=by simpa [zF6] using hI
   obtain ⟨j,hj,jK⟩:=zRo ga
   have jl:zJB ((n.l.map pr2).map zBy) j=some (.bool true):=by
    have:j<n.l.length:=by simpa using hj
    simp [zJB,this]
   have qS:xs++[[I o]]=zIR n h (o+1):=by rw [zIR,yg,List.map_append,jX];rfl
   have u9:xs++[[I o]] <+: zIR n h n.h.toNat:=by rw [qS];exact (zTu (by omega)).map _
   refine zAc 1<|zAa<|zAh<|zAU ((↑o:Int)<n.h) (by omega)<|zAk<|zAh<|zAi 1<|zAc 2<|zAa<|zAc 7<|S_a [(6,.ret (prV (pr2 ((↑h:Int),(↑o:Int)))) [])] (ap (f110 (((↑h:Int),(↑o:Int)))) an)<|S_a [(2,.ix (some j)),(0,.v (PV.bool true))] (ap jK<|ap (jl:zJB (List.map zBy (List.map pr2 n.l)) j=some (PV.bool true)) an)<|zAd 3 ?_
   refine zVk kc xs [I o] i (fun hk3=>?_) (fun hk3=>?_) (by omega)
   ·refine zAd 2<|zAa<|zBR<|zAn ?_
    refine ⟨.inr rfl,?_⟩
    have wX:k=(xs++[[I (o:Int)]]).length:=by simp;omega
    have jI:¬ k = -1:=by omega
    rw [if_neg jI,← zST u9 wX];show Option.map _ _=_;kernel_rfl
   ·refine zAd 2<|zAa<|zA0<|zAk<|zAf<|S_a [(1,.v (I (↑(o+1):Int)))] (ap (wrN o) an)<|zAd 1<|zAa ?_
    exact ⟨(o+1,xs++[[I o]],kc-1),⟨by omega,qS,by simp;omega,by omega⟩,by simp only;omega,by kernel_rfl,by kernel_rfl⟩
  ·rw [if_neg hI] at yg
   have ga:pr2 ((h:Int),(o:Int))∉n.l.map pr2:=by simpa [zF6] using hI
   have jK:=zLq ga
   refine zAc 1<|zAa<|zAh<|zAU ((↑o:Int)<n.h) (by omega)<|zAk<|zAh<|zAi 1<|zAc 2<|zAa<|zAc 7<|S_a [(6,.ret (prV (pr2 ((↑h:Int),(↑o:Int)))) [])] (ap (f110 (((↑h:Int),(↑o:Int)))) an)<|S_a [(2,.ix none)] (ap jK an)<|zAd 6<|zAa<|zA0<|zAk<|zAf<|S_a [(1,.v (I (↑(o+1):Int)))] (ap (wrN o) an)<|zAd 1<|zAa ?_
   exact ⟨(o+1,xs,kc),⟨by omega,by rw [zIR,yg];exact jX,hkc,jI⟩,by simp only;omega,by kernel_rfl,by kernel_rfl⟩
 ·have e:o=n.h.toNat:=by omega
  subst e
  have hZ:xs.length=(zHF n h n.h.toNat).length:=by rw [jX];simp
  have jI:k = -1:=by omega
  refine zAc 1<|zAa<|zAh<|zAT ((↑n.h.toNat:Int)<n.h) (by omega)<|zAA 0 ?_
  refine ⟨.inl rfl,?_⟩
  rw [if_pos jI,← jX];show Option.map _ _=_;kernel_rfl
theorem zY3 (n:Nw) (cs:List (Int×Int)) (h:Nat) (ho:NwOk n) (hh:(h:Int)<n.h) (k:Int) (hk:k = -1∨1≤k∧k≤(zHF n h n.h.toNat).length):@zSQ (yo1 Tryz.prog zJX) 169 [] (zQC n cs h) k (if k = -1 then zIR n h n.h.toNat else (zIR n h n.h.toNat).take k.toNat) :=
 zSl Tryz.f169 (fun i=>@zVx yo0 n cs h ho hh k hk i) (by omega)
noncomputable instance nwYo:Yo:=yo1 Tryz.prog zJX
theorem zT3 (n:Nw) (cs:List (Int×Int)) (h:Nat) (ho:NwOk n) (hh:(h:Int)<n.h):zFY 169 [] (zQC n cs h) (zIR n h n.h.toNat):=by
 refine ⟨?_,fun j h1 h2=>?_⟩
 ·have:=zY3 n cs h ho hh (-1) (.inl rfl)
  rwa [if_pos rfl] at this
 ·have:=zY3 n cs h ho hh (j:Int) (.inr ⟨by omega,by simpa using h2⟩)
  rw [if_neg (by omega)] at this
  exact this
end Go.Eng
