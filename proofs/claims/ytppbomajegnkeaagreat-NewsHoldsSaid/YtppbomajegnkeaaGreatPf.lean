/- For any news, cries, evenings and yV the law NewsHolds ends in true: what a yV j1 and what it j2 are as specified; without conditions. -/
import Derived.Test.YtppbomajegnkeaaGreatPe
import Derived.Test.YtppbomajegnkeaaGreatPd
set_option linter.unusedVariables false
set_option linter.unusedSimpArgs false
set_option linter.unusedSectionVars false
set_option maxRecDepth 10000
set_option maxHeartbeats 4000000
namespace Go.Eng
open Go Go.Proofs
def zGK (h:Int) (x:Int×Int):Bool:=inB x.1 0 (h-1)&&inB x.2 0 (h-1)
def zHo (x:Int×Int):Bool:=decide (x.1≠x.2)
def zBt (h:Int) (l:List (Int×Int)):Int:=if (l.all fun x=>zGK h x)=true then if (l.all fun x=>zHo x)=true then if (l.map pr2).Nodup then 0 else 5 else 8 else 1
def zNH (l:List (Int×Bool)):Bool:=(List.range l.length).all fun i=>inB (l.getD i default).1 (-1) ((i:Int)-1)
def zLD (l:List (Int×Bool)) (i:Nat):Bool:=decide ((l.getD i default).1≠-1)&&(l.take i).any fun y=>decide (y.1=(l.getD i default).1)
def zCy (l:List (Int×Bool)):Int:=if zNH l=true then if (List.range l.length).any (zLD l)=true then 5 else 0 else 1
def zDc (l:List Int):Bool:=zFJ l&&decide ((zEy l).length=l.length)
def zIv (h:Int) (l:List Int):Bool:=l.all fun x=>inB x 0 (h-1)
def zCT (n:Nw):Int :=
 if (!inB n.h 1 10)=true then 2 else if (n.l.length:Int)>15 then 2 else if (!inB n.n.length 1 8)=true then 2 else if (!inB n.s.length 1 6)=true then 2
 else if zBt n.h n.l=0 then
  if zCy n.n=0 then
   if (!n.s.all fun x=>zIv n.h x)=true then 1 else if (!n.s.all fun x=>zDc x)=true then 4 else 0
  else zCy n.n
 else zBt n.h n.l
theorem zWu {n lo hi:Int} (h:(!inB n lo hi)=false):lo≤n∧n≤hi:=by simpa [inB] using h
abbrev zBx (x:Int×Int):PV×PV:=(prV x,.bool true)
theorem zOS {M:List (Int×Int)} (x:Int×Int):zC3 Tryz.prog 87 (prV x) (M.map zBx) 0=some (M.findIdx? fun y=>decide (x=y)):=by
 rw [zL3 (kx:=Prod.fst) (ky:=Prod.snd) (fun _=>rfl) (zRL) x.1 x.2 M 0]
 simp [zWG]
theorem zRA {M:List (Int×Int)} {x:Int×Int} (h:x∈M):∃ j,j<M.length∧zC3 Tryz.prog 87 (prV x) (M.map zBx) 0=some (some j):=by
 rw [zOS]
 cases hf:M.findIdx? fun y=>decide (x=y) with
 | none =>
  rw [List.findIdx?_eq_none_iff] at hf
  have:=hf x h;simp at this
 | some j=>exact ⟨j,(List.findIdx?_eq_some_iff_getElem.1 hf).1,rfl⟩
theorem zLe {M:List (Int×Int)} {x:Int×Int} (h:x∉M):zC3 Tryz.prog 87 (prV x) (M.map zBx) 0=some none:=by
 rw [zOS,List.findIdx?_eq_none_iff.2]
 intro y hy
 simp only [decide_eq_false_iff_not]
 intro e;subst e;exact h hy
structure Small (n:Nw):Prop where
 hl:n.l.length<1000000
 hn:n.n.length<1000000
 hs:n.s.length<1000000
 hr:∀ x∈n.s,x.length<1000000
section
variable [Yo]
theorem f196 (n:Nw) (x:Int×Int) (hb:1≤n.h∧n.h≤10):FG 196 [prV x,.ref (nwV n)] (.bool (zGK n.h x)):=by
 refine zAe Tryz.f196 ?_
 refine zAc 2<|zAa<|zAc 1<|zAd 1<|zAd 1<|S_a [(8,.ret (PV.bool (inB x.fst 0 (n.h-1))) [])] (ap (f109 n x.fst (by omega)) an)<|zAd 1<|zEl 8 (inB x.fst 0 (n.h-1)) (fun k0=>(zAd 1<|zAd 1<|zAd 1<|S_a [(8,.ret (PV.bool (inB x.snd 0 (n.h-1))) [])] (ap (f109 n x.snd (by omega)) an)<|zAd 2<|zAa<|zAm<|E_a [] an (PV.bool (inB x.snd 0 (n.h-1))) [] ?_ rfl)) (fun k0=>(zAd 6<|zAa<|zAm<|E_a [] an (PV.bool false) [] ?_ rfl))
 ·simp only [zGK,k0,Bool.true_and]
 ·simp only [zGK,k0,Bool.false_and]
theorem f197 (x:Int×Int):FG 197 [prV x] (.bool (zHo x)):=by
 refine zAe Tryz.f197 ?_
 refine zAc 2<|zAa<|zAc 1<|zAd 1<|zAd 1<|zAd 3<|zAa<|zAm<|E_a [] an (PV.bool (x.fst != x.snd)) [] ?_ rfl
 congr 1;rw [Bool.eq_iff_iff];simp [zHo]
theorem f199 (x y:Int×Bool):FG 199 [ntV y,.ref (ntV x)] (.bool (decide (y.1=x.1))):=by
 refine zAe Tryz.f199 ?_
 refine zAc 2<|zAa<|zAc 6<|zAa<|zAm<|E_a [] an (PV.bool (y.fst==x.fst)) [] rfl rfl
theorem f168_1 (n:Nw) (hb:1≤n.h∧n.h≤10) (x:Int):FG 168 [I x,.ref (.func 109 [nwV n] [])] (.bool (!(inB x 0 (n.h-1)))):=by
 refine zAe Tryz.f168 ?_
 refine zAc 1<|zAa<|zAc 2<|S_a [(8,.ret (PV.bool (inB x 0 (n.h-1))) [])] (ap (f109 n x (by omega)) an)<|zAd 2<|zAa<|zAm<|E_a [] an (PV.bool !inB x 0 (n.h-1)) [] rfl rfl
theorem f131_1 (n:Nw) (hb:1≤n.h∧n.h≤10) (l:List (Int)) (hl:l.length<4294967296):FG 131 [.sl (l.map I),.func 168 [] [.ref (.func 109 [nwV n] [])]] (I (zER (fun x => !(inB x 0 (n.h-1))) l)):=by
 refine zAe Tryz.f131 ?_
 refine zAc 1<|zAa<|zAh<|zAc 1<|S_a [(0,.n l.length)] (ap (lnS I l) an)<|zAd 1<|zAa<|zAi 0 ?_
 refine zAp (fun i=>i≤l.length∧∀ j,j<i→(fun x => !(inB x 0 (n.h-1))) (l.getD j 0)=false) (fun i=>[(8,I (i:Nat))]) (fun i=>l.length-i) (0:Nat) (by simp) fun i ⟨hi,ha⟩=>?_
 refine zAc 1<|zAa<|zAh<|zCb ((↑i:Int)<(↑l.length:Int)) (fun k0=>(zAj<|zAh<|zAi 1<|zAc 2<|zAa<|zAc 3<|S_a [(2,.v (I (l.getD i 0)))] (ap (zBG (0) (by omega):(List.map I l)[i]? = some (I (l.getD i 0))) an)<|zAd 1<|S_a [(7,.ret (PV.bool !inB (l.getD i 0) 0 (n.h-1)) [])] (ap (f168_1 n (by omega) (l.getD i 0)) an)<|zAa<|zDr (!inB (l.getD i 0) 0 (n.h-1)) (fun k1=>(zAc 2<|zAa<|zAm<|E_a [] an (I (↑i:Int)) [] ?_ rfl)) (fun k1=>(zAj<|zAf<|S_a [(1,.v (I (↑(i+1):Int)))] (ap (wrN i) an)<|zAd 1<|zAa ?_)))) (fun k0=>(zAz 0<|zAc 1<|zAa<|zAm<|E_a [] an (I (-1)) [] ?_ rfl))
 ·rw [zBW (i:=i) (by omega) (fun j hj=>by rw [← zAs (d:=0)];exact ha j hj) (by rw [← zAs (d:=0)];first | assumption | exact decide_eq_true ‹_› | (simp only [Bool.not_eq_true',decide_eq_false_iff_not];assumption))]
 ·refine ⟨i+1,⟨by omega,fun j hj=>?_⟩,by omega,by kernel_rfl,by kernel_rfl⟩
  rcases Nat.lt_succ_iff_lt_or_eq.1 hj with h | rfl
  ·exact ha j h
  ·first | assumption | exact decide_eq_false ‹_› | (simp only [Bool.not_eq_false',decide_eq_true_eq];first | assumption | (apply Decidable.of_not_not;assumption))
 ·rw [zCl fun j hj=>by rw [← zAs (d:=0)];exact ha j (by omega)]
theorem f52_1 (n:Nw) (hb:1≤n.h∧n.h≤10) (l:List (Int)) (hl:l.length<4294967296):FG 52 [.sl (l.map I),.func 168 [] [.ref (.func 109 [nwV n] [])]] (.bool (l.any (fun x => !(inB x 0 (n.h-1))))):=by
 refine zAe Tryz.f52 ?_
 refine zAc 1<|zAa<|zAc 2<|S_a [(7,.ret (I (zER (fun x => !inB x 0 (n.h-1)) l)) [])] (ap (f131_1 n (by omega) l (by omega)) an)<|zAd 2<|zAa<|zAm<|E_a [] an (PV.bool (decide (zER (fun x => !inB x 0 (n.h-1)) l≥0))) [] ?_ rfl
 rw [zD7]
theorem f108_1 (n:Nw) (hb:1≤n.h∧n.h≤10) (l:List (Int)) (hl:l.length<4294967296):FG 108 [.sl (l.map I),.func 109 [nwV n] []] (.bool (l.all (fun x=>inB x 0 (n.h-1)))):=by
 refine zAe Tryz.f108 ?_
 refine zAc 2<|zAa<|zAc 2<|S_a [(12,.ret (PV.bool (l.any fun x => !inB x 0 (n.h-1))) [])] (ap (f52_1 n (by omega) l (by omega)) an)<|zAd 2<|zAa<|zAm<|E_a [] an (PV.bool !l.any fun x => !inB x 0 (n.h-1)) [] ?_ rfl
 simp [List.not_any_eq_all_not]
theorem f221_1 (n:Nw) (hb:1≤n.h∧n.h≤10) (x:Int×Int):FG 221 [prV x,.ref (.func 196 [] [.ref (nwV n)])] (.bool (!(zGK n.h x))):=by
 refine zAe Tryz.f221 ?_
 refine zAc 2<|zAa<|zAc 2<|S_a [(7,.ret (PV.bool (zGK n.h x)) [])] (ap (f196 n x (by omega)) an)<|zAd 2<|zAa<|zAm<|E_a [] an (PV.bool !zGK n.h x) [] rfl rfl
theorem f202_1 (n:Nw) (hb:1≤n.h∧n.h≤10) (l:List (Int×Int)) (hl:l.length<4294967296):FG 202 [.sl (l.map prV),.func 221 [] [.ref (.func 196 [] [.ref (nwV n)])]] (I (zER (fun x => !(zGK n.h x)) l)):=by
 refine zAe Tryz.f202 ?_
 refine zAc 1<|zAa<|zAh<|zAc 1<|S_a [(0,.n l.length)] (ap (lnS prV l) an)<|zAd 1<|zAa<|zAi 0 ?_
 refine zAp (fun i=>i≤l.length∧∀ j,j<i→(fun x => !(zGK n.h x)) (l.getD j default)=false) (fun i=>[(8,I (i:Nat))]) (fun i=>l.length-i) (0:Nat) (by simp) fun i ⟨hi,ha⟩=>?_
 refine zAc 1<|zAa<|zAh<|zCb ((↑i:Int)<(↑l.length:Int)) (fun k0=>(zAj<|zAh<|zAi 1<|zAc 2<|zAa<|zAc 3<|S_a [(2,.v (PV.agg [I (l.getD i default).fst,I (l.getD i default).snd]))] (ap (zBG default (by omega):(List.map prV l)[i]? = some (PV.agg [I (l.getD i default).fst,I (l.getD i default).snd])) an)<|zAd 1<|S_a [(7,.ret (PV.bool !zGK n.h (l.getD i default)) [])] (ap (f221_1 n (by omega) (l.getD i default)) an)<|zAa<|zDr (!zGK n.h (l.getD i default)) (fun k1=>(zAc 2<|zAa<|zAm<|E_a [] an (I (↑i:Int)) [] ?_ rfl)) (fun k1=>(zAj<|zAf<|S_a [(1,.v (I (↑(i+1):Int)))] (ap (wrN i) an)<|zAd 1<|zAa ?_)))) (fun k0=>(zAz 0<|zAc 1<|zAa<|zAm<|E_a [] an (I (-1)) [] ?_ rfl))
 ·rw [zBW (i:=i) (by omega) (fun j hj=>by rw [← zAs (d:=default)];exact ha j hj) (by rw [← zAs (d:=default)];first | assumption | exact decide_eq_true ‹_› | (simp only [Bool.not_eq_true',decide_eq_false_iff_not];assumption))]
 ·refine ⟨i+1,⟨by omega,fun j hj=>?_⟩,by omega,by kernel_rfl,by kernel_rfl⟩
  rcases Nat.lt_succ_iff_lt_or_eq.1 hj with h | rfl
  ·exact ha j h
  ·first | assumption | exact decide_eq_false ‹_› | (simp only [Bool.not_eq_false',decide_eq_true_eq];first | assumption | (apply Decidable.of_not_not;assumption))
 ·rw [zCl fun j hj=>by rw [← zAs (d:=default)];exact ha j (by omega)]
theorem f156_1 (n:Nw) (hb:1≤n.h∧n.h≤10) (l:List (Int×Int)) (hl:l.length<4294967296):FG 156 [.sl (l.map prV),.func 221 [] [.ref (.func 196 [] [.ref (nwV n)])]] (.bool (l.any (fun x => !(zGK n.h x)))):=by
 refine zAe Tryz.f156 ?_
 refine zAc 1<|zAa<|zAc 2<|S_a [(7,.ret (I (zER (fun x => !zGK n.h x) l)) [])] (ap (f202_1 n (by omega) l (by omega)) an)<|zAd 2<|zAa<|zAm<|E_a [] an (PV.bool (decide (zER (fun x => !zGK n.h x) l≥0))) [] ?_ rfl
 rw [zD7]
theorem f195_1 (n:Nw) (hb:1≤n.h∧n.h≤10) (l:List (Int×Int)) (hl:l.length<4294967296):FG 195 [.sl (l.map prV),.func 196 [] [.ref (nwV n)]] (.bool (l.all (fun x=>zGK n.h x))):=by
 refine zAe Tryz.f195 ?_
 refine zAc 2<|zAa<|zAc 2<|S_a [(12,.ret (PV.bool (l.any fun x => !zGK n.h x)) [])] (ap (f156_1 n (by omega) l (by omega)) an)<|zAd 2<|zAa<|zAm<|E_a [] an (PV.bool !l.any fun x => !zGK n.h x) [] ?_ rfl
 simp [List.not_any_eq_all_not]
theorem f221_2  (x:Int×Int):FG 221 [prV x,.ref (.func 197 [] [])] (.bool (!(zHo x))):=by
 refine zAe Tryz.f221 ?_
 refine zAc 2<|zAa<|zAc 2<|S_a [(6,.ret (PV.bool (zHo x)) [])] (ap (f197 x) an)<|zAd 2<|zAa<|zAm<|E_a [] an (PV.bool !zHo x) [] rfl rfl
theorem f202_2  (l:List (Int×Int)) (hl:l.length<4294967296):FG 202 [.sl (l.map prV),.func 221 [] [.ref (.func 197 [] [])]] (I (zER (fun x => !(zHo x)) l)):=by
 refine zAe Tryz.f202 ?_
 refine zAc 1<|zAa<|zAh<|zAc 1<|S_a [(0,.n l.length)] (ap (lnS prV l) an)<|zAd 1<|zAa<|zAi 0 ?_
 refine zAp (fun i=>i≤l.length∧∀ j,j<i→(fun x => !(zHo x)) (l.getD j default)=false) (fun i=>[(8,I (i:Nat))]) (fun i=>l.length-i) (0:Nat) (by simp) fun i ⟨hi,ha⟩=>?_
 refine zAc 1<|zAa<|zAh<|zCb ((↑i:Int)<(↑l.length:Int)) (fun k0=>(zAj<|zAh<|zAi 1<|zAc 2<|zAa<|zAc 3<|S_a [(2,.v (PV.agg [I (l.getD i default).fst,I (l.getD i default).snd]))] (ap (zBG default (by omega):(List.map prV l)[i]? = some (PV.agg [I (l.getD i default).fst,I (l.getD i default).snd])) an)<|zAd 1<|S_a [(7,.ret (PV.bool !zHo (l.getD i default)) [])] (ap (f221_2 (l.getD i default)) an)<|zAa<|zDr (!zHo (l.getD i default)) (fun k1=>(zAc 2<|zAa<|zAm<|E_a [] an (I (↑i:Int)) [] ?_ rfl)) (fun k1=>(zAj<|zAf<|S_a [(1,.v (I (↑(i+1):Int)))] (ap (wrN i) an)<|zAd 1<|zAa ?_)))) (fun k0=>(zAz 0<|zAc 1<|zAa<|zAm<|E_a [] an (I (-1)) [] ?_ rfl))
 ·rw [zBW (i:=i) (by omega) (fun j hj=>by rw [← zAs (d:=default)];exact ha j hj) (by rw [← zAs (d:=default)];first | assumption | exact decide_eq_true ‹_› | (simp only [Bool.not_eq_true',decide_eq_false_iff_not];assumption))]
 ·refine ⟨i+1,⟨by omega,fun j hj=>?_⟩,by omega,by kernel_rfl,by kernel_rfl⟩
  rcases Nat.lt_succ_iff_lt_or_eq.1 hj with h | rfl
  ·exact ha j h
  ·first | assumption | exact decide_eq_false ‹_› | (simp only [Bool.not_eq_false',decide_eq_true_eq];first | assumption | (apply Decidable.of_not_not;assumption))
 ·rw [zCl fun j hj=>by rw [← zAs (d:=default)];exact ha j (by omega)]
theorem f156_2  (l:List (Int×Int)) (hl:l.length<4294967296):FG 156 [.sl (l.map prV),.func 221 [] [.ref (.func 197 [] [])]] (.bool (l.any (fun x => !(zHo x)))):=by
 refine zAe Tryz.f156 ?_
 refine zAc 1<|zAa<|zAc 2<|S_a [(7,.ret (I (zER (fun x => !zHo x) l)) [])] (ap (f202_2 l (by omega)) an)<|zAd 2<|zAa<|zAm<|E_a [] an (PV.bool (decide (zER (fun x => !zHo x) l≥0))) [] ?_ rfl
 rw [zD7]
theorem f195_2  (l:List (Int×Int)) (hl:l.length<4294967296):FG 195 [.sl (l.map prV),.func 197 [] []] (.bool (l.all (fun x=>zHo x))):=by
 refine zAe Tryz.f195 ?_
 refine zAc 2<|zAa<|zAc 2<|S_a [(12,.ret (PV.bool (l.any fun x => !zHo x)) [])] (ap (f156_2 l (by omega)) an)<|zAd 2<|zAa<|zAm<|E_a [] an (PV.bool !l.any fun x => !zHo x) [] ?_ rfl
 simp [List.not_any_eq_all_not]
theorem f222_1 (y:Int) (yb:Bool) (l:List (Int×Bool)) (hl:l.length<4294967296):FG 222 [.sl (l.map ntV),.func 199 [] [.ref (.agg [I y,.bool yb])]] (I (zER (fun x=>decide (x.1=y)) l)):=by
 refine zAe Tryz.f222 ?_
 refine zAc 1<|zAa<|zAh<|zAc 1<|S_a [(0,.n l.length)] (ap (lnS ntV l) an)<|zAd 1<|zAa<|zAi 0 ?_
 refine zAp (fun i=>i≤l.length∧∀ j,j<i→(fun x=>decide (x.1=y)) (l.getD j default)=false) (fun i=>[(8,I (i:Nat))]) (fun i=>l.length-i) (0:Nat) (by simp) fun i ⟨hi,ha⟩=>?_
 refine zAc 1<|zAa<|zAh<|zCb ((↑i:Int)<(↑l.length:Int)) (fun k0=>(zAj<|zAh<|zAi 1<|zAc 2<|zAa<|zAc 3<|S_a [(2,.v (PV.agg [I (l.getD i default).fst,PV.bool (l.getD i default).snd]))] (ap (zBG default (by omega):(List.map ntV l)[i]? = some (PV.agg [I (l.getD i default).fst,PV.bool (l.getD i default).snd])) an)<|zAd 1<|S_a [(7,.ret (PV.bool (decide ((l.getD i default).fst=(y,yb).fst))) [])] (ap (f199 ((y,yb)) (l.getD i default)) an)<|zAa<|zCb ((l.getD i default).fst=(y,yb).fst) (fun k1=>(zAc 2<|zAa<|zAm<|E_a [] an (I (↑i:Int)) [] ?_ rfl)) (fun k1=>(zAj<|zAf<|S_a [(1,.v (I (↑(i+1):Int)))] (ap (wrN i) an)<|zAd 1<|zAa ?_)))) (fun k0=>(zAz 0<|zAc 1<|zAa<|zAm<|E_a [] an (I (-1)) [] ?_ rfl))
 ·rw [zBW (i:=i) (by omega) (fun j hj=>by rw [← zAs (d:=default)];exact ha j hj) (by rw [← zAs (d:=default)];first | assumption | exact decide_eq_true ‹_› | (simp only [Bool.not_eq_true',decide_eq_false_iff_not];assumption))]
 ·refine ⟨i+1,⟨by omega,fun j hj=>?_⟩,by omega,by kernel_rfl,by kernel_rfl⟩
  rcases Nat.lt_succ_iff_lt_or_eq.1 hj with h | rfl
  ·exact ha j h
  ·first | assumption | exact decide_eq_false ‹_› | (simp only [Bool.not_eq_false',decide_eq_true_eq];first | assumption | (apply Decidable.of_not_not;assumption))
 ·rw [zCl fun j hj=>by rw [← zAs (d:=default)];exact ha j (by omega)]
theorem f198_1 (y:Int) (yb:Bool) (l:List (Int×Bool)) (hl:l.length<4294967296):FG 198 [.sl (l.map ntV),.func 199 [] [.ref (.agg [I y,.bool yb])]] (.bool (l.any (fun x=>decide (x.1=y)))):=by
 refine zAe Tryz.f198 ?_
 refine zAc 1<|zAa<|zAc 2<|S_a [(7,.ret (I (zER (fun x=>decide (x.fst=y)) l)) [])] (ap (f222_1 y yb l (by omega)) an)<|zAd 2<|zAa<|zAm<|E_a [] an (PV.bool (decide (zER (fun x=>decide (x.fst=y)) l≥0))) [] ?_ rfl
 rw [zD7]
theorem f150 (n:Nw) (hb:1≤n.h∧n.h≤10) (hl:n.l.length≤15):FG 150 [nwV n] (I (zBt n.h n.l)):=by
 refine zAe Tryz.f150 ?_
 refine zAc 2<|zAa<|zAh<|zAi 0<|zAc 3<|S_a [(13,.ret (PV.bool (n.l.all fun x=>zGK n.h x)) [])] (ap (f195_1 n (by omega) n.l (by omega)) an)<|zAd 2<|zAa<|zDr (!n.l.all fun x=>zGK n.h x) (fun k0=>(zAc 1<|zAa<|zAm<|E_a [] an (I 1) [] ?_ rfl)) (fun k0=>(zAc 2<|S_a [(7,.ret (PV.bool (n.l.all fun x=>zHo x)) [])] (ap (f195_2 n.l (by omega)) an)<|zAd 2<|zAa<|zDr (!n.l.all fun x=>zHo x) (fun k1=>(zAc 1<|zAa<|zAm<|E_a [] an (I 8) [] ?_ rfl)) (fun k1=>(zAj<|zAc 2<|zAa<|zAh<|zAc 2<|S_a [(0,.n n.l.length)] (ap (lnS prV n.l) an)<|zAd 1<|zAa<|zAi 1 ?_))))
 ·rw [Bool.not_eq_true'] at k0
  simp [zBt,k0]
 ·rw [Bool.not_eq_false'] at k0
  rw [Bool.not_eq_true'] at k1
  simp [zBt,k0,k1]
 ·refine zAp (fun (i,M)=>i≤n.l.length∧M=(n.l.take i).map pr2∧M.Nodup) (fun (i,M)=>[(3,.omap (M.map zBx)),(21,I (i:Nat))]) (fun (i,_)=>n.l.length-i) ((0:Nat),([]:List (Int×Int))) ⟨Nat.zero_le _,rfl,List.nodup_nil⟩ fun (i,M) ⟨hi,hM,hN⟩=>?_
  by_cases yG:i<n.l.length
  ·have yT:(n.l.take (i+1)).map pr2=M++[pr2 (n.l.getD i default)]:=by rw [zBP (d:=default) yG,List.map_append,← hM];rfl
   by_cases hin:pr2 (n.l.getD i default)∈M
   ·obtain ⟨j,hj,jL⟩:=zRA hin
    have jq:zJj (M.map zBx) j=some (.bool true):=by simp [zJj,hj]
    refine zAc 1<|zAa<|zAh<|zAU ((↑i:Int)<(↑n.l.length:Int)) (by omega)<|zAj<|zAh<|zAi 2<|zAh<|zAf<|S_a [(2,.v (PV.agg [I (n.l.getD i default).fst,I (n.l.getD i default).snd]))] (ap (zBG default (by omega):(List.map prV n.l)[i]? = some (PV.agg [I (n.l.getD i default).fst,I (n.l.getD i default).snd])) an)<|zAd 3<|zAa<|zAh<|zAc 2<|S_a [(6,.ret (prV (pr2 (n.l.getD i default))) [])] (ap (f110 (n.l.getD i default)) an)<|S_a [(3,.ix (some j)),(0,.v (PV.bool true))] (ap jL<|ap (jq:zJj (List.map zBx M) j=some (PV.bool true)) an)<|zAa<|zBR<|zAc 1<|zAa<|zAm<|E_a [] an (I 5) [] ?_ rfl
    rw [Bool.not_eq_false'] at k0 k1
    have yU:¬ (n.l.map pr2).Nodup:=fun h=>by
     rw [← List.take_append_drop (i+1) n.l,List.map_append,yT] at h
     have h2:=(List.nodup_append.1 h).1
     have h3:=(List.nodup_append.1 h2).2.2
     exact h3 _ hin _ (List.mem_singleton.2 rfl) rfl
    simp only [zBt,k0,k1,yU,if_true,if_false]
   ·have jL:=zLe hin
    refine zAc 1<|zAa<|zAh<|zAU ((↑i:Int)<(↑n.l.length:Int)) (by omega)<|zAj<|zAh<|zAi 2<|zAh<|zAf<|S_a [(2,.v (PV.agg [I (n.l.getD i default).fst,I (n.l.getD i default).snd]))] (ap (zBG default (by omega):(List.map prV n.l)[i]? = some (PV.agg [I (n.l.getD i default).fst,I (n.l.getD i default).snd])) an)<|zAd 3<|zAa<|zAh<|zAc 2<|S_a [(6,.ret (prV (pr2 (n.l.getD i default))) [])] (ap (f110 (n.l.getD i default)) an)<|S_a [(3,.ix none)] (ap jL an)<|zAa<|zAW<|zAj<|zAf<|zAd 2<|S_a [(6,.ret (prV (pr2 (n.l.getD i default))) [])] (ap (f110 (n.l.getD i default)) an)<|S_a [(4,.ix none),(0,.v (PV.omap (List.map zBx (M++[pr2 (n.l.getD i default)]))))] (ap jL<|ap ((by simp):PV.omap (List.map zBx M++[(PV.agg [I (pr2 (n.l.getD i default)).fst,I (pr2 (n.l.getD i default)).snd],PV.bool true)])=PV.omap (List.map zBx (M++[pr2 (n.l.getD i default)]))) an)<|zAa<|zAf<|S_a [(1,.v (I (↑(i+1):Int)))] (ap (wrN i) an)<|zAd 1<|zAa ?_
    refine ⟨(i+1,M++[pr2 (n.l.getD i default)]),⟨by omega,yT.symm,?_⟩,by simp only;omega,by kernel_rfl,by kernel_rfl⟩
    rw [List.nodup_append]
    refine ⟨hN,by simp,fun a ha b hb=>?_⟩
    rw [List.mem_singleton] at hb;subst hb
    intro e;subst e;exact hin ha
  ·refine zAc 1<|zAa<|zAh<|zAT ((↑i:Int)<(↑n.l.length:Int)) (by omega)<|zAz 1<|zAc 1<|zAa<|zAm<|E_a [] an (I 0) [] ?_ rfl
   rw [Bool.not_eq_false'] at k0 k1
   rw [List.take_of_length_le (by omega)] at hM
   rw [hM] at hN
   simp only [zBt,k0,k1,hN,if_true]
theorem f151 (n:Nw) (hl:n.n.length≤8):FG 151 [nwV n] (I (zCy n.n)):=by
 refine zAe Tryz.f151 ?_
 refine zAc 2<|zAa<|zAh<|zAc 2<|S_a [(0,.n n.n.length)] (ap (lnS ntV n.n) an)<|zAd 1<|zAa<|zAi 0 ?_
 refine zAp (fun i=>i≤n.n.length∧∀ j,j<i→inB (n.n.getD j default).1 (-1) ((j:Int)-1)=true) (fun i=>[(10,I (i:Nat))]) (fun i=>n.n.length-i) (0:Nat) ⟨Nat.zero_le _,fun j h=>absurd h (Nat.not_lt_zero _)⟩ fun i ⟨hi,ha⟩=>?_
 refine zAc 1<|zAa<|zAh<|zCb ((↑i:Int)<(↑n.n.length:Int)) (fun k0=>(zAj<|zAh<|zAi 1<|zAc 1<|S_a [(2,.v (PV.agg [I (n.n.getD i default).fst,PV.bool (n.n.getD i default).snd]))] (ap (zBG default (by omega):(List.map ntV n.n)[i]? = some (PV.agg [I (n.n.getD i default).fst,PV.bool (n.n.getD i default).snd])) an)<|zAd 4<|zAa<|zAc 3<|S_a [(1,.v (I ((↑i:Int)-1)))] (ap ((zCV rfl (by omega)):I (IntKind.i64.wrap ((↑i:Int)-1))=I ((↑i:Int)-1)) an)<|S_a [(10,.ret (PV.bool (inB (n.n.getD i default).fst (-1) ((↑i:Int)-1))) [])] (ap (f107 ((n.n.getD i default).fst) (-1) ((↑i:Int)-1)) an)<|zAd 1<|zAa<|zDr (!inB (n.n.getD i default).fst (-1) ((↑i:Int)-1)) (fun k1=>(zAc 1<|zAa<|zAm<|E_a [] an (I 1) [] ?_ rfl)) (fun k1=>(zAj<|zAf<|S_a [(1,.v (I (↑(i+1):Int)))] (ap (wrN i) an)<|zAd 1<|zAa ?_)))) (fun k0=>(zAz 0<|zAh<|zAc 2<|S_a [(0,.n n.n.length)] (ap (lnS ntV n.n) an)<|zAd 1<|zAa<|zAi 2 ?_))
 ·rw [Bool.not_eq_true'] at k1
  have:zNH n.n=false:=by
   simp only [zNH,List.all_eq_false]
   exact ⟨i,List.mem_range.2 (by omega),by simpa using k1⟩
  simp [zCy,this]
 ·rw [Bool.not_eq_false'] at k1
  refine ⟨i+1,⟨by omega,fun j hj=>?_⟩,by omega,by kernel_rfl,by kernel_rfl⟩
  rcases Nat.lt_succ_iff_lt_or_eq.1 hj with h | rfl
  ·exact ha j h
  ·exact k1
 ·have hin:zNH n.n=true:=by
   simp only [zNH,List.all_eq_true,List.mem_range]
   exact fun j hj=>ha j (by omega)
  clear ha
  refine zAp (fun i=>i≤n.n.length∧∀ j,j<i→zLD n.n j=false) (fun i=>[(25,I (i:Nat))]) (fun i=>n.n.length-i) (0:Nat) ⟨Nat.zero_le _,fun j h=>absurd h (Nat.not_lt_zero _)⟩ fun k ⟨hk,hb⟩=>?_
  have yT:zLD n.n k=false→∀ j,j<k+1→zLD n.n j=false:=fun h j hj=>by
   rcases Nat.lt_succ_iff_lt_or_eq.1 hj with h2 | rfl
   ·exact hb j h2
   ·exact h
  refine zAc 1<|zAa<|zAh<|zCb ((↑k:Int)<(↑n.n.length:Int)) (fun k2=>(zAj<|zAh<|zAi 3<|zAc 1<|S_a [(2,.v (PV.agg [I (n.n.getD k default).fst,PV.bool (n.n.getD k default).snd]))] (ap (zBG default (by omega):(List.map ntV n.n)[k]? = some (PV.agg [I (n.n.getD k default).fst,PV.bool (n.n.getD k default).snd])) an)<|zAd 4<|zAa<|zAc 4<|zT8 33 ((n.n.getD k default).fst = -1) (fun k3=>(zAd 3<|S_a [(3,.ob),(0,.ob),(0,.v (PV.sl (List.map ntV (List.take k n.n))))] (ap ((by exact zBp (by simp only [List.length_map,zzLn,zAZ]<;>omega)):k.ble (List.map ntV n.n).length=true)<|ap ((by exact all_map _):((List.map ntV n.n).all fun x=>x.cells.length.beq ((fun x=>x.size) Tryz.prog.types[99]))=true)<|ap ((by simp):PV.sl (List.take k (List.drop 0 (List.map ntV n.n)))=PV.sl (List.map ntV (List.take k n.n))) an)<|zAd 1<|S_a [(13,.ret (PV.bool ((List.take k n.n).any fun x=>decide (x.fst=(n.n.getD k default).fst))) [])] (ap (f198_1 ((n.n.getD k default).fst) ((n.n.getD k default).snd) (List.take k n.n) (by first | omega | (simp<;>omega))) an)<|zAd 1<|zAa<|zDr ((List.take k n.n).any fun x=>decide (x.fst=(n.n.getD k default).fst)) (fun k4=>(zAc 1<|zAa<|zAm<|E_a [] an (I 5) [] ?_ rfl)) (fun k4=>(zAj<|zAf<|S_a [(1,.v (I (↑(k+1):Int)))] (ap (wrN k) an)<|zAd 1<|zAa ?_)))) (fun k3=>(zAd 7<|zAa<|zAW<|zAj<|zAf<|S_a [(1,.v (I (↑(k+1):Int)))] (ap (wrN k) an)<|zAd 1<|zAa ?_)))) (fun k2=>(zAz 2<|zAc 1<|zAa<|zAm<|E_a [] an (I 0) [] ?_ rfl))
  ·have h1:zLD n.n k=true:=by
    have k4:((n.n.take k).any fun y=>decide (y.1=(n.n.getD k default).1))=true:=k4
    simp only [zLD,k4,Bool.and_true,decide_eq_true_eq];assumption
   have:(List.range n.n.length).any (zLD n.n)=true:=List.any_eq_true.2 ⟨k,List.mem_range.2 (by omega),h1⟩
   simp only [zCy,hin,this,if_true]
  ·have h1:zLD n.n k=false:=by
    have k4:((n.n.take k).any fun y=>decide (y.1=(n.n.getD k default).1))=false:=k4
    simp only [zLD,k4,Bool.and_false]
   exact ⟨k+1,⟨by omega,yT h1⟩,by omega,by kernel_rfl,by kernel_rfl⟩
  ·have h1:zLD n.n k=false:=by
    simp only [zLD,Bool.and_eq_false_iff,decide_eq_false_iff_not]
    exact .inl (by simpa using k3)
   exact ⟨k+1,⟨by omega,yT h1⟩,by omega,by kernel_rfl,by kernel_rfl⟩
  ·have:(List.range n.n.length).any (zLD n.n)=false:=by
    simp only [List.any_eq_false,List.mem_range,Bool.not_eq_true]
    exact fun j hj=>hb j (by omega)
   simp only [zCy,hin,this,if_true];rfl
theorem f153 (n:Nw) (l:List Int) (hb:1≤n.h∧n.h≤10) (hl:l.length<1000000):FG 153 [zAP l,.ref (nwV n)] (.bool (zIv n.h l)):=by
 refine zAe Tryz.f153 ?_
 refine zAc 1<|zAa<|zAc 3<|S_a [(7,.ret (PV.bool (l.all fun x=>inB x 0 (n.h-1))) [])] (ap (f108_1 n (by omega) l (by omega)) an)<|zAd 1<|zAa<|zAm<|E_a [] an (PV.bool (l.all fun x=>inB x 0 (n.h-1))) [] rfl rfl
theorem f154 (l:List Int) (hl:l.length<1000000):FG 154 [zAP l] (.bool (zDc l)):=by
 refine zAe Tryz.f154 ?_
 refine zAc 1<|zAa<|zAc 1<|S_a [(6,.ret (PV.bool (zFJ l)) [])] (ap (f155 l (by omega)) an)<|zAd 1<|zEl 5 (zFJ l) (fun k0=>(zAd 1<|S_a [(6,.ret (PV.own 1 (List.map I l)) [])] (ap (f65 l (by omega)) an)<|S_a [(3,.ob),(1,.v (PV.own 1 (List.map I l))),(2,.ret (PV.own 1 (List.map I (zEy l))) [])] (ap ((by exact zBp (by simp only [List.length_map,zzLn,zAZ]<;>omega)):(List.map I l).length.ble (List.map I l).length=true)<|ap ((zAM zAG):PV.own 1 (List.take (List.map I l).length (List.drop 0 (List.map I l)))=PV.own 1 (List.map I l))<|ap (f97 l (by omega)) an)<|S_a [(0,.n ((zEy l).length))] (ap (lnS I (zEy l)) an)<|zAd 1<|S_a [(0,.n l.length)] (ap (lnS I l) an)<|zAd 3<|zAa<|zAm<|E_a [] an (PV.bool ((↑(zEy l).length:Int)==(↑l.length:Int))) [] ?_ rfl)) (fun k0=>(zAd 9<|zAa<|zAm<|E_a [] an (PV.bool false) [] ?_ rfl))
 ·simp only [zDc,k0,Bool.true_and];congr 1;rw [Bool.eq_iff_iff];simp;omega
 ·simp only [zDc,k0,Bool.false_and]
theorem f201_1 (n:Nw) (hb:1≤n.h∧n.h≤10) (x:List Int) (hx:x.length<1000000):FG 201 [zAP x,.ref (.func 153 [] [.ref (nwV n)])] (.bool (!(zIv n.h x))):=by
 refine zAe Tryz.f201 ?_
 refine zAc 1<|zAa<|zAc 2<|S_a [(7,.ret (PV.bool (zIv n.h x)) [])] (ap (f153 n x (by omega) (by omega)) an)<|zAd 2<|zAa<|zAm<|E_a [] an (PV.bool !zIv n.h x) [] rfl rfl
theorem f223_1 (n:Nw) (hb:1≤n.h∧n.h≤10) (l:List (List Int)) (hl:l.length<4294967296) (hr:∀ x∈l,x.length<1000000):FG 223 [.sl (l.map zAP),.func 201 [] [.ref (.func 153 [] [.ref (nwV n)])]] (I (zER (fun x => !(zIv n.h x)) l)):=by
 refine zAe Tryz.f223 ?_
 refine zAc 1<|zAa<|zAh<|zAc 1<|S_a [(0,.n l.length)] (ap (lnS zAP l) an)<|zAd 1<|zAa<|zAi 0 ?_
 refine zAp (fun i=>i≤l.length∧∀ j,j<i→(fun x => !(zIv n.h x)) (l.getD j [])=false) (fun i=>[(8,I (i:Nat))]) (fun i=>l.length-i) (0:Nat) (by simp) fun i ⟨hi,ha⟩=>?_
 by_cases yG:i<l.length
 ·have hri:=zBA (d:=[]) hr i yG
  refine zAc 1<|zAa<|zAh<|zAU ((↑i:Int)<(↑l.length:Int)) (by omega)<|zAj<|zAh<|zAi 1<|zAc 2<|zAa<|zAc 3<|S_a [(2,.v (zAP (l.getD i [])))] (ap (zBG [] (by omega):(List.map zAP l)[i]? = some (zAP (l.getD i []))) an)<|zAd 1<|S_a [(7,.ret (PV.bool !zIv n.h (l.getD i [])) [])] (ap (f201_1 n (by omega) (l.getD i []) (by omega)) an)<|zAa<|zDr (!zIv n.h (l.getD i [])) (fun k0=>(zAc 2<|zAa<|zAm<|E_a [] an (I (↑i:Int)) [] ?_ rfl)) (fun k0=>(zAj<|zAf<|S_a [(1,.v (I (↑(i+1):Int)))] (ap (wrN i) an)<|zAd 1<|zAa ?_))
  ·rw [zBW (i:=i) yG (fun j hj=>by rw [← zAs (d:=[])];exact ha j hj) (by rw [← zAs (d:=[])];first | assumption | exact decide_eq_true ‹_›)]
  ·refine ⟨i+1,⟨by omega,fun j hj=>?_⟩,by omega,by kernel_rfl,by kernel_rfl⟩
   rcases Nat.lt_succ_iff_lt_or_eq.1 hj with h | rfl
   ·exact ha j h
   ·first | assumption | exact decide_eq_false ‹_› | (simp only [Bool.not_eq_false',decide_eq_true_eq];assumption)
 ·refine zAc 1<|zAa<|zAh<|zAT ((↑i:Int)<(↑l.length:Int)) (by omega)<|zAz 0<|zAc 1<|zAa<|zAm<|E_a [] an (I (-1)) [] ?_ rfl
  rw [zCl fun j hj=>by rw [← zAs (d:=[])];exact ha j (by omega)]
theorem f200_1 (n:Nw) (hb:1≤n.h∧n.h≤10) (l:List (List Int)) (hl:l.length<4294967296) (hr:∀ x∈l,x.length<1000000):FG 200 [.sl (l.map zAP),.func 201 [] [.ref (.func 153 [] [.ref (nwV n)])]] (.bool (l.any (fun x => !(zIv n.h x)))):=by
 refine zAe Tryz.f200 ?_
 refine zAc 1<|zAa<|zAc 2<|S_a [(7,.ret (I (zER (fun x => !zIv n.h x) l)) [])] (ap (f223_1 n (by omega) l (by omega) (by omega)) an)<|zAd 2<|zAa<|zAm<|E_a [] an (PV.bool (decide (zER (fun x => !zIv n.h x) l≥0))) [] ?_ rfl
 rw [zD7]
theorem f152_1 (n:Nw) (hb:1≤n.h∧n.h≤10) (l:List (List Int)) (hl:l.length<4294967296) (hr:∀ x∈l,x.length<1000000):FG 152 [.sl (l.map zAP),.func 153 [] [.ref (nwV n)]] (.bool (l.all (fun x=>zIv n.h x))):=by
 refine zAe Tryz.f152 ?_
 refine zAc 2<|zAa<|zAc 2<|S_a [(12,.ret (PV.bool (l.any fun x => !zIv n.h x)) [])] (ap (f200_1 n (by omega) l (by omega) (by omega)) an)<|zAd 2<|zAa<|zAm<|E_a [] an (PV.bool !l.any fun x => !zIv n.h x) [] ?_ rfl
 simp [List.not_any_eq_all_not]
theorem f201_2  (x:List Int) (hx:x.length<1000000):FG 201 [zAP x,.ref (.func 154 [] [])] (.bool (!(zDc x))):=by
 refine zAe Tryz.f201 ?_
 refine zAc 1<|zAa<|zAc 2<|S_a [(6,.ret (PV.bool (zDc x)) [])] (ap (f154 x (by omega)) an)<|zAd 2<|zAa<|zAm<|E_a [] an (PV.bool !zDc x) [] rfl rfl
theorem f223_2  (l:List (List Int)) (hl:l.length<4294967296) (hr:∀ x∈l,x.length<1000000):FG 223 [.sl (l.map zAP),.func 201 [] [.ref (.func 154 [] [])]] (I (zER (fun x => !(zDc x)) l)):=by
 refine zAe Tryz.f223 ?_
 refine zAc 1<|zAa<|zAh<|zAc 1<|S_a [(0,.n l.length)] (ap (lnS zAP l) an)<|zAd 1<|zAa<|zAi 0 ?_
 refine zAp (fun i=>i≤l.length∧∀ j,j<i→(fun x => !(zDc x)) (l.getD j [])=false) (fun i=>[(8,I (i:Nat))]) (fun i=>l.length-i) (0:Nat) (by simp) fun i ⟨hi,ha⟩=>?_
 by_cases yG:i<l.length
 ·have hri:=zBA (d:=[]) hr i yG
  refine zAc 1<|zAa<|zAh<|zAU ((↑i:Int)<(↑l.length:Int)) (by omega)<|zAj<|zAh<|zAi 1<|zAc 2<|zAa<|zAc 3<|S_a [(2,.v (zAP (l.getD i [])))] (ap (zBG [] (by omega):(List.map zAP l)[i]? = some (zAP (l.getD i []))) an)<|zAd 1<|S_a [(7,.ret (PV.bool !zDc (l.getD i [])) [])] (ap (f201_2 (l.getD i []) (by omega)) an)<|zAa<|zDr (!zDc (l.getD i [])) (fun k0=>(zAc 2<|zAa<|zAm<|E_a [] an (I (↑i:Int)) [] ?_ rfl)) (fun k0=>(zAj<|zAf<|S_a [(1,.v (I (↑(i+1):Int)))] (ap (wrN i) an)<|zAd 1<|zAa ?_))
  ·rw [zBW (i:=i) yG (fun j hj=>by rw [← zAs (d:=[])];exact ha j hj) (by rw [← zAs (d:=[])];first | assumption | exact decide_eq_true ‹_›)]
  ·refine ⟨i+1,⟨by omega,fun j hj=>?_⟩,by omega,by kernel_rfl,by kernel_rfl⟩
   rcases Nat.lt_succ_iff_lt_or_eq.1 hj with h | rfl
   ·exact ha j h
   ·first | assumption | exact decide_eq_false ‹_› | (simp only [Bool.not_eq_false',decide_eq_true_eq];assumption)
 ·refine zAc 1<|zAa<|zAh<|zAT ((↑i:Int)<(↑l.length:Int)) (by omega)<|zAz 0<|zAc 1<|zAa<|zAm<|E_a [] an (I (-1)) [] ?_ rfl
  rw [zCl fun j hj=>by rw [← zAs (d:=[])];exact ha j (by omega)]
theorem f200_2  (l:List (List Int)) (hl:l.length<4294967296) (hr:∀ x∈l,x.length<1000000):FG 200 [.sl (l.map zAP),.func 201 [] [.ref (.func 154 [] [])]] (.bool (l.any (fun x => !(zDc x)))):=by
 refine zAe Tryz.f200 ?_
 refine zAc 1<|zAa<|zAc 2<|S_a [(7,.ret (I (zER (fun x => !zDc x) l)) [])] (ap (f223_2 l (by omega) (by omega)) an)<|zAd 2<|zAa<|zAm<|E_a [] an (PV.bool (decide (zER (fun x => !zDc x) l≥0))) [] ?_ rfl
 rw [zD7]
theorem f152_2  (l:List (List Int)) (hl:l.length<4294967296) (hr:∀ x∈l,x.length<1000000):FG 152 [.sl (l.map zAP),.func 154 [] []] (.bool (l.all (fun x=>zDc x))):=by
 refine zAe Tryz.f152 ?_
 refine zAc 2<|zAa<|zAc 2<|S_a [(12,.ret (PV.bool (l.any fun x => !zDc x)) [])] (ap (f200_2 l (by omega) (by omega)) an)<|zAd 2<|zAa<|zAm<|E_a [] an (PV.bool !l.any fun x => !zDc x) [] ?_ rfl
 simp [List.not_any_eq_all_not]
theorem f76 (n:Nw) (hs:Small n):FG 76 [nwV n] (I (zCT n)):=by
 refine zAe Tryz.f76 ?_
 have h1:=hs.hl
 have h2:=hs.hn
 have h3:=hs.hs
 have h4:=hs.hr
 refine zAc 2<|zAa<|zAh<|zAc 2<|S_a [(10,.ret (PV.bool (inB n.h 1 10)) [])] (ap (f107 n.h (1) (10)) an)<|zAd 2<|zEl 9 (!inB n.h 1 10) (fun k0=>(zAd 19<|zAa<|zBR<|zAc 1<|zAa<|zAm<|E_a [] an (I 2) [] ?_ rfl)) (fun k0=>(zAd 2<|S_a [(0,.n n.l.length)] (ap (lnS prV n.l) an)<|zAd 3<|zET 15 ((↑n.l.length:Int)>15) (fun k1=>(zAd 13<|zAa<|zBR<|zAc 1<|zAa<|zAm<|E_a [] an (I 2) [] ?_ rfl)) (fun k1=>(zAd 2<|S_a [(0,.n n.n.length)] (ap (lnS ntV n.n) an)<|S_a [(10,.ret (PV.bool (inB (↑n.n.length:Int) 1 8)) [])] (ap (f107 ((↑n.n.length:Int)) (1) (8)) an)<|zAd 3<|zEl 22 (!inB (↑n.n.length:Int) 1 8) (fun k2=>(zAd 6<|zAa<|zBR<|zAc 1<|zAa<|zAm<|E_a [] an (I 2) [] ?_ rfl)) (fun k2=>(zAd 2<|S_a [(0,.n n.s.length)] (ap (lnS zAP n.s) an)<|S_a [(10,.ret (PV.bool (inB (↑n.s.length:Int) 1 6)) [])] (ap (f107 ((↑n.s.length:Int)) (1) (6)) an)<|zAd 2<|zAa<|zDr (!inB (↑n.s.length:Int) 1 6) (fun k3=>(zAc 1<|zAa<|zAm<|E_a [] an (I 2) [] ?_ rfl)) (fun k3=>(zAj<|zAh<|zAc 1<|S_a [(6,.ret (I (zBt n.h n.l)) [])] (ap (f150 n ?_ (by first | omega | (simp<;>omega))) an)<|zAd 1<|zAa<|zAc 2<|zAa<|zDb (zBt n.h n.l=0) (fun k4=>(zAc 2<|zAa<|zAm<|E_a [] an (I (zBt n.h n.l)) [] ?_ rfl)) (fun k4=>(zAj<|zAh<|zAc 1<|S_a [(6,.ret (I (zCy n.n)) [])] (ap (f151 n ?_) an)<|zAd 1<|zAa<|zAc 2<|zAa<|zDb (zCy n.n=0) (fun k5=>(zAc 2<|zAa<|zAm<|E_a [] an (I (zCy n.n)) [] ?_ rfl)) (fun k5=>(zAj<|zAh<|zAi 0<|zAc 3<|S_a [(13,.ret (PV.bool (n.s.all fun x=>zIv n.h x)) [])] (ap (f152_1 n ?_ n.s (by omega) (by omega)) an)<|zAd 2<|zAa<|zDr (!n.s.all fun x=>zIv n.h x) (fun k6=>(zAc 1<|zAa<|zAm<|E_a [] an (I 1) [] ?_ rfl)) (fun k6=>(zAc 2<|S_a [(7,.ret (PV.bool (n.s.all fun x=>zDc x)) [])] (ap (f152_2 n.s (by omega) (by omega)) an)<|zAd 2<|zAa<|zDr (!n.s.all fun x=>zDc x) (fun k7=>(zAc 1<|zAa<|zAm<|E_a [] an (I 4) [] ?_ rfl)) (fun k7=>(zAj<|zAc 1<|zAa<|zAm<|E_a [] an (I 0) [] ?_ rfl))))))))))))))))
 all_goals first | exact zWu k0 | (have:=zWu k2;omega) | (simp [zCT, *];done)
end
end Go.Eng
set_option maxRecDepth 10000
set_option maxHeartbeats 4000000
namespace Go.Eng
open Go Go.Proofs
theorem zQr {l:List Int}:∀ k,k≤l.length→(zEy (l.take k)).length≤k∧((∃ j,1≤j∧j<k∧l.getD j 0=l.getD (j-1) 0)→(zEy (l.take k)).length<k)
 | 0,_=>⟨by simp [zEy],fun ⟨j,h1,h2,_⟩=>by omega⟩
 | k + 1,hk=>by
  obtain ⟨h1,h2⟩:=zQr (l:=l) k (by omega)
  cases k with
  | zero =>
   rw [zGS (show 0<l.length by omega)]
   exact ⟨by simp [zEy,zPT],fun ⟨j,h1,h2,_⟩=>by omega⟩
  | succ k =>
   rw [zGV (by omega) (by omega)]
   split
   ·exact ⟨by omega,fun _=>by omega⟩
   ·rename_i hI
    refine ⟨by rw [List.length_append];simp;omega,fun ⟨j,g1,g2,g3⟩=>?_⟩
    have hj:j<k+1:=by
     by_cases h:j=k+1
     ·subst h;exact absurd g3 hI
     ·omega
    have:=h2 ⟨j,g1,hj,g3⟩
    rw [List.length_append];simp;omega
theorem zSo {l:List Int} (h:zFJ l=true) (j:Nat) (hj:j+1<l.length):l.getD j 0≤l.getD (j+1) 0:=by
 simp only [zFJ,List.all_eq_true,List.mem_range,decide_eq_true_eq] at h
 exact h j (by omega)
theorem zHq {l:List Int}:zDc l=zTe l:=by
 rw [Bool.eq_iff_iff]
 constructor
 ·intro h
  simp only [zDc,Bool.and_eq_true,decide_eq_true_eq] at h
  simp only [zTe,List.all_eq_true,List.mem_range,decide_eq_true_eq]
  intro j hj
  have h1:=zSo h.1 j (by omega)
  have h2:=(zQr (l:=l) l.length (Nat.le_refl _)).2
  rw [List.take_length] at h2
  by_cases he:l.getD (j+1) 0=l.getD j 0
  ·have:=h2 ⟨j+1,by omega,by omega,by simpa using he⟩
   omega
  ·omega
 ·intro h
  simp only [zTe,List.all_eq_true,List.mem_range,decide_eq_true_eq] at h
  simp only [zDc,zFJ,Bool.and_eq_true,decide_eq_true_eq,List.all_eq_true,List.mem_range]
  refine ⟨fun j hj=>by have:=h j hj;omega,?_⟩
  have:=zG9 (l:=l) l.length (Nat.le_refl _) fun j h1 h2=>by
   have:=h (j-1) (by omega)
   rw [show j-1+1=j by omega] at this
   omega
  rw [List.take_length] at this
  rw [this]
structure NwOk (n:Nw):Prop where
 err:zCT n=0
 h:1≤n.h∧n.h≤10
 ll:n.l.length≤15
 nl:1≤n.n.length∧n.n.length≤8
 sl:1≤n.s.length∧n.s.length≤6
 lr:∀ x∈n.l,(0≤x.1∧x.1<n.h)∧(0≤x.2∧x.2<n.h)
 lne:∀ x∈n.l,x.1≠x.2
 ld:(n.l.map pr2).Nodup
 na:∀ i,i<n.n.length→-1≤(n.n.getD i default).1∧(n.n.getD i default).1<i
 nd:∀ i k,k<i→i<n.n.length→(n.n.getD i default).1≠-1→(n.n.getD k default).1≠(n.n.getD i default).1
 sr:∀ l∈n.s,∀ x∈l,0≤x∧x<n.h
 ss:∀ l∈n.s,zTe l=true
theorem zQ4 {l:List Int} (h:zTe l=true):∀ i j,i<j→j<l.length→l.getD i 0<l.getD j 0:=by
 simp only [zTe,List.all_eq_true,List.mem_range,decide_eq_true_eq] at h
 intro i j qH hj
 induction j with
 | zero=>omega
 | succ j ih =>
  have h1:=h j (by omega)
  by_cases he:i=j
  ·subst he;exact h1
  ·have:=ih (by omega) (by omega);omega
theorem zTu {l:List Int} (h:zTe l=true) {B:Int} (hb:∀ x∈l,0≤x∧x<B):(l.length:Int)≤B∨l.length=0:=by
 by_cases h0:l.length=0
 ·exact .inr h0
 ·left
  have key:∀ j,j<l.length→(j:Int)≤l.getD j 0:=by
   intro j
   induction j with
   | zero=>intro hj;exact (zBA hb 0 hj).1
   | succ j ih =>
    intro hj
    have h1:=ih (by omega)
    have h2:=zQ4 h j (j+1) (by omega) hj
    omega
  have h1:=key (l.length-1) (by omega)
  have h2:=(zBA (d:=(0:Int)) hb (l.length-1) (by omega)).2
  omega
theorem NwOk.rows {n:Nw} (ho:NwOk n):∀ l∈n.s,l.length≤10:=fun l hl=>by
 have h1:=zTu (ho.ss l hl) (ho.sr l hl)
 have:=ho.h
 omega
theorem NwOk.small {n:Nw} (ho:NwOk n):Small n:=⟨by have:=ho.ll;omega,by have:=ho.nl;omega,by have:=ho.sl;omega,fun l hl=>by have:=ho.rows l hl;omega⟩
theorem zEc {n lo hi:Int} (h:inB n lo hi=true):lo≤n∧n≤hi:=by simpa [inB] using h
theorem zPn {h:Int} {l:List (Int×Int)} (he:zBt h l=0):(l.all fun x=>zGK h x)=true∧(l.all fun x=>zHo x)=true∧(l.map pr2).Nodup:=by
 unfold zBt at he
 split at he
 ·split at he
  ·split at he
   ·exact ⟨by assumption,by assumption,by assumption⟩
   ·cases he
  ·cases he
 ·cases he
theorem zQA {l:List (Int×Bool)} (he:zCy l=0):zNH l=true∧(List.range l.length).any (zLD l)=false:=by
 unfold zCy at he
 split at he
 ·split at he
  ·cases he
  ·rename_i h1 h2;exact ⟨h1,by rw [Bool.not_eq_true] at h2;exact h2⟩
 ·cases he
theorem zSJ {n:Nw} (he:zCT n=0):NwOk n:=by
 have he0:=he
 unfold zCT at he
 split at he
 ·cases he
 split at he
 ·cases he
 split at he
 ·cases he
 split at he
 ·cases he
 rename_i c1 c2 c3 c4
 split at he
 case isFalse h=>exact absurd he h
 rename_i c5
 split at he
 case isFalse h=>exact absurd he h
 rename_i c6
 split at he
 ·cases he
 split at he
 ·cases he
 rename_i c7 c8
 simp only [Bool.not_eq_true,Bool.not_eq_false'] at c1 c3 c4 c7 c8
 obtain ⟨d1,d2,d3⟩:=zPn c5
 obtain ⟨e1,e2⟩:=zQA c6
 rw [List.all_eq_true] at c7 c8 d1 d2
 simp only [zNH,List.all_eq_true,List.mem_range] at e1
 simp only [List.any_eq_false,List.mem_range] at e2
 have a3:=zEc c3
 have a4:=zEc c4
 refine ⟨he0,zEc c1,by omega,by omega,by omega,fun x hx=>?_,fun x hx=>by have:=d2 x hx;simpa [zHo] using this,d3,fun i hi=>?_,fun i k hk hi hI hx=>?_,fun l hl x hx=>?_,fun l hl=>by rw [← zHq];exact c8 l hl⟩
 ·have:=d1 x hx
  simp only [zGK,Bool.and_eq_true] at this
  have b1:=zEc this.1
  have b2:=zEc this.2
  omega
 ·have:=zEc (e1 i hi);omega
 ·refine e2 i hi ?_
  simp only [zLD,Bool.and_eq_true,decide_eq_true_eq,List.any_eq_true]
  refine ⟨hI,n.n.getD k default,?_,hx⟩
  rw [zAs (by omega)]
  exact List.mem_take_iff_getElem.2 ⟨k,by omega,rfl⟩
 ·have:=c7 l hl
  simp only [zIv,List.all_eq_true] at this
  have:=zEc (this x hx);omega
def zMn (F:List Int) (i:Nat) (a:Int):List Int:=if a = -1 then F.set i i else (F.set i i).set i ((F.set i i).getD a.toNat 0)
def zO0 (l:List (Int×Bool)):Nat→List Int
 | 0=>List.replicate 8 0
 | i+1=>zMn (zO0 l i) i (l.getD i default).1
def zPM (F:List Int) (L:List Int) (i k:Nat):List Int:=if F.getD k 0=F.getD i 0 then L.set i (max (L.getD i 0) k) else L
def zUH (F:List Int) (i:Nat) (L:List Int) (k:Nat):List Int:=(List.range k).foldl (fun L k=>zPM F L i k) L
def zUr (F:List Int) (m i:Nat):List Int:=(List.range i).foldl (fun L i=>zUH F i L m) (List.replicate 8 0)
theorem zQ5 {F:List Int} {i:Nat} {a:Int}:(zMn F i a).length=F.length:=by unfold zMn;split<;>simp
theorem zHl {l:List (Int×Bool)}:∀ i,(zO0 l i).length=8
 | 0=>by simp [zO0]
 | i+1=>by rw [zO0,zQ5];exact zHl i
theorem zQG {F L:List Int} {i k:Nat}:(zPM F L i k).length=L.length:=by unfold zPM;split<;>simp
theorem zLT {F L:List Int} {i k:Nat}:zUH F i L (k+1)=zPM F (zUH F i L k) i k:=by
 simp only [zUH,List.range_succ,List.foldl_append,List.foldl_cons,List.foldl_nil]
theorem zLh {F L:List Int} {i:Nat}:∀ k,(zUH F i L k).length=L.length
 | 0=>rfl
 | k+1=>by rw [zLT,zQG];exact zLh k
theorem zM3 {F:List Int} {m i:Nat}:zUr F m (i+1)=zUH F i (zUr F m i) m:=by
 simp only [zUr,List.range_succ,List.foldl_append,List.foldl_cons,List.foldl_nil]
theorem zOQ {F:List Int} {m:Nat}:∀ i,(zUr F m i).length=8
 | 0=>by simp [zUr]
 | i+1=>by rw [zM3,zLh];exact zOQ i
def zAl (n:Nw):List Int:=zO0 n.n n.n.length
def zA6 (n:Nw):List Int:=zUr (zAl n) n.n.length n.n.length
abbrev zCt (n:Nw) (cs ms:PV) (F L:List Int):PV := .agg [I n.h,.sl (n.l.map prV),.sl (n.n.map ntV),.sl (n.s.map zAP),cs,ms,I (F.getD 0 0),I (F.getD 1 0),I (F.getD 2 0),I (F.getD 3 0),I (F.getD 4 0),I (F.getD 5 0),I (F.getD 6 0),I (F.getD 7 0),I (L.getD 0 0),I (L.getD 1 0),I (L.getD 2 0),I (L.getD 3 0),I (L.getD 4 0),I (L.getD 5 0),I (L.getD 6 0),I (L.getD 7 0)]
abbrev zUo (M:List (Int×Int)):PV := .omap (M.map zBx)
section
variable [Yo]
theorem f139_2 (n:Nw) (hs:Small n) (he:¬ zCT n=0):FG 139 [nwV n] (.tup [.nilp,I (zCT n)]):=by
 refine zAe Tryz.f139 ?_
 refine zAc 3<|zAa<|zAh<|zAc 1<|S_a [(6,.ret (I (zCT n)) [])] (ap (f76 n (by omega)) an)<|zAd 1<|zAa<|zAc 2<|zAa<|zDm (zCT n=0) (by omega)<|zAc 3<|zAa<|zAm<|E_a [] an (PV.tup [PV.nilp,I (zCT n)]) [] rfl rfl
theorem f139_1 (n:Nw) (ho:NwOk n):FG 139 [nwV n] (.tup [.box (zCt n (.own 2 []) (zUo (n.l.map pr2)) (zAl n) (zA6 n)),I 0]):=by
 have hs:=ho.small
 have he:=ho.err
 have h1:=ho.nl.2
 have h2:=ho.ll
 have h3:=ho.ld
 have h4:=ho.na
 refine zAe Tryz.f139 ?_
 refine zAc 3<|zAa<|zAh<|zAc 1<|S_a [(6,.ret (I (zCT n)) [])] (ap (f76 n (by omega)) an)<|zAd 1<|zAa<|zAc 2<|zAa<|zEt (zCT n=0) (by omega)<|zAj<|zAc 5<|zAa<|zAh<|zAc 2<|S_a [(0,.n n.l.length)] (ap (lnS prV n.l) an)<|zAd 1<|zAa<|zAi 0 ?_
 refine zAp (fun (i,M)=>i≤n.l.length∧M=(n.l.take i).map pr2) (fun (i,M)=>[(5,.box (zCt n (.own 2 []) (zUo M) (List.replicate 8 0) (List.replicate 8 0))),(24,I (i:Nat))]) (fun (i,_)=>n.l.length-i) ((0:Nat),([]:List (Int×Int))) ⟨Nat.zero_le _,rfl⟩ fun (i,M) ⟨hi,hM⟩=>?_
 by_cases yG:i<n.l.length
 ·have yT:(n.l.take (i+1)).map pr2=M++[pr2 (n.l.getD i default)]:=by rw [zBP (d:=default) yG,List.map_append,← hM];rfl
  have hin:pr2 (n.l.getD i default)∉M:=fun hm=>by
   rw [← List.take_append_drop (i+1) n.l,List.map_append,yT] at h3
   have h2:=(List.nodup_append.1 h3).1
   have h3:=(List.nodup_append.1 h2).2.2
   exact h3 _ hm _ (List.mem_singleton.2 rfl) rfl
  have jL:=zLe hin
  refine zAc 1<|zAa<|zAh<|zAU ((↑i:Int)<(↑n.l.length:Int)) (by omega)<|zAj<|zAh<|zAi 1<|zAh<|zAf<|S_a [(2,.v (PV.agg [I (n.l.getD i default).fst,I (n.l.getD i default).snd]))] (ap (zBG default (by omega):(List.map prV n.l)[i]? = some (PV.agg [I (n.l.getD i default).fst,I (n.l.getD i default).snd])) an)<|zAd 3<|zAa<|zAf<|zAd 5<|S_a [(6,.ret (prV (pr2 (n.l.getD i default))) [])] (ap (f110 (n.l.getD i default)) an)<|S_a [(4,.ix none),(0,.v (PV.omap (List.map zBx (M++[pr2 (n.l.getD i default)]))))] (ap jL<|ap ((by simp):PV.omap (List.map zBx M++[(PV.agg [I (pr2 (n.l.getD i default)).fst,I (pr2 (n.l.getD i default)).snd],PV.bool true)])=PV.omap (List.map zBx (M++[pr2 (n.l.getD i default)]))) an)<|zAa<|zAf<|S_a [(1,.v (I (↑(i+1):Int)))] (ap (wrN i) an)<|zAd 1<|zAa ?_
  exact ⟨(i+1,M++[pr2 (n.l.getD i default)]),⟨by omega,yT.symm⟩,by simp only;omega,by kernel_rfl,by kernel_rfl⟩
 ·refine zAc 1<|zAa<|zAh<|zAT ((↑i:Int)<(↑n.l.length:Int)) (by omega)<|zAz 0<|zAh<|zAc 2<|S_a [(0,.n n.n.length)] (ap (lnS ntV n.n) an)<|zAd 1<|zAa<|zAi 2 ?_
  rw [List.take_of_length_le (by omega)] at hM
  subst hM
  clear h3
  generalize hMM:n.l.map pr2=MM
  refine zAp (fun (i,F)=>i≤n.n.length∧F=zO0 n.n i) (fun (i,F)=>[(5,.box (zCt n (.own 2 []) (zUo MM) F (List.replicate 8 0))),(38,I (i:Nat))]) (fun (i,_)=>n.n.length-i) ((0:Nat),List.replicate 8 0) ⟨Nat.zero_le _,rfl⟩ fun (i,F) ⟨hi,hF⟩=>?_
  have hFl:F.length=8:=by rw [hF];exact zHl i
  by_cases yG:i<n.n.length
  ·have h4i:=h4 i yG
   have yK:zO0 n.n (i+1)=zMn F i (n.n.getD i default).1:=by rw [hF];rfl
   refine zAc 1<|zAa<|zAh<|zAU ((↑i:Int)<(↑n.n.length:Int)) (by omega)<|zAj<|zAh<|zAi 3<|zAc 1<|S_a [(2,.v (PV.agg [I (n.n.getD i default).fst,PV.bool (n.n.getD i default).snd]))] (ap (zBG default (by omega):(List.map ntV n.n)[i]? = some (PV.agg [I (n.n.getD i default).fst,PV.bool (n.n.getD i default).snd])) an)<|zAd 4<|zAa<|zAc 5<|S_a [(2,.ob),(1,.v (PV.addr 5 [] 0 (6+i) none))] (ap ((by exact zAq (by omega)):decide (i<8)=true)<|ap ((zFE (by kernel_rfl)):PV.addr 5 [] 0 (6+i*(fun x=>x.size) Tryz.prog.types[3]) none=PV.addr 5 [] 0 (6+i) none) an)<|S_a [(8,.root ((PV.agg [I n.h,prs n.l,PV.sl (List.map ntV n.n),PV.sl (List.map zAP n.s),PV.own 2 [],PV.omap (List.map zBx MM),zs F i 0,zs F i 1,zs F i 2,zs F i 3,zs F i 4,zs F i 5,zs F i 6,zs F i 7,z8 0,z8 1,z8 2,z8 3,z8 4,z8 5,z8 6,z8 7]).box) true)] (ap (zPR (zKx (q:=(PV.agg [I n.h,prs n.l,PV.sl (List.map ntV n.n),PV.sl (List.map zAP n.s),PV.own 2 [],PV.omap (List.map zBx MM),I (F.getD 0 0),I (F.getD 1 0),I (F.getD 2 0),I (F.getD 3 0),I (F.getD 4 0),I (F.getD 5 0),I (F.getD 6 0),I (F.getD 7 0),z8 0,z8 1,z8 2,z8 3,z8 4,z8 5,z8 6,z8 7]).box) (xs:=[PV.agg [I n.h,prs n.l,PV.sl (List.map ntV n.n),PV.sl (List.map zAP n.s),PV.own 2 [],PV.omap (List.map zBx MM),I (F.getD 0 0),I (F.getD 1 0),I (F.getD 2 0),I (F.getD 3 0),I (F.getD 4 0),I (F.getD 5 0),I (F.getD 6 0),I (F.getD 7 0),z8 0,z8 1,z8 2,z8 3,z8 4,z8 5,z8 6,z8 7]]) (x:=PV.agg [I n.h,prs n.l,PV.sl (List.map ntV n.n),PV.sl (List.map zAP n.s),PV.own 2 [],PV.omap (List.map zBx MM),I (F.getD 0 0),I (F.getD 1 0),I (F.getD 2 0),I (F.getD 3 0),I (F.getD 4 0),I (F.getD 5 0),I (F.getD 6 0),I (F.getD 7 0),z8 0,z8 1,z8 2,z8 3,z8 4,z8 5,z8 6,z8 7]) (y:=PV.agg [I n.h,prs n.l,PV.sl (List.map ntV n.n),PV.sl (List.map zAP n.s),PV.own 2 [],PV.omap (List.map zBx MM),zs F i 0,zs F i 1,zs F i 2,zs F i 3,zs F i 4,zs F i 5,zs F i 6,zs F i 7,z8 0,z8 1,z8 2,z8 3,z8 4,z8 5,z8 6,z8 7]) (q':=(PV.agg [I n.h,prs n.l,PV.sl (List.map ntV n.n),PV.sl (List.map zAP n.s),PV.own 2 [],PV.omap (List.map zBx MM),zs F i 0,zs F i 1,zs F i 2,zs F i 3,zs F i 4,zs F i 5,zs F i 6,zs F i 7,z8 0,z8 1,z8 2,z8 3,z8 4,z8 5,z8 6,z8 7]).box) rfl (zN7 (A:=[I n.h,prs n.l,PV.sl (List.map ntV n.n),PV.sl (List.map zAP n.s),PV.own 2 [],PV.omap (List.map zBx MM)]) (B:=[z8 0,z8 1,z8 2,z8 3,z8 4,z8 5,z8 6,z8 7]) (F:=F) (m:=8) (j:=i) (u:=(↑i:Int)) (by first | rfl | exact zBX (by kernel_rfl) | exact zBU (by kernel_rfl) | (simp;done)) (by omega) (by omega)) rfl (hb:=zOz (A:=[I n.h,prs n.l,PV.sl (List.map ntV n.n),PV.sl (List.map zAP n.s),PV.own 2 [],PV.omap (List.map zBx MM)]) (B:=[z8 0,z8 1,z8 2,z8 3,z8 4,z8 5,z8 6,z8 7]) (F:=F) (m:=8) (j:=i) (by first | rfl | exact zBX (by kernel_rfl) | exact zBU (by kernel_rfl) | (simp;done)) (by omega))) rfl:zBw (PV.agg [I n.h,prs n.l,PV.sl (List.map ntV n.n),PV.sl (List.map zAP n.s),PV.own 2 [],PV.omap (List.map zBx MM),I (F.getD 0 0),I (F.getD 1 0),I (F.getD 2 0),I (F.getD 3 0),I (F.getD 4 0),I (F.getD 5 0),I (F.getD 6 0),I (F.getD 7 0),z8 0,z8 1,z8 2,z8 3,z8 4,z8 5,z8 6,z8 7]).box [] 0 (6+i) (I (↑i:Int)).cells=some (PV.agg [I n.h,prs n.l,PV.sl (List.map ntV n.n),PV.sl (List.map zAP n.s),PV.own 2 [],PV.omap (List.map zBx MM),zs F i 0,zs F i 1,zs F i 2,zs F i 3,zs F i 4,zs F i 5,zs F i 6,zs F i 7,z8 0,z8 1,z8 2,z8 3,z8 4,z8 5,z8 6,z8 7]).box∧zAE (PV.agg [I n.h,prs n.l,PV.sl (List.map ntV n.n),PV.sl (List.map zAP n.s),PV.own 2 [],PV.omap (List.map zBx MM),I (F.getD 0 0),I (F.getD 1 0),I (F.getD 2 0),I (F.getD 3 0),I (F.getD 4 0),I (F.getD 5 0),I (F.getD 6 0),I (F.getD 7 0),z8 0,z8 1,z8 2,z8 3,z8 4,z8 5,z8 6,z8 7]).box (PV.agg [I n.h,prs n.l,PV.sl (List.map ntV n.n),PV.sl (List.map zAP n.s),PV.own 2 [],PV.omap (List.map zBx MM),zs F i 0,zs F i 1,zs F i 2,zs F i 3,zs F i 4,zs F i 5,zs F i 6,zs F i 7,z8 0,z8 1,z8 2,z8 3,z8 4,z8 5,z8 6,z8 7]).box []=true) an)<|zAa<|zAc 3<|zAa<|zDb ((n.n.getD i default).fst = -1) (fun k0=>(zAf<|zAd 7<|S_a [(0,.ob),(1,.ob),(1,.v (PV.addr 5 [] 0 (6+(n.n.getD i default).fst.toNat) none))] (ap ((by exact zAq (by omega)):decide (0≤(n.n.getD i default).fst)=true)<|ap ((by exact zAq (by omega)):decide ((n.n.getD i default).fst.toNat<8)=true)<|ap ((zFE (by kernel_rfl)):PV.addr 5 [] 0 (6+(n.n.getD i default).fst.toNat*(fun x=>x.size) Tryz.prog.types[3]) none=PV.addr 5 [] 0 (6+(n.n.getD i default).fst.toNat) none) an)<|S_a [(0,.cs true ([I ((F.set i (↑i:Int)).getD (n.n.getD i default).fst.toNat 0)]))] (ap (zDM (q:=(PV.agg [I n.h,prs n.l,PV.sl (List.map ntV n.n),PV.sl (List.map zAP n.s),PV.own 2 [],PV.omap (List.map zBx MM),zs F i 0,zs F i 1,zs F i 2,zs F i 3,zs F i 4,zs F i 5,zs F i 6,zs F i 7,z8 0,z8 1,z8 2,z8 3,z8 4,z8 5,z8 6,z8 7]).box) (xs:=[PV.agg [I n.h,prs n.l,PV.sl (List.map ntV n.n),PV.sl (List.map zAP n.s),PV.own 2 [],PV.omap (List.map zBx MM),zs F i 0,zs F i 1,zs F i 2,zs F i 3,zs F i 4,zs F i 5,zs F i 6,zs F i 7,z8 0,z8 1,z8 2,z8 3,z8 4,z8 5,z8 6,z8 7]]) (x:=PV.agg [I n.h,prs n.l,PV.sl (List.map ntV n.n),PV.sl (List.map zAP n.s),PV.own 2 [],PV.omap (List.map zBx MM),zs F i 0,zs F i 1,zs F i 2,zs F i 3,zs F i 4,zs F i 5,zs F i 6,zs F i 7,z8 0,z8 1,z8 2,z8 3,z8 4,z8 5,z8 6,z8 7]) rfl rfl (zKl (A:=[I n.h,prs n.l,PV.sl (List.map ntV n.n),PV.sl (List.map zAP n.s),PV.own 2 [],PV.omap (List.map zBx MM)]) (B:=[z8 0,z8 1,z8 2,z8 3,z8 4,z8 5,z8 6,z8 7]) (F:=F.set i (↑i:Int)) (m:=8) (j:=(n.n.getD i default).fst.toNat) (by first | rfl | exact zBX (by kernel_rfl) | exact zBU (by kernel_rfl) | (simp;done)) (by omega)):zAv 5 (PV.agg [I n.h,prs n.l,PV.sl (List.map ntV n.n),PV.sl (List.map zAP n.s),PV.own 2 [],PV.omap (List.map zBx MM),zs F i 0,zs F i 1,zs F i 2,zs F i 3,zs F i 4,zs F i 5,zs F i 6,zs F i 7,z8 0,z8 1,z8 2,z8 3,z8 4,z8 5,z8 6,z8 7]).box [] 0 (6+(n.n.getD i default).fst.toNat) 1=some (true,[I ((F.set i (↑i:Int)).getD (n.n.getD i default).fst.toNat 0)])) an)<|zAd 2<|S_a [(2,.ob),(1,.v (PV.addr 5 [] 0 (6+i) none))] (ap ((by exact zAq (by omega)):decide (i<8)=true)<|ap ((zFE (by kernel_rfl)):PV.addr 5 [] 0 (6+i*(fun x=>x.size) Tryz.prog.types[3]) none=PV.addr 5 [] 0 (6+i) none) an)<|S_a [(8,.root ((PV.agg [I n.h,prs n.l,PV.sl (List.map ntV n.n),PV.sl (List.map zAP n.s),PV.own 2 [],PV.omap (List.map zBx MM),I (((F.set i (↑i:Int)).set i ((F.set i (↑i:Int)).getD (n.n.getD i default).fst.toNat 0)).getD 0 0),I (((F.set i (↑i:Int)).set i ((F.set i (↑i:Int)).getD (n.n.getD i default).fst.toNat 0)).getD 1 0),I (((F.set i (↑i:Int)).set i ((F.set i (↑i:Int)).getD (n.n.getD i default).fst.toNat 0)).getD 2 0),I (((F.set i (↑i:Int)).set i ((F.set i (↑i:Int)).getD (n.n.getD i default).fst.toNat 0)).getD 3 0),I (((F.set i (↑i:Int)).set i ((F.set i (↑i:Int)).getD (n.n.getD i default).fst.toNat 0)).getD 4 0),I (((F.set i (↑i:Int)).set i ((F.set i (↑i:Int)).getD (n.n.getD i default).fst.toNat 0)).getD 5 0),I (((F.set i (↑i:Int)).set i ((F.set i (↑i:Int)).getD (n.n.getD i default).fst.toNat 0)).getD 6 0),I (((F.set i (↑i:Int)).set i ((F.set i (↑i:Int)).getD (n.n.getD i default).fst.toNat 0)).getD 7 0),z8 0,z8 1,z8 2,z8 3,z8 4,z8 5,z8 6,z8 7]).box) true)] (ap (zPR (zKx (q:=(PV.agg [I n.h,prs n.l,PV.sl (List.map ntV n.n),PV.sl (List.map zAP n.s),PV.own 2 [],PV.omap (List.map zBx MM),zs F i 0,zs F i 1,zs F i 2,zs F i 3,zs F i 4,zs F i 5,zs F i 6,zs F i 7,z8 0,z8 1,z8 2,z8 3,z8 4,z8 5,z8 6,z8 7]).box) (xs:=[PV.agg [I n.h,prs n.l,PV.sl (List.map ntV n.n),PV.sl (List.map zAP n.s),PV.own 2 [],PV.omap (List.map zBx MM),zs F i 0,zs F i 1,zs F i 2,zs F i 3,zs F i 4,zs F i 5,zs F i 6,zs F i 7,z8 0,z8 1,z8 2,z8 3,z8 4,z8 5,z8 6,z8 7]]) (x:=PV.agg [I n.h,prs n.l,PV.sl (List.map ntV n.n),PV.sl (List.map zAP n.s),PV.own 2 [],PV.omap (List.map zBx MM),zs F i 0,zs F i 1,zs F i 2,zs F i 3,zs F i 4,zs F i 5,zs F i 6,zs F i 7,z8 0,z8 1,z8 2,z8 3,z8 4,z8 5,z8 6,z8 7]) (y:=PV.agg [I n.h,prs n.l,PV.sl (List.map ntV n.n),PV.sl (List.map zAP n.s),PV.own 2 [],PV.omap (List.map zBx MM),I (((F.set i (↑i:Int)).set i ((F.set i (↑i:Int)).getD (n.n.getD i default).fst.toNat 0)).getD 0 0),I (((F.set i (↑i:Int)).set i ((F.set i (↑i:Int)).getD (n.n.getD i default).fst.toNat 0)).getD 1 0),I (((F.set i (↑i:Int)).set i ((F.set i (↑i:Int)).getD (n.n.getD i default).fst.toNat 0)).getD 2 0),I (((F.set i (↑i:Int)).set i ((F.set i (↑i:Int)).getD (n.n.getD i default).fst.toNat 0)).getD 3 0),I (((F.set i (↑i:Int)).set i ((F.set i (↑i:Int)).getD (n.n.getD i default).fst.toNat 0)).getD 4 0),I (((F.set i (↑i:Int)).set i ((F.set i (↑i:Int)).getD (n.n.getD i default).fst.toNat 0)).getD 5 0),I (((F.set i (↑i:Int)).set i ((F.set i (↑i:Int)).getD (n.n.getD i default).fst.toNat 0)).getD 6 0),I (((F.set i (↑i:Int)).set i ((F.set i (↑i:Int)).getD (n.n.getD i default).fst.toNat 0)).getD 7 0),z8 0,z8 1,z8 2,z8 3,z8 4,z8 5,z8 6,z8 7]) (q':=(PV.agg [I n.h,prs n.l,PV.sl (List.map ntV n.n),PV.sl (List.map zAP n.s),PV.own 2 [],PV.omap (List.map zBx MM),I (((F.set i (↑i:Int)).set i ((F.set i (↑i:Int)).getD (n.n.getD i default).fst.toNat 0)).getD 0 0),I (((F.set i (↑i:Int)).set i ((F.set i (↑i:Int)).getD (n.n.getD i default).fst.toNat 0)).getD 1 0),I (((F.set i (↑i:Int)).set i ((F.set i (↑i:Int)).getD (n.n.getD i default).fst.toNat 0)).getD 2 0),I (((F.set i (↑i:Int)).set i ((F.set i (↑i:Int)).getD (n.n.getD i default).fst.toNat 0)).getD 3 0),I (((F.set i (↑i:Int)).set i ((F.set i (↑i:Int)).getD (n.n.getD i default).fst.toNat 0)).getD 4 0),I (((F.set i (↑i:Int)).set i ((F.set i (↑i:Int)).getD (n.n.getD i default).fst.toNat 0)).getD 5 0),I (((F.set i (↑i:Int)).set i ((F.set i (↑i:Int)).getD (n.n.getD i default).fst.toNat 0)).getD 6 0),I (((F.set i (↑i:Int)).set i ((F.set i (↑i:Int)).getD (n.n.getD i default).fst.toNat 0)).getD 7 0),z8 0,z8 1,z8 2,z8 3,z8 4,z8 5,z8 6,z8 7]).box) rfl (zN7 (A:=[I n.h,prs n.l,PV.sl (List.map ntV n.n),PV.sl (List.map zAP n.s),PV.own 2 [],PV.omap (List.map zBx MM)]) (B:=[z8 0,z8 1,z8 2,z8 3,z8 4,z8 5,z8 6,z8 7]) (F:=F.set i (↑i:Int)) (m:=8) (j:=i) (u:=(F.set i (↑i:Int)).getD (n.n.getD i default).fst.toNat 0) (by first | rfl | exact zBX (by kernel_rfl) | exact zBU (by kernel_rfl) | (simp;done)) (by omega) (by first | omega | (simp<;>omega))) rfl (hb:=zOz (A:=[I n.h,prs n.l,PV.sl (List.map ntV n.n),PV.sl (List.map zAP n.s),PV.own 2 [],PV.omap (List.map zBx MM)]) (B:=[z8 0,z8 1,z8 2,z8 3,z8 4,z8 5,z8 6,z8 7]) (F:=F.set i (↑i:Int)) (m:=8) (j:=i) (by first | rfl | exact zBX (by kernel_rfl) | exact zBU (by kernel_rfl) | (simp;done)) (by omega))) rfl:zBw (PV.agg [I n.h,prs n.l,PV.sl (List.map ntV n.n),PV.sl (List.map zAP n.s),PV.own 2 [],PV.omap (List.map zBx MM),zs F i 0,zs F i 1,zs F i 2,zs F i 3,zs F i 4,zs F i 5,zs F i 6,zs F i 7,z8 0,z8 1,z8 2,z8 3,z8 4,z8 5,z8 6,z8 7]).box [] 0 (6+i) (I ((F.set i (↑i:Int)).getD (n.n.getD i default).fst.toNat 0)).cells=some (PV.agg [I n.h,prs n.l,PV.sl (List.map ntV n.n),PV.sl (List.map zAP n.s),PV.own 2 [],PV.omap (List.map zBx MM),I (((F.set i (↑i:Int)).set i ((F.set i (↑i:Int)).getD (n.n.getD i default).fst.toNat 0)).getD 0 0),I (((F.set i (↑i:Int)).set i ((F.set i (↑i:Int)).getD (n.n.getD i default).fst.toNat 0)).getD 1 0),I (((F.set i (↑i:Int)).set i ((F.set i (↑i:Int)).getD (n.n.getD i default).fst.toNat 0)).getD 2 0),I (((F.set i (↑i:Int)).set i ((F.set i (↑i:Int)).getD (n.n.getD i default).fst.toNat 0)).getD 3 0),I (((F.set i (↑i:Int)).set i ((F.set i (↑i:Int)).getD (n.n.getD i default).fst.toNat 0)).getD 4 0),I (((F.set i (↑i:Int)).set i ((F.set i (↑i:Int)).getD (n.n.getD i default).fst.toNat 0)).getD 5 0),I (((F.set i (↑i:Int)).set i ((F.set i (↑i:Int)).getD (n.n.getD i default).fst.toNat 0)).getD 6 0),I (((F.set i (↑i:Int)).set i ((F.set i (↑i:Int)).getD (n.n.getD i default).fst.toNat 0)).getD 7 0),z8 0,z8 1,z8 2,z8 3,z8 4,z8 5,z8 6,z8 7]).box∧zAE (PV.agg [I n.h,prs n.l,PV.sl (List.map ntV n.n),PV.sl (List.map zAP n.s),PV.own 2 [],PV.omap (List.map zBx MM),zs F i 0,zs F i 1,zs F i 2,zs F i 3,zs F i 4,zs F i 5,zs F i 6,zs F i 7,z8 0,z8 1,z8 2,z8 3,z8 4,z8 5,z8 6,z8 7]).box (PV.agg [I n.h,prs n.l,PV.sl (List.map ntV n.n),PV.sl (List.map zAP n.s),PV.own 2 [],PV.omap (List.map zBx MM),I (((F.set i (↑i:Int)).set i ((F.set i (↑i:Int)).getD (n.n.getD i default).fst.toNat 0)).getD 0 0),I (((F.set i (↑i:Int)).set i ((F.set i (↑i:Int)).getD (n.n.getD i default).fst.toNat 0)).getD 1 0),I (((F.set i (↑i:Int)).set i ((F.set i (↑i:Int)).getD (n.n.getD i default).fst.toNat 0)).getD 2 0),I (((F.set i (↑i:Int)).set i ((F.set i (↑i:Int)).getD (n.n.getD i default).fst.toNat 0)).getD 3 0),I (((F.set i (↑i:Int)).set i ((F.set i (↑i:Int)).getD (n.n.getD i default).fst.toNat 0)).getD 4 0),I (((F.set i (↑i:Int)).set i ((F.set i (↑i:Int)).getD (n.n.getD i default).fst.toNat 0)).getD 5 0),I (((F.set i (↑i:Int)).set i ((F.set i (↑i:Int)).getD (n.n.getD i default).fst.toNat 0)).getD 6 0),I (((F.set i (↑i:Int)).set i ((F.set i (↑i:Int)).getD (n.n.getD i default).fst.toNat 0)).getD 7 0),z8 0,z8 1,z8 2,z8 3,z8 4,z8 5,z8 6,z8 7]).box []=true) an)<|zAa<|zAf<|S_a [(1,.v (I (↑(i+1):Int)))] (ap (wrN i) an)<|zAd 1<|zAa ?_)) (fun k0=>(zAj<|zAf<|S_a [(1,.v (I (↑(i+1):Int)))] (ap (wrN i) an)<|zAd 1<|zAa ?_))
   ·rw [zMn,if_neg k0] at yK
    exact ⟨(i+1,(F.set i i).set i ((F.set i i).getD (n.n.getD i default).1.toNat 0)),⟨by omega,yK.symm⟩,by simp only;omega,by kernel_rfl,by kernel_rfl⟩
   ·rw [zMn,if_pos k0] at yK
    exact ⟨(i+1,F.set i i),⟨by omega,yK.symm⟩,by simp only;omega,by kernel_rfl,by kernel_rfl⟩
  ·have hFF:F=zAl n:=by rw [hF,zAl,show i=n.n.length by omega]
   subst hFF
   clear hF
   have vg:zA6 n=zUr (zAl n) n.n.length n.n.length:=rfl
   rw [vg]
   generalize hG:zAl n=F at *
   clear vg h4
   refine zAc 1<|zAa<|zAh<|zAT ((↑i:Int)<(↑n.n.length:Int)) (by omega)<|zAz 2<|zAh<|zAc 2<|S_a [(0,.n n.n.length)] (ap (lnS ntV n.n) an)<|zAd 1<|zAa<|zAi 4 ?_
   refine zAp (fun (i,L)=>i≤n.n.length∧L=zUr F n.n.length i) (fun (i,L)=>[(5,.box (zCt n (.own 2 []) (zUo MM) F L)),(68,I (i:Nat))]) (fun (i,_)=>n.n.length-i) ((0:Nat),List.replicate 8 0) ⟨Nat.zero_le _,rfl⟩ fun (i,L) ⟨hi,hL⟩=>?_
   have hLl:L.length=8:=by rw [hL];exact zOQ i
   by_cases yG:i<n.n.length
   ·have yK:=zM3 (F:=F) (m:=n.n.length) (i:=i)
    rw [← hL] at yK
    refine zAc 1<|zAa<|zAh<|zAU ((↑i:Int)<(↑n.n.length:Int)) (by omega)<|zAj<|zAh<|zAi 5<|zAc 2<|zAa<|zAc 2<|S_a [(0,.n n.n.length)] (ap (lnS ntV n.n) an)<|zAd 1<|zAa<|zAi 6 ?_
    refine zAp (fun (k,Q)=>k≤n.n.length∧Q=zUH F i L k) (fun (k,Q)=>[(5,.box (zCt n (.own 2 []) (zUo MM) F Q)),(74,I (k:Nat))]) (fun (k,_)=>n.n.length-k) ((0:Nat),L) ⟨Nat.zero_le _,rfl⟩ fun (k,Q) ⟨hk,hQ⟩=>?_
    have hQl:Q.length=8:=by rw [hQ,zLh];exact hLl
    by_cases uP:k<n.n.length
    ·have jQ:=zLT (F:=F) (L:=L) (i:=i) (k:=k)
     rw [← hQ] at jQ
     clear yK hL hQ
     refine zAc 1<|zAa<|zAh<|zAU ((↑k:Int)<(↑n.n.length:Int)) (by omega)<|zAj<|zAh<|zAi 7<|zAc 2<|zAa<|zAc 4<|S_a [(2,.ob),(1,.v (PV.addr 5 [] 0 (6+k) none))] (ap ((by exact zAq (by omega)):decide (k<8)=true)<|ap ((zFE (by kernel_rfl)):PV.addr 5 [] 0 (6+k*(fun x=>x.size) Tryz.prog.types[3]) none=PV.addr 5 [] 0 (6+k) none) an)<|S_a [(0,.cs true ([I (F.getD k 0)]))] (ap (zDM (q:=(PV.agg [I n.h,prs n.l,PV.sl (List.map ntV n.n),PV.sl (List.map zAP n.s),PV.own 2 [],PV.omap (List.map zBx MM),I (F.getD 0 0),I (F.getD 1 0),I (F.getD 2 0),I (F.getD 3 0),I (F.getD 4 0),I (F.getD 5 0),I (F.getD 6 0),I (F.getD 7 0),I (Q.getD 0 0),I (Q.getD 1 0),I (Q.getD 2 0),I (Q.getD 3 0),I (Q.getD 4 0),I (Q.getD 5 0),I (Q.getD 6 0),I (Q.getD 7 0)]).box) (xs:=[PV.agg [I n.h,prs n.l,PV.sl (List.map ntV n.n),PV.sl (List.map zAP n.s),PV.own 2 [],PV.omap (List.map zBx MM),I (F.getD 0 0),I (F.getD 1 0),I (F.getD 2 0),I (F.getD 3 0),I (F.getD 4 0),I (F.getD 5 0),I (F.getD 6 0),I (F.getD 7 0),I (Q.getD 0 0),I (Q.getD 1 0),I (Q.getD 2 0),I (Q.getD 3 0),I (Q.getD 4 0),I (Q.getD 5 0),I (Q.getD 6 0),I (Q.getD 7 0)]]) (x:=PV.agg [I n.h,prs n.l,PV.sl (List.map ntV n.n),PV.sl (List.map zAP n.s),PV.own 2 [],PV.omap (List.map zBx MM),I (F.getD 0 0),I (F.getD 1 0),I (F.getD 2 0),I (F.getD 3 0),I (F.getD 4 0),I (F.getD 5 0),I (F.getD 6 0),I (F.getD 7 0),I (Q.getD 0 0),I (Q.getD 1 0),I (Q.getD 2 0),I (Q.getD 3 0),I (Q.getD 4 0),I (Q.getD 5 0),I (Q.getD 6 0),I (Q.getD 7 0)]) rfl rfl (zKl (A:=[I n.h,prs n.l,PV.sl (List.map ntV n.n),PV.sl (List.map zAP n.s),PV.own 2 [],PV.omap (List.map zBx MM)]) (B:=[I (Q.getD 0 0),I (Q.getD 1 0),I (Q.getD 2 0),I (Q.getD 3 0),I (Q.getD 4 0),I (Q.getD 5 0),I (Q.getD 6 0),I (Q.getD 7 0)]) (F:=F) (m:=8) (j:=k) (by first | rfl | exact zBX (by kernel_rfl) | exact zBU (by kernel_rfl) | (simp;done)) (by omega)):zAv 5 (PV.agg [I n.h,prs n.l,PV.sl (List.map ntV n.n),PV.sl (List.map zAP n.s),PV.own 2 [],PV.omap (List.map zBx MM),I (F.getD 0 0),I (F.getD 1 0),I (F.getD 2 0),I (F.getD 3 0),I (F.getD 4 0),I (F.getD 5 0),I (F.getD 6 0),I (F.getD 7 0),I (Q.getD 0 0),I (Q.getD 1 0),I (Q.getD 2 0),I (Q.getD 3 0),I (Q.getD 4 0),I (Q.getD 5 0),I (Q.getD 6 0),I (Q.getD 7 0)]).box [] 0 (6+k) 1=some (true,[I (F.getD k 0)])) an)<|zAd 4<|S_a [(2,.ob),(1,.v (PV.addr 5 [] 0 (6+i) none))] (ap ((by exact zAq (by omega)):decide (i<8)=true)<|ap ((zFE (by kernel_rfl)):PV.addr 5 [] 0 (6+i*(fun x=>x.size) Tryz.prog.types[3]) none=PV.addr 5 [] 0 (6+i) none) an)<|S_a [(0,.cs true ([I (F.getD i 0)]))] (ap (zDM (q:=(PV.agg [I n.h,prs n.l,PV.sl (List.map ntV n.n),PV.sl (List.map zAP n.s),PV.own 2 [],PV.omap (List.map zBx MM),I (F.getD 0 0),I (F.getD 1 0),I (F.getD 2 0),I (F.getD 3 0),I (F.getD 4 0),I (F.getD 5 0),I (F.getD 6 0),I (F.getD 7 0),I (Q.getD 0 0),I (Q.getD 1 0),I (Q.getD 2 0),I (Q.getD 3 0),I (Q.getD 4 0),I (Q.getD 5 0),I (Q.getD 6 0),I (Q.getD 7 0)]).box) (xs:=[PV.agg [I n.h,prs n.l,PV.sl (List.map ntV n.n),PV.sl (List.map zAP n.s),PV.own 2 [],PV.omap (List.map zBx MM),I (F.getD 0 0),I (F.getD 1 0),I (F.getD 2 0),I (F.getD 3 0),I (F.getD 4 0),I (F.getD 5 0),I (F.getD 6 0),I (F.getD 7 0),I (Q.getD 0 0),I (Q.getD 1 0),I (Q.getD 2 0),I (Q.getD 3 0),I (Q.getD 4 0),I (Q.getD 5 0),I (Q.getD 6 0),I (Q.getD 7 0)]]) (x:=PV.agg [I n.h,prs n.l,PV.sl (List.map ntV n.n),PV.sl (List.map zAP n.s),PV.own 2 [],PV.omap (List.map zBx MM),I (F.getD 0 0),I (F.getD 1 0),I (F.getD 2 0),I (F.getD 3 0),I (F.getD 4 0),I (F.getD 5 0),I (F.getD 6 0),I (F.getD 7 0),I (Q.getD 0 0),I (Q.getD 1 0),I (Q.getD 2 0),I (Q.getD 3 0),I (Q.getD 4 0),I (Q.getD 5 0),I (Q.getD 6 0),I (Q.getD 7 0)]) rfl rfl (zKl (A:=[I n.h,prs n.l,PV.sl (List.map ntV n.n),PV.sl (List.map zAP n.s),PV.own 2 [],PV.omap (List.map zBx MM)]) (B:=[I (Q.getD 0 0),I (Q.getD 1 0),I (Q.getD 2 0),I (Q.getD 3 0),I (Q.getD 4 0),I (Q.getD 5 0),I (Q.getD 6 0),I (Q.getD 7 0)]) (F:=F) (m:=8) (j:=i) (by first | rfl | exact zBX (by kernel_rfl) | exact zBU (by kernel_rfl) | (simp;done)) (by omega)):zAv 5 (PV.agg [I n.h,prs n.l,PV.sl (List.map ntV n.n),PV.sl (List.map zAP n.s),PV.own 2 [],PV.omap (List.map zBx MM),I (F.getD 0 0),I (F.getD 1 0),I (F.getD 2 0),I (F.getD 3 0),I (F.getD 4 0),I (F.getD 5 0),I (F.getD 6 0),I (F.getD 7 0),I (Q.getD 0 0),I (Q.getD 1 0),I (Q.getD 2 0),I (Q.getD 3 0),I (Q.getD 4 0),I (Q.getD 5 0),I (Q.getD 6 0),I (Q.getD 7 0)]).box [] 0 (6+i) 1=some (true,[I (F.getD i 0)])) an)<|zAd 1<|zAa<|zCb (F.getD k 0=F.getD i 0) (fun k1=>(zAf<|zAd 6<|S_a [(2,.ob),(1,.v (PV.addr 5 [] 0 (14+i) none))] (ap ((by exact zAq (by omega)):decide (i<8)=true)<|ap ((zFE (by kernel_rfl)):PV.addr 5 [] 0 (14+i*(fun x=>x.size) Tryz.prog.types[3]) none=PV.addr 5 [] 0 (14+i) none) an)<|S_a [(0,.cs true ([I (Q.getD i 0)]))] (ap (zDM (q:=(PV.agg [I n.h,prs n.l,PV.sl (List.map ntV n.n),PV.sl (List.map zAP n.s),PV.own 2 [],PV.omap (List.map zBx MM),I (F.getD 0 0),I (F.getD 1 0),I (F.getD 2 0),I (F.getD 3 0),I (F.getD 4 0),I (F.getD 5 0),I (F.getD 6 0),I (F.getD 7 0),I (Q.getD 0 0),I (Q.getD 1 0),I (Q.getD 2 0),I (Q.getD 3 0),I (Q.getD 4 0),I (Q.getD 5 0),I (Q.getD 6 0),I (Q.getD 7 0)]).box) (xs:=[PV.agg [I n.h,prs n.l,PV.sl (List.map ntV n.n),PV.sl (List.map zAP n.s),PV.own 2 [],PV.omap (List.map zBx MM),I (F.getD 0 0),I (F.getD 1 0),I (F.getD 2 0),I (F.getD 3 0),I (F.getD 4 0),I (F.getD 5 0),I (F.getD 6 0),I (F.getD 7 0),I (Q.getD 0 0),I (Q.getD 1 0),I (Q.getD 2 0),I (Q.getD 3 0),I (Q.getD 4 0),I (Q.getD 5 0),I (Q.getD 6 0),I (Q.getD 7 0)]]) (x:=PV.agg [I n.h,prs n.l,PV.sl (List.map ntV n.n),PV.sl (List.map zAP n.s),PV.own 2 [],PV.omap (List.map zBx MM),I (F.getD 0 0),I (F.getD 1 0),I (F.getD 2 0),I (F.getD 3 0),I (F.getD 4 0),I (F.getD 5 0),I (F.getD 6 0),I (F.getD 7 0),I (Q.getD 0 0),I (Q.getD 1 0),I (Q.getD 2 0),I (Q.getD 3 0),I (Q.getD 4 0),I (Q.getD 5 0),I (Q.getD 6 0),I (Q.getD 7 0)]) rfl rfl (zKl (A:=[I n.h,prs n.l,PV.sl (List.map ntV n.n),PV.sl (List.map zAP n.s),PV.own 2 [],PV.omap (List.map zBx MM),I (F.getD 0 0),I (F.getD 1 0),I (F.getD 2 0),I (F.getD 3 0),I (F.getD 4 0),I (F.getD 5 0),I (F.getD 6 0),I (F.getD 7 0)]) (B:=[]) (F:=Q) (m:=8) (j:=i) (by first | rfl | exact zBX (by kernel_rfl) | exact zBU (by kernel_rfl) | (simp;done)) (by omega)):zAv 5 (PV.agg [I n.h,prs n.l,PV.sl (List.map ntV n.n),PV.sl (List.map zAP n.s),PV.own 2 [],PV.omap (List.map zBx MM),I (F.getD 0 0),I (F.getD 1 0),I (F.getD 2 0),I (F.getD 3 0),I (F.getD 4 0),I (F.getD 5 0),I (F.getD 6 0),I (F.getD 7 0),I (Q.getD 0 0),I (Q.getD 1 0),I (Q.getD 2 0),I (Q.getD 3 0),I (Q.getD 4 0),I (Q.getD 5 0),I (Q.getD 6 0),I (Q.getD 7 0)]).box [] 0 (14+i) 1=some (true,[I (Q.getD i 0)])) an)<|zAd 2<|S_a [(9,.ret (I (max (Q.getD i 0) (↑k:Int))) [])] (ap (f165 (Q.getD i 0) ((↑k:Int))) an)<|zAd 2<|S_a [(2,.ob),(1,.v (PV.addr 5 [] 0 (14+i) none))] (ap ((by exact zAq (by omega)):decide (i<8)=true)<|ap ((zFE (by kernel_rfl)):PV.addr 5 [] 0 (14+i*(fun x=>x.size) Tryz.prog.types[3]) none=PV.addr 5 [] 0 (14+i) none) an)<|S_a [(8,.root ((PV.agg [I n.h,prs n.l,PV.sl (List.map ntV n.n),PV.sl (List.map zAP n.s),PV.own 2 [],PV.omap (List.map zBx MM),I (F.getD 0 0),I (F.getD 1 0),I (F.getD 2 0),I (F.getD 3 0),I (F.getD 4 0),I (F.getD 5 0),I (F.getD 6 0),I (F.getD 7 0),I ((Q.set i (max (Q.getD i 0) (↑k:Int))).getD 0 0),I ((Q.set i (max (Q.getD i 0) (↑k:Int))).getD 1 0),I ((Q.set i (max (Q.getD i 0) (↑k:Int))).getD 2 0),I ((Q.set i (max (Q.getD i 0) (↑k:Int))).getD 3 0),I ((Q.set i (max (Q.getD i 0) (↑k:Int))).getD 4 0),I ((Q.set i (max (Q.getD i 0) (↑k:Int))).getD 5 0),I ((Q.set i (max (Q.getD i 0) (↑k:Int))).getD 6 0),I ((Q.set i (max (Q.getD i 0) (↑k:Int))).getD 7 0)]).box) true)] (ap (zPR (zKx (q:=(PV.agg [I n.h,prs n.l,PV.sl (List.map ntV n.n),PV.sl (List.map zAP n.s),PV.own 2 [],PV.omap (List.map zBx MM),I (F.getD 0 0),I (F.getD 1 0),I (F.getD 2 0),I (F.getD 3 0),I (F.getD 4 0),I (F.getD 5 0),I (F.getD 6 0),I (F.getD 7 0),I (Q.getD 0 0),I (Q.getD 1 0),I (Q.getD 2 0),I (Q.getD 3 0),I (Q.getD 4 0),I (Q.getD 5 0),I (Q.getD 6 0),I (Q.getD 7 0)]).box) (xs:=[PV.agg [I n.h,prs n.l,PV.sl (List.map ntV n.n),PV.sl (List.map zAP n.s),PV.own 2 [],PV.omap (List.map zBx MM),I (F.getD 0 0),I (F.getD 1 0),I (F.getD 2 0),I (F.getD 3 0),I (F.getD 4 0),I (F.getD 5 0),I (F.getD 6 0),I (F.getD 7 0),I (Q.getD 0 0),I (Q.getD 1 0),I (Q.getD 2 0),I (Q.getD 3 0),I (Q.getD 4 0),I (Q.getD 5 0),I (Q.getD 6 0),I (Q.getD 7 0)]]) (x:=PV.agg [I n.h,prs n.l,PV.sl (List.map ntV n.n),PV.sl (List.map zAP n.s),PV.own 2 [],PV.omap (List.map zBx MM),I (F.getD 0 0),I (F.getD 1 0),I (F.getD 2 0),I (F.getD 3 0),I (F.getD 4 0),I (F.getD 5 0),I (F.getD 6 0),I (F.getD 7 0),I (Q.getD 0 0),I (Q.getD 1 0),I (Q.getD 2 0),I (Q.getD 3 0),I (Q.getD 4 0),I (Q.getD 5 0),I (Q.getD 6 0),I (Q.getD 7 0)]) (y:=PV.agg [I n.h,prs n.l,PV.sl (List.map ntV n.n),PV.sl (List.map zAP n.s),PV.own 2 [],PV.omap (List.map zBx MM),I (F.getD 0 0),I (F.getD 1 0),I (F.getD 2 0),I (F.getD 3 0),I (F.getD 4 0),I (F.getD 5 0),I (F.getD 6 0),I (F.getD 7 0),I ((Q.set i (max (Q.getD i 0) (↑k:Int))).getD 0 0),I ((Q.set i (max (Q.getD i 0) (↑k:Int))).getD 1 0),I ((Q.set i (max (Q.getD i 0) (↑k:Int))).getD 2 0),I ((Q.set i (max (Q.getD i 0) (↑k:Int))).getD 3 0),I ((Q.set i (max (Q.getD i 0) (↑k:Int))).getD 4 0),I ((Q.set i (max (Q.getD i 0) (↑k:Int))).getD 5 0),I ((Q.set i (max (Q.getD i 0) (↑k:Int))).getD 6 0),I ((Q.set i (max (Q.getD i 0) (↑k:Int))).getD 7 0)]) (q':=(PV.agg [I n.h,prs n.l,PV.sl (List.map ntV n.n),PV.sl (List.map zAP n.s),PV.own 2 [],PV.omap (List.map zBx MM),I (F.getD 0 0),I (F.getD 1 0),I (F.getD 2 0),I (F.getD 3 0),I (F.getD 4 0),I (F.getD 5 0),I (F.getD 6 0),I (F.getD 7 0),I ((Q.set i (max (Q.getD i 0) (↑k:Int))).getD 0 0),I ((Q.set i (max (Q.getD i 0) (↑k:Int))).getD 1 0),I ((Q.set i (max (Q.getD i 0) (↑k:Int))).getD 2 0),I ((Q.set i (max (Q.getD i 0) (↑k:Int))).getD 3 0),I ((Q.set i (max (Q.getD i 0) (↑k:Int))).getD 4 0),I ((Q.set i (max (Q.getD i 0) (↑k:Int))).getD 5 0),I ((Q.set i (max (Q.getD i 0) (↑k:Int))).getD 6 0),I ((Q.set i (max (Q.getD i 0) (↑k:Int))).getD 7 0)]).box) rfl (zN7 (A:=[I n.h,prs n.l,PV.sl (List.map ntV n.n),PV.sl (List.map zAP n.s),PV.own 2 [],PV.omap (List.map zBx MM),I (F.getD 0 0),I (F.getD 1 0),I (F.getD 2 0),I (F.getD 3 0),I (F.getD 4 0),I (F.getD 5 0),I (F.getD 6 0),I (F.getD 7 0)]) (B:=[]) (F:=Q) (m:=8) (j:=i) (u:=max (Q.getD i 0) (↑k:Int)) (by first | rfl | exact zBX (by kernel_rfl) | exact zBU (by kernel_rfl) | (simp;done)) (by omega) (by omega)) rfl (hb:=zOz (A:=[I n.h,prs n.l,PV.sl (List.map ntV n.n),PV.sl (List.map zAP n.s),PV.own 2 [],PV.omap (List.map zBx MM),I (F.getD 0 0),I (F.getD 1 0),I (F.getD 2 0),I (F.getD 3 0),I (F.getD 4 0),I (F.getD 5 0),I (F.getD 6 0),I (F.getD 7 0)]) (B:=[]) (F:=Q) (m:=8) (j:=i) (by first | rfl | exact zBX (by kernel_rfl) | exact zBU (by kernel_rfl) | (simp;done)) (by omega))) rfl:zBw (PV.agg [I n.h,prs n.l,PV.sl (List.map ntV n.n),PV.sl (List.map zAP n.s),PV.own 2 [],PV.omap (List.map zBx MM),I (F.getD 0 0),I (F.getD 1 0),I (F.getD 2 0),I (F.getD 3 0),I (F.getD 4 0),I (F.getD 5 0),I (F.getD 6 0),I (F.getD 7 0),I (Q.getD 0 0),I (Q.getD 1 0),I (Q.getD 2 0),I (Q.getD 3 0),I (Q.getD 4 0),I (Q.getD 5 0),I (Q.getD 6 0),I (Q.getD 7 0)]).box [] 0 (14+i) (I (max (Q.getD i 0) (↑k:Int))).cells=some (PV.agg [I n.h,prs n.l,PV.sl (List.map ntV n.n),PV.sl (List.map zAP n.s),PV.own 2 [],PV.omap (List.map zBx MM),I (F.getD 0 0),I (F.getD 1 0),I (F.getD 2 0),I (F.getD 3 0),I (F.getD 4 0),I (F.getD 5 0),I (F.getD 6 0),I (F.getD 7 0),I ((Q.set i (max (Q.getD i 0) (↑k:Int))).getD 0 0),I ((Q.set i (max (Q.getD i 0) (↑k:Int))).getD 1 0),I ((Q.set i (max (Q.getD i 0) (↑k:Int))).getD 2 0),I ((Q.set i (max (Q.getD i 0) (↑k:Int))).getD 3 0),I ((Q.set i (max (Q.getD i 0) (↑k:Int))).getD 4 0),I ((Q.set i (max (Q.getD i 0) (↑k:Int))).getD 5 0),I ((Q.set i (max (Q.getD i 0) (↑k:Int))).getD 6 0),I ((Q.set i (max (Q.getD i 0) (↑k:Int))).getD 7 0)]).box∧zAE (PV.agg [I n.h,prs n.l,PV.sl (List.map ntV n.n),PV.sl (List.map zAP n.s),PV.own 2 [],PV.omap (List.map zBx MM),I (F.getD 0 0),I (F.getD 1 0),I (F.getD 2 0),I (F.getD 3 0),I (F.getD 4 0),I (F.getD 5 0),I (F.getD 6 0),I (F.getD 7 0),I (Q.getD 0 0),I (Q.getD 1 0),I (Q.getD 2 0),I (Q.getD 3 0),I (Q.getD 4 0),I (Q.getD 5 0),I (Q.getD 6 0),I (Q.getD 7 0)]).box (PV.agg [I n.h,prs n.l,PV.sl (List.map ntV n.n),PV.sl (List.map zAP n.s),PV.own 2 [],PV.omap (List.map zBx MM),I (F.getD 0 0),I (F.getD 1 0),I (F.getD 2 0),I (F.getD 3 0),I (F.getD 4 0),I (F.getD 5 0),I (F.getD 6 0),I (F.getD 7 0),I ((Q.set i (max (Q.getD i 0) (↑k:Int))).getD 0 0),I ((Q.set i (max (Q.getD i 0) (↑k:Int))).getD 1 0),I ((Q.set i (max (Q.getD i 0) (↑k:Int))).getD 2 0),I ((Q.set i (max (Q.getD i 0) (↑k:Int))).getD 3 0),I ((Q.set i (max (Q.getD i 0) (↑k:Int))).getD 4 0),I ((Q.set i (max (Q.getD i 0) (↑k:Int))).getD 5 0),I ((Q.set i (max (Q.getD i 0) (↑k:Int))).getD 6 0),I ((Q.set i (max (Q.getD i 0) (↑k:Int))).getD 7 0)]).box []=true) an)<|zAa<|zAf<|S_a [(1,.v (I (↑(k+1):Int)))] (ap (wrN k) an)<|zAd 1<|zAa ?_)) (fun k1=>(zAj<|zAf<|S_a [(1,.v (I (↑(k+1):Int)))] (ap (wrN k) an)<|zAd 1<|zAa ?_))
     ·rw [zPM,if_pos (by assumption)] at jQ
      exact ⟨(k+1,Q.set i (max (Q.getD i 0) k)),⟨by omega,jQ.symm⟩,by simp only;omega,by kernel_rfl,by kernel_rfl⟩
     ·rw [zPM,if_neg (by assumption)] at jQ
      exact ⟨(k+1,Q),⟨by omega,jQ.symm⟩,by simp only;omega,by kernel_rfl,by kernel_rfl⟩
    ·refine zAc 1<|zAa<|zAh<|zAT ((↑k:Int)<(↑n.n.length:Int)) (by omega)<|zAz 6<|zAf<|S_a [(1,.v (I (↑(i+1):Int)))] (ap (wrN i) an)<|zAd 1<|zAa ?_
     exact ⟨(i+1,Q),⟨by omega,by rw [yK,hQ,show k=n.n.length by omega]⟩,by simp only;omega,by kernel_rfl,by kernel_rfl⟩
   ·refine zAc 1<|zAa<|zAh<|zAT ((↑i:Int)<(↑n.n.length:Int)) (by omega)<|zAz 4<|zAc 1<|zAd 1<|zAd 1<|zAa<|zAm<|E_a [] an (PV.tup [(PV.agg [I n.h,prs n.l,PV.sl (List.map ntV n.n),PV.sl (List.map zAP n.s),PV.own 2 [],PV.omap (List.map zBx MM),I (F.getD 0 0),I (F.getD 1 0),I (F.getD 2 0),I (F.getD 3 0),I (F.getD 4 0),I (F.getD 5 0),I (F.getD 6 0),I (F.getD 7 0),I (L.getD 0 0),I (L.getD 1 0),I (L.getD 2 0),I (L.getD 3 0),I (L.getD 4 0),I (L.getD 5 0),I (L.getD 6 0),I (L.getD 7 0)]).box,I 0]) [] ?_ rfl
    rw [hL,show i=n.n.length by omega]
end
end Go.Eng
set_option maxRecDepth 10000
set_option maxHeartbeats 4000000
namespace Go.Eng
open Go Go.Proofs
abbrev mapM (M:List (Int×Int)):PV := .map (M.map zBx)
abbrev zDv (n:Nw) (cs:List (Int×Int)):PV := .ref (zCt n (prs cs) (mapM (n.l.map pr2)) (zAl n) (zA6 n))
def zGL (n:Nw) (c:Int×Int):Bool:=inB c.1 0 (n.n.length-1)&&inB c.2 0 (n.s.length-1)
def zBT (n:Nw) (cs:List (Int×Int)):Int:=if zCT n=0 then if (cs.length:Int)>16 then 2 else if (!cs.all fun c=>zGL n c)=true then 1 else 0 else zCT n
def zDa (n:Nw) (cs:List (Int×Int)) (e:Int):Int:=if zBT n cs=0 then if inB e 0 12=true then 0 else 3 else zBT n cs
structure CrOk (n:Nw) (cs:List (Int×Int)):Prop where
 err:zBT n cs=0
 nw:NwOk n
 len:cs.length≤16
 cs:∀ c∈cs,(0≤c.1∧c.1<n.n.length)∧(0≤c.2∧c.2<n.s.length)
structure CrW (n:Nw) (cs:List (Int×Int)):Prop where
 nw:NwOk n
 len:cs.length≤1000
 cs:∀ c∈cs,(0≤c.1∧c.1<n.n.length)∧(0≤c.2∧c.2<n.s.length)
theorem CrOk.w {n:Nw} {cs:List (Int×Int)} (h:CrOk n cs):CrW n cs:=⟨h.nw,by have:=h.len;omega,h.cs⟩
theorem zTV {n:Nw} {cs:List (Int×Int)} (he:zBT n cs=0):CrOk n cs:=by
 have he0:=he
 unfold zBT at he
 split at he
 case isFalse h=>exact absurd he h
 rename_i c1
 split at he
 ·cases he
 split at he
 ·cases he
 rename_i c2 c3
 simp only [Bool.not_eq_true,Bool.not_eq_false',List.all_eq_true] at c3
 refine ⟨he0,zSJ c1,by omega,fun c hc=>?_⟩
 have:=c3 c hc
 simp only [zGL,Bool.and_eq_true] at this
 have b1:=zEc this.1
 have b2:=zEc this.2
 omega
structure EvOk (n:Nw) (cs:List (Int×Int)) (e:Int):Prop where
 err:zDa n cs e=0
 cr:CrOk n cs
 ev:0≤e∧e≤12
theorem zTg {n:Nw} {cs:List (Int×Int)} {e:Int} (he:zDa n cs e=0):EvOk n cs e:=by
 have he0:=he
 unfold zDa at he
 split at he
 case isFalse h=>exact absurd he h
 rename_i c1
 split at he
 ·rename_i h;exact ⟨he0,zTV c1,zEc h⟩
 ·cases he
section
variable [Yo]
theorem f170 (n:Nw) (x:Int) (hb:n.s.length≤6):FG 170 [nwV n,I x] (.bool (inB x 0 (n.s.length-1))):=by
 refine zAe Tryz.f170 ?_
 refine zAc 2<|zAa<|zAc 3<|S_a [(0,.n n.s.length)] (ap (lnS zAP n.s) an)<|S_a [(1,.v (I ((↑n.s.length:Int)-1)))] (ap ((zCV rfl (by omega)):I (IntKind.i64.wrap ((↑n.s.length:Int)-1))=I ((↑n.s.length:Int)-1)) an)<|S_a [(10,.ret (PV.bool (inB x 0 ((↑n.s.length:Int)-1))) [])] (ap (f107 x (0) ((↑n.s.length:Int)-1)) an)<|zAd 1<|zAa<|zAm<|E_a [] an (PV.bool (inB x 0 ((↑n.s.length:Int)-1))) [] rfl rfl
theorem f118 (n:Nw) (c:Int×Int) (cp:PV) (M:List (Int×Int)) (F L:List Int) (ho:NwOk n):FG 118 [.ref (zCt n cp (mapM M) F L),prV c] (.bool (zGL n c)):=by
 have h1:=ho.nl.2
 have h2:=ho.sl.2
 refine zAe Tryz.f118 ?_
 refine zAc 2<|zAa<|zAc 6<|S_a [(8,.ret (PV.bool (inB c.fst 0 ((↑n.n.length:Int)-1))) [])] (ap (f106 n c.fst (by omega)) an)<|zAd 1<|zEl 12 (inB c.fst 0 ((↑n.n.length:Int)-1)) (fun k0=>(zAd 6<|S_a [(8,.ret (PV.bool (inB c.snd 0 ((↑n.s.length:Int)-1))) [])] (ap (f170 n c.snd (by omega)) an)<|zAd 2<|zAa<|zAm<|E_a [] an (PV.bool (inB c.snd 0 ((↑n.s.length:Int)-1))) [] ?_ rfl)) (fun k0=>(zAd 9<|zAa<|zAm<|E_a [] an (PV.bool false) [] ?_ rfl))
 ·simp only [zGL,k0,Bool.true_and]
 ·simp only [zGL,k0,Bool.false_and]
theorem f204_1 (n:Nw) (M:List (Int×Int)) (F L:List Int) (ho:NwOk n) (x:Int×Int):FG 204 [prV x,.ref (.func 118 [.ref (zCt n (.sl []) (mapM M) F L)] [])] (.bool (!(zGL n x))):=by
 refine zAe Tryz.f204 ?_
 refine zAc 2<|zAa<|zAc 2<|S_a [(7,.ret (PV.bool (zGL n x)) [])] (ap (f118 n x (PV.sl []) M F L (by omega)) an)<|zAd 2<|zAa<|zAm<|E_a [] an (PV.bool !zGL n x) [] rfl rfl
theorem f203_1 (n:Nw) (M:List (Int×Int)) (F L:List Int) (ho:NwOk n) (l:List (Int×Int)) (hl:l.length<4294967296):FG 203 [.sl (l.map prV),.func 204 [] [.ref (.func 118 [.ref (zCt n (.sl []) (mapM M) F L)] [])]] (I (zER (fun x => !(zGL n x)) l)):=by
 refine zAe Tryz.f203 ?_
 refine zAc 1<|zAa<|zAh<|zAc 1<|S_a [(0,.n l.length)] (ap (lnS prV l) an)<|zAd 1<|zAa<|zAi 0 ?_
 refine zAp (fun i=>i≤l.length∧∀ j,j<i→(fun x => !(zGL n x)) (l.getD j default)=false) (fun i=>[(8,I (i:Nat))]) (fun i=>l.length-i) (0:Nat) (by simp) fun i ⟨hi,ha⟩=>?_
 refine zAc 1<|zAa<|zAh<|zCb ((↑i:Int)<(↑l.length:Int)) (fun k0=>(zAj<|zAh<|zAi 1<|zAc 2<|zAa<|zAc 3<|S_a [(2,.v (PV.agg [I (l.getD i default).fst,I (l.getD i default).snd]))] (ap (zBG default (by omega):(List.map prV l)[i]? = some (PV.agg [I (l.getD i default).fst,I (l.getD i default).snd])) an)<|zAd 1<|S_a [(7,.ret (PV.bool !zGL n (l.getD i default)) [])] (ap (f204_1 n M F L (by omega) (l.getD i default)) an)<|zAa<|zDr (!zGL n (l.getD i default)) (fun k1=>(zAc 2<|zAa<|zAm<|E_a [] an (I (↑i:Int)) [] ?_ rfl)) (fun k1=>(zAj<|zAf<|S_a [(1,.v (I (↑(i+1):Int)))] (ap (wrN i) an)<|zAd 1<|zAa ?_)))) (fun k0=>(zAz 0<|zAc 1<|zAa<|zAm<|E_a [] an (I (-1)) [] ?_ rfl))
 ·rw [zBW (i:=i) (by omega) (fun j hj=>by rw [← zAs (d:=default)];exact ha j hj) (by rw [← zAs (d:=default)];first | assumption | exact decide_eq_true ‹_› | (simp only [Bool.not_eq_true',decide_eq_false_iff_not];assumption))]
 ·refine ⟨i+1,⟨by omega,fun j hj=>?_⟩,by omega,by kernel_rfl,by kernel_rfl⟩
  rcases Nat.lt_succ_iff_lt_or_eq.1 hj with h | rfl
  ·exact ha j h
  ·first | assumption | exact decide_eq_false ‹_› | (simp only [Bool.not_eq_false',decide_eq_true_eq];first | assumption | (apply Decidable.of_not_not;assumption))
 ·rw [zCl fun j hj=>by rw [← zAs (d:=default)];exact ha j (by omega)]
theorem f159_1 (n:Nw) (M:List (Int×Int)) (F L:List Int) (ho:NwOk n) (l:List (Int×Int)) (hl:l.length<4294967296):FG 159 [.sl (l.map prV),.func 204 [] [.ref (.func 118 [.ref (zCt n (.sl []) (mapM M) F L)] [])]] (.bool (l.any (fun x => !(zGL n x)))):=by
 refine zAe Tryz.f159 ?_
 refine zAc 1<|zAa<|zAc 2<|S_a [(7,.ret (I (zER (fun x => !zGL n x) l)) [])] (ap (f203_1 n M F L (by omega) l (by omega)) an)<|zAd 2<|zAa<|zAm<|E_a [] an (PV.bool (decide (zER (fun x => !zGL n x) l≥0))) [] ?_ rfl
 rw [zD7]
theorem f164_1 (n:Nw) (M:List (Int×Int)) (F L:List Int) (ho:NwOk n) (l:List (Int×Int)) (hl:l.length<4294967296):FG 164 [.sl (l.map prV),.func 118 [.ref (zCt n (.sl []) (mapM M) F L)] []] (.bool (l.all (fun x=>zGL n x))):=by
 refine zAe Tryz.f164 ?_
 refine zAc 2<|zAa<|zAc 2<|S_a [(12,.ret (PV.bool (l.any fun x => !zGL n x)) [])] (ap (f159_1 n M F L (by omega) l (by omega)) an)<|zAd 2<|zAa<|zAm<|E_a [] an (PV.bool !l.any fun x => !zGL n x) [] ?_ rfl
 simp [List.not_any_eq_all_not]
theorem f99_1 (n:Nw) (cs:List (Int×Int)) (ho:CrOk n cs):FG 99 [nwV n,prs cs] (.tup [zDv n cs,I 0]):=by
 have hn:=ho.nw
 have hl:=ho.len
 have ha:(!cs.all fun c=>zGL n c)=false:=by
  simp only [Bool.not_eq_false',List.all_eq_true]
  intro c hc
  have:=ho.cs c hc
  simp only [zGL,inB,Bool.and_eq_true,decide_eq_true_eq];omega
 refine zAe Tryz.f99 ?_
 refine zAc 3<|zAa<|zAc 1<|S_a [(6,.ret (PV.tup [(zCt n (PV.own 2 []) (zUo (List.map pr2 n.l)) (zAl n) (zA6 n)).box,I 0]) [])] (ap (f139_1 n (by omega)) an)<|zAd 5<|zAa<|zAh<|zAi 0<|zAc 3<|zAa<|zAW<|zAc 1<|S_a [(0,.n cs.length)] (ap (lnS prV cs) an)<|zAd 2<|zAa<|zAT ((↑cs.length:Int)>16) (by omega)<|zAc 3<|S_a [(13,.ret (PV.bool (cs.all fun x=>zGL n x)) [])] (ap (f164_1 n (List.map pr2 n.l) (zAl n) (zA6 n) (by omega) cs (by omega)) an)<|zAd 2<|zAa<|zDr (!cs.all fun x=>zGL n x) (fun k0=>(zAc 2<|zAa<|zAm<|E_a [] an (PV.tup [PV.nilp,I 1]) [] ?_ rfl)) (fun k0=>(zAj<|zAc 5<|zAa<|zAc 1<|zAd 1<|zAd 1<|zAa<|zAm<|E_a [] an (PV.tup [(PV.agg (I n.h::prs n.l::PV.sl (List.map ntV n.n)::PV.sl (List.map zAP n.s)::prs cs::PV.map (List.map zBx (List.map pr2 n.l))::(zAS (zAl n) 8++zAS (zA6 n) 8))).ref,I 0]) [] rfl rfl))
 rw [ha] at k0;cases k0
theorem f99_2 (n:Nw) (cs:List (Int×Int)) (hs:Small n) (hl:cs.length<1000000) (ho:¬ zBT n cs=0):FG 99 [nwV n,prs cs] (.tup [.nilp,I (zBT n cs)]):=by
 by_cases he:zCT n=0
 ·have hn:=zSJ he
  refine zAe Tryz.f99 ?_
  refine zAc 3<|zAa<|zAc 1<|S_a [(6,.ret (PV.tup [(zCt n (PV.own 2 []) (zUo (List.map pr2 n.l)) (zAl n) (zA6 n)).box,I 0]) [])] (ap (f139_1 n (by omega)) an)<|zAd 5<|zAa<|zAh<|zAi 0<|zAc 3<|zAa<|zAW<|zAc 1<|S_a [(0,.n cs.length)] (ap (lnS prV cs) an)<|zAd 2<|zAa<|zCb ((↑cs.length:Int)>16) (fun k0=>(zAc 2<|zAa<|zAm<|E_a [] an (PV.tup [PV.nilp,I 2]) [] ?_ rfl)) (fun k0=>(zAc 3<|S_a [(13,.ret (PV.bool (cs.all fun x=>zGL n x)) [])] (ap (f164_1 n (List.map pr2 n.l) (zAl n) (zA6 n) (by omega) cs (by omega)) an)<|zAd 2<|zAa<|zDr (!cs.all fun x=>zGL n x) (fun k1=>(zAc 2<|zAa<|zAm<|E_a [] an (PV.tup [PV.nilp,I 1]) [] ?_ rfl)) (fun k1=>(zAj<|zAc 5<|zAa<|zAc 1<|zAd 1<|zAd 1<|zAa<|zAm<|E_a [] an (PV.tup [(PV.agg (I n.h::prs n.l::PV.sl (List.map ntV n.n)::PV.sl (List.map zAP n.s)::prs cs::PV.map (List.map zBx (List.map pr2 n.l))::(zAS (zAl n) 8++zAS (zA6 n) 8))).ref,I 0]) [] ?_ rfl))))
  ·simp only [zBT,he,k0,if_true]
  ·simp only [zBT,he,k0,k1,if_true,if_false];try rfl
  ·exact absurd (by simp only [zBT,he,k0,k1,if_true,if_false];rfl) ho
 ·refine zAe Tryz.f99 ?_
  refine zAc 3<|zAa<|zAc 1<|S_a [(6,.ret (PV.tup [PV.nilp,I (zCT n)]) [])] (ap (f139_2 n (by omega) (by omega)) an)<|zAd 5<|zAa<|zAh<|zAi 0<|zAc 3<|zAa<|zDm (zCT n=0) (by omega)<|zAc 3<|zAa<|zAm<|E_a [] an (PV.tup [PV.nilp,I (zCT n)]) [] ?_ rfl
  simp only [zBT,he,if_false]
theorem f90_1 (n:Nw) (cs:List (Int×Int)) (e:Int) (ho:EvOk n cs e):FG 90 [nwV n,prs cs,I e] (.tup [zDv n cs,I 0]):=by
 have hc:=ho.cr
 have he:inB e 0 12=true:=by have:=ho.ev;simp only [inB,Bool.and_eq_true,decide_eq_true_eq];omega
 refine zAe Tryz.f90 ?_
 refine zAc 3<|zAa<|zAc 2<|S_a [(8,.ret (PV.tup [zDv n cs,I 0]) [])] (ap (f99_1 n cs (by omega)) an)<|zAd 5<|zAa<|zAh<|zAc 4<|S_a [(10,.ret (PV.bool (inB e 0 12)) [])] (ap (f107 e (0) (12)) an)<|zAd 2<|zAa<|zDr (!inB e 0 12) (fun k0=>(zAf<|zAd 1<|zAa<|zAh<|zAc 2<|zAa<|zBR<|zAc 3<|zAa<|zAm<|E_a [] an (PV.tup [PV.nilp,I 3]) [] ?_ rfl)) (fun k0=>(zAj<|zAh<|zAc 2<|zAa<|zAW<|zAj<|zAc 3<|zAa<|zAm<|E_a [] an (PV.tup [(PV.agg (I n.h::prs n.l::PV.sl (List.map ntV n.n)::PV.sl (List.map zAP n.s)::prs cs::PV.map (List.map zBx (List.map pr2 n.l))::(zAS (zAl n) 8++zAS (zA6 n) 8))).ref,I 0]) [] rfl rfl))
 rw [he] at k0;cases k0
theorem f90_2 (n:Nw) (cs:List (Int×Int)) (e:Int) (hs:Small n) (hl:cs.length<1000000) (ho:¬ zDa n cs e=0):FG 90 [nwV n,prs cs,I e] (.tup [.nilp,I (zDa n cs e)]):=by
 by_cases he:zBT n cs=0
 ·have hc:=zTV he
  refine zAe Tryz.f90 ?_
  refine zAc 3<|zAa<|zAc 2<|S_a [(8,.ret (PV.tup [zDv n cs,I 0]) [])] (ap (f99_1 n cs (by omega)) an)<|zAd 5<|zAa<|zAh<|zAc 4<|S_a [(10,.ret (PV.bool (inB e 0 12)) [])] (ap (f107 e (0) (12)) an)<|zAd 2<|zAa<|zDr (!inB e 0 12) (fun k0=>(zAf<|zAd 1<|zAa<|zAh<|zAc 2<|zAa<|zBR<|zAc 3<|zAa<|zAm<|E_a [] an (PV.tup [PV.nilp,I 3]) [] ?_ rfl)) (fun k0=>(zAj<|zAh<|zAc 2<|zAa<|zAW<|zAj<|zAc 3<|zAa<|zAm<|E_a [] an (PV.tup [(PV.agg (I n.h::prs n.l::PV.sl (List.map ntV n.n)::PV.sl (List.map zAP n.s)::prs cs::PV.map (List.map zBx (List.map pr2 n.l))::(zAS (zAl n) 8++zAS (zA6 n) 8))).ref,I 0]) [] ?_ rfl))
  ·rw [Bool.not_eq_true'] at k0
   simp only [zDa,he,k0,if_true];try rfl
  ·rw [Bool.not_eq_false'] at k0
   exact absurd (by simp only [zDa,he,k0,if_true]) ho
 ·refine zAe Tryz.f90 ?_
  refine zAc 3<|zAa<|zAc 2<|S_a [(8,.ret (PV.tup [PV.nilp,I (zBT n cs)]) [])] (ap (f99_2 n cs (by omega) (by omega) (by omega)) an)<|zAd 5<|zAa<|zAh<|zAc 3<|zUc 18 (zBT n cs=0) (by omega) (zAd 4<|zAa<|zAW<|zAj<|zAh<|zAc 2<|zAa<|zDm (zBT n cs=0) (by omega)<|zAc 3<|zAa<|zAm<|E_a [] an (PV.tup [PV.nilp,I (zBT n cs)]) [] ?_ rfl)
  simp only [zDa,he,if_false]
theorem f140 (n:Nw) (cp:PV) (M:List (Int×Int)) (F L:List Int) (ho:NwOk n) (h:Int) (s:Int) (hs:0≤s∧s<n.s.length):FG 140 [.ref (zCt n cp (mapM M) F L),I h,I s] (.bool (has (n.s.getD s.toNat []) h)):=by
 have h1:=zBA (d:=[]) ho.rows s.toNat (by omega)
 refine zAe Tryz.f140 ?_
 refine zAc 1<|zAa<|zAc 6<|S_a [(0,.ob),(1,.v (zAP (n.s.getD s.toNat [])))] (ap ((by exact zAq (by omega)):decide (0≤s)=true)<|ap (zBG [] (by omega):(List.map zAP n.s)[s.toNat]? = some (zAP (n.s.getD s.toNat []))) an)<|zAd 2<|S_a [(8,.ret (PV.bool (has (n.s.getD s.toNat []) h)) [])] (ap (f58 (n.s.getD s.toNat []) h (by omega)) an)<|zAd 1<|zAa<|zAm<|E_a [] an (PV.bool (has (n.s.getD s.toNat []) h)) [] rfl rfl
theorem f116 (n:Nw) (cs:List (Int×Int)) (h:Int):FG 116 [zDv n cs,I h] (.func 169 [] [.ref (zDv n cs),.ref (I h)]):=by
 refine zAe Tryz.f116 ?_
 refine zAc 3<|zAa<|zAc 2<|zAa<|zAm<|E_a [] an (PV.func 169 [] [(PV.agg (I n.h::prs n.l::PV.sl (List.map ntV n.n)::PV.sl (List.map zAP n.s)::prs cs::PV.map (List.map zBx (List.map pr2 n.l))::(zAS (zAl n) 8++zAS (zA6 n) 8))).ref.ref,(I h).ref]) [] rfl rfl
end
def zGd (n:Nw) (a b:Int):Bool:=decide (pr2 (a,b)∈n.l.map pr2)
def zHQ (n:Nw) (h:Nat) (o:Nat):List Nat:=(List.range o).filter fun o=>zGd n h o
theorem zJL {n:Nw} {h o:Nat}:zHQ n h (o+1)=if zGd n h o=true then zHQ n h o++[o] else zHQ n h o:=by
 unfold zHQ;rw [List.range_succ,List.filter_append]
 by_cases hn:zGd n h o=true
 ·rw [if_pos hn];simp [hn]
 ·rw [if_neg hn];simp [hn]
theorem zSz {n:Nw} {h t m:Nat} (ht:t≤m):zHQ n h t <+: zHQ n h m:=by
  induction ht with
  | refl=>exact List.prefix_refl _
  | step _ ih => rw [zJL];split
                 · exact ih.trans (List.prefix_append _ _)
                 · exact ih
theorem zSv {α:Type} {x y:List α} (h:x <+: y) {k:Int} (hk:k=x.length):x=y.take k.toNat:=by
 rw [hk,Int.toNat_natCast];exact List.prefix_iff_eq_take.1 h
abbrev zIF (n:Nw) (h o:Nat):List (List PV):=(zHQ n h o).map fun (o:Nat)=>[I o]
abbrev zQD (n:Nw) (cs:List (Int×Int)) (h:Nat):List PV:=[.ref (zDv n cs),.ref (I h)]
theorem zVM [Yo] (n:Nw) (cs:List (Int×Int)) (h:Nat) (ho:NwOk n) (hh:(h:Int)<n.h) (k:Int) (hk:k = -1∨1≤k∧k≤(zHQ n h n.h.toNat).length) (i:Nat):W Tryz.prog zJW 169 Tryz.f169.ntmps (Tryz.f169.body.getD .ret) (zA4 ([]++PV.yld i::zQD n cs h) []) (some ⟨[],k,i⟩) fun x _ lg=>(x = .norm∨x = .ret)∧lg.map (·.xs)=some (if k = -1 then zIF n h n.h.toNat else (zIF n h n.h.toNat).take k.toNat):=by
 have hb:=ho.h
 refine zAc 6<|zAa<|zAi 0 ?_
 refine zUL (fun (o,xs,kc)=>o≤n.h.toNat∧xs=zIF n h o∧kc=k-xs.length∧(k = -1∨1≤kc)) (fun (o,_,_)=>[(10,I (o:Nat))]) (fun (_,xs,kc)=>some ⟨xs,kc,i⟩) (fun (o,_,_)=>n.h.toNat-o) ((0:Nat),([]:List (List PV)),k) ⟨Nat.zero_le _,rfl,by simp,by omega⟩ fun (o,xs,kc) ⟨hr,jY,hkc,jJ⟩=>?_
 by_cases ql:(o:Int)<n.h
 ·have yq:=zJL (n:=n) (h:=h) (o:=o)
  by_cases hI:zGd n h o=true
  ·rw [if_pos hI] at yq
   have gh:pr2 ((h:Int),(o:Int))∈n.l.map pr2:=by simpa [zGd] using hI
   obtain ⟨j,hj,jL⟩:=zRA gh
   have jq:zJj ((n.l.map pr2).map zBx) j=some (.bool true):=by
    have:j<n.l.length:=by simpa using hj
    simp [zJj,this]
   have qX:xs++[[I o]]=zIF n h (o+1):=by rw [zIF,yq,List.map_append,jY];rfl
   have ud:xs++[[I o]] <+: zIF n h n.h.toNat:=by rw [qX];exact (zSz (by omega)).map _
   refine zAc 1<|zAa<|zAh<|zAU ((↑o:Int)<n.h) (by omega)<|zAj<|zAh<|zAi 1<|zAc 2<|zAa<|zAc 7<|S_a [(6,.ret (prV (pr2 ((↑h:Int),(↑o:Int)))) [])] (ap (f110 (((↑h:Int),(↑o:Int)))) an)<|S_a [(2,.ix (some j)),(0,.v (PV.bool true))] (ap jL<|ap (jq:zJj (List.map zBx (List.map pr2 n.l)) j=some (PV.bool true)) an)<|zAd 3 ?_
   refine zVW kc xs [I o] i (fun hk3=>?_) (fun hk3=>?_) (by omega)
   ·refine zAd 2<|zAa<|zBR<|zAm ?_
    refine ⟨.inr rfl,?_⟩
    have w7:k=(xs++[[I (o:Int)]]).length:=by simp;omega
    have jJ:¬ k = -1:=by omega
    rw [if_neg jJ,← zSv ud w7];show Option.map _ _=_;kernel_rfl
   ·refine zAd 2<|zAa<|zAW<|zAj<|zAf<|S_a [(1,.v (I (↑(o+1):Int)))] (ap (wrN o) an)<|zAd 1<|zAa ?_
    exact ⟨(o+1,xs++[[I o]],kc-1),⟨by omega,qX,by simp;omega,by omega⟩,by simp only;omega,by kernel_rfl,by kernel_rfl⟩
  ·rw [if_neg hI] at yq
   have gh:pr2 ((h:Int),(o:Int))∉n.l.map pr2:=by simpa [zGd] using hI
   have jL:=zLe gh
   refine zAc 1<|zAa<|zAh<|zAU ((↑o:Int)<n.h) (by omega)<|zAj<|zAh<|zAi 1<|zAc 2<|zAa<|zAc 7<|S_a [(6,.ret (prV (pr2 ((↑h:Int),(↑o:Int)))) [])] (ap (f110 (((↑h:Int),(↑o:Int)))) an)<|S_a [(2,.ix none)] (ap jL an)<|zAd 6<|zAa<|zAW<|zAj<|zAf<|S_a [(1,.v (I (↑(o+1):Int)))] (ap (wrN o) an)<|zAd 1<|zAa ?_
   exact ⟨(o+1,xs,kc),⟨by omega,by rw [zIF,yq];exact jY,hkc,jJ⟩,by simp only;omega,by kernel_rfl,by kernel_rfl⟩
 ·have e:o=n.h.toNat:=by omega
  subst e
  have hZ:xs.length=(zHQ n h n.h.toNat).length:=by rw [jY];simp
  have jJ:k = -1:=by omega
  refine zAc 1<|zAa<|zAh<|zAT ((↑n.h.toNat:Int)<n.h) (by omega)<|zAz 0 ?_
  refine ⟨.inl rfl,?_⟩
  rw [if_pos jJ,← jY];show Option.map _ _=_;kernel_rfl
theorem zZo (n:Nw) (cs:List (Int×Int)) (h:Nat) (ho:NwOk n) (hh:(h:Int)<n.h) (k:Int) (hk:k = -1∨1≤k∧k≤(zHQ n h n.h.toNat).length):@zSI (yo1 Tryz.prog zJW) 169 [] (zQD n cs h) k (if k = -1 then zIF n h n.h.toNat else (zIF n h n.h.toNat).take k.toNat) :=
 zTn Tryz.f169 (fun i=>@zVM yo0 n cs h ho hh k hk i) (by omega)
noncomputable instance nwYo:Yo:=yo1 Tryz.prog zJW
theorem zUj (n:Nw) (cs:List (Int×Int)) (h:Nat) (ho:NwOk n) (hh:(h:Int)<n.h):zFV 169 [] (zQD n cs h) (zIF n h n.h.toNat):=by
 refine ⟨?_,fun j h1 h2=>?_⟩
 ·have:=zZo n cs h ho hh (-1) (.inl rfl)
  rwa [if_pos rfl] at this
 ·have:=zZo n cs h ho hh (j:Int) (.inr ⟨by omega,by simpa using h2⟩)
  rw [if_neg (by omega)] at this
  exact this
end Go.Eng
