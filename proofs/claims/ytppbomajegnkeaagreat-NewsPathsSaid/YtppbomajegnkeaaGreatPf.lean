/- For whatever news, cries, yT, notice and list, the law NewsPaths returns true and changes no argument: the path that is returned is one, ends at the yT and has as few jC as can be, and whether a list is a path is told as the reference tells it. -/
import Derived.Test.YtppbomajegnkeaaGreatPe
import Derived.Test.YtppbomajegnkeaaGreatPd
set_option linter.unusedVariables false
set_option linter.unusedSimpArgs false
set_option linter.unusedSectionVars false
set_option maxRecDepth 10000
set_option maxHeartbeats 4000000
namespace Go.Eng
open Go Go.Proofs
def zGJ (h:Int) (x:Int×Int):Bool:=inB x.1 0 (h-1)&&inB x.2 0 (h-1)
def zHI (x:Int×Int):Bool:=decide (x.1≠x.2)
def zBt (h:Int) (l:List (Int×Int)):Int:=if (l.all fun x=>zGJ h x)=true then if (l.all fun x=>zHI x)=true then if (l.map pr2).Nodup then 0 else 5 else 8 else 1
def zNU (l:List (Int×Bool)):Bool:=(List.range l.length).all fun i=>inB (l.getD i default).1 (-1) ((i:Int)-1)
def zLA (l:List (Int×Bool)) (i:Nat):Bool:=decide ((l.getD i default).1≠-1)&&(l.take i).any fun y=>decide (y.1=(l.getD i default).1)
def zCC (l:List (Int×Bool)):Int:=if zNU l=true then if (List.range l.length).any (zLA l)=true then 5 else 0 else 1
def zDg (l:List Int):Bool:=zFE l&&decide ((zGK l).length=l.length)
def zIk (h:Int) (l:List Int):Bool:=l.all fun x=>inB x 0 (h-1)
def zCW (n:Nw):Int :=
 if (!inB n.h 1 10)=true then 2 else if (n.l.length:Int)>15 then 2 else if (!inB n.n.length 1 8)=true then 2 else if (!inB n.s.length 1 6)=true then 2
 else if zBt n.h n.l=0 then
  if zCC n.n=0 then
   if (!n.s.all fun x=>zIk n.h x)=true then 1 else if (!n.s.all fun x=>zDg x)=true then 4 else 0
  else zCC n.n
 else zBt n.h n.l
theorem zWX {n lo hi:Int} (h:(!inB n lo hi)=false):lo≤n∧n≤hi:=by simpa [inB] using h
abbrev zBy (x:Int×Int):PV×PV:=(prV x,.bool true)
theorem zOT {M:List (Int×Int)} (x:Int×Int):zDa Tryz.prog 87 (prV x) (M.map zBy) 0=some (M.findIdx? fun y=>decide (x=y)):=by
 rw [zMm (kx:=Prod.fst) (ky:=Prod.snd) (fun _=>rfl) (zRY) x.1 x.2 M 0]
 simp [zWH]
theorem zM7 {M:List (Int×Int)} {x:Int×Int} (h:x∈M):∃ j,j<M.length∧zDa Tryz.prog 87 (prV x) (M.map zBy) 0=some (some j):=by
 rw [zOT]
 cases hf:M.findIdx? fun y=>decide (x=y) with
 | none =>
  rw [List.findIdx?_eq_none_iff] at hf
  have:=hf x h;simp at this
 | some j=>exact ⟨j,(List.findIdx?_eq_some_iff_getElem.1 hf).1,rfl⟩
theorem zIh {M:List (Int×Int)} {x:Int×Int} (h:x∉M):zDa Tryz.prog 87 (prV x) (M.map zBy) 0=some none:=by
 rw [zOT,List.findIdx?_eq_none_iff.2]
 intro y hy
 simp only [decide_eq_false_iff_not]
 intro e;subst e;exact h hy
structure Small (n:Nw):Prop where
 hl:n.l.length<1000000
 hn:n.n.length<1000000
 hs:n.s.length<1000000
 hr:∀ x∈n.s,x.length<1000000
section
variable [Yo]
theorem f196 (n:Nw) (x:Int×Int) (hb:1≤n.h∧n.h≤10):FG 196 [prV x,.ref (nwV n)] (.bool (zGJ n.h x)):=by
 refine zAg Tryz.f196 ?_
 refine zAd 2<|zAa<|zAd 1<|zAc 1<|zAc 1<|S_a [(8,.ret (PV.bool (inB x.fst 0 (n.h-1))) [])] (ap (f109 n x.fst (by omega)) an)<|zAc 1<|zCn 8 (inB x.fst 0 (n.h-1)) (fun k0=>(zAc 1<|zAc 1<|zAc 1<|S_a [(8,.ret (PV.bool (inB x.snd 0 (n.h-1))) [])] (ap (f109 n x.snd (by omega)) an)<|zAc 2<|zAa<|zAm<|E_a [] an (PV.bool (inB x.snd 0 (n.h-1))) [] ?_ rfl)) (fun k0=>(zAc 6<|zAa<|zAm<|E_a [] an (PV.bool false) [] ?_ rfl))
 ·simp only [zGJ,k0,Bool.true_and]
 ·simp only [zGJ,k0,Bool.false_and]
theorem f197 (x:Int×Int):FG 197 [prV x] (.bool (zHI x)):=by
 refine zAg Tryz.f197 ?_
 refine zAd 2<|zAa<|zAd 1<|zAc 1<|zAc 1<|zAc 3<|zAa<|zAm<|E_a [] an (PV.bool (x.fst != x.snd)) [] ?_ rfl
 congr 1;rw [Bool.eq_iff_iff];simp [zHI]
theorem f199 (x y:Int×Bool):FG 199 [ntV y,.ref (ntV x)] (.bool (decide (y.1=x.1))):=by
 refine zAg Tryz.f199 ?_
 refine zAd 2<|zAa<|zAd 6<|zAa<|zAm<|E_a [] an (PV.bool (y.fst==x.fst)) [] rfl rfl
theorem f168_1 (n:Nw) (hb:1≤n.h∧n.h≤10) (x:Int):FG 168 [I x,.ref (.func 109 [nwV n] [])] (.bool (!(inB x 0 (n.h-1)))):=by
 refine zAg Tryz.f168 ?_
 refine zAd 1<|zAa<|zAd 2<|S_a [(8,.ret (PV.bool (inB x 0 (n.h-1))) [])] (ap (f109 n x (by omega)) an)<|zAc 2<|zAa<|zAm<|E_a [] an (PV.bool !inB x 0 (n.h-1)) [] rfl rfl
theorem f131_1 (n:Nw) (hb:1≤n.h∧n.h≤10) (l:List (Int)) (hl:l.length<4294967296):FG 131 [.sl (l.map I),.func 168 [] [.ref (.func 109 [nwV n] [])]] (I (zEO (fun x => !(inB x 0 (n.h-1))) l)):=by
 refine zAg Tryz.f131 ?_
 refine zAd 1<|zAa<|zAf<|zAd 1<|S_a [(0,.n l.length)] (ap (lnS I l) an)<|zAc 1<|zAa<|zAi 0 ?_
 refine zAq (fun i=>i≤l.length∧∀ j,j<i→(fun x => !(inB x 0 (n.h-1))) (l.getD j 0)=false) (fun i=>[(8,I (i:Nat))]) (fun i=>l.length-i) (0:Nat) (by simp) fun i ⟨hi,ha⟩=>?_
 refine zAd 1<|zAa<|zAf<|zCd ((↑i:Int)<(↑l.length:Int)) (fun k0=>(zAk<|zAf<|zAi 1<|zAd 2<|zAa<|zAd 3<|S_a [(2,.v (I (l.getD i 0)))] (ap (zBv (0) (by omega):(List.map I l)[i]? = some (I (l.getD i 0))) an)<|zAc 1<|S_a [(7,.ret (PV.bool !inB (l.getD i 0) 0 (n.h-1)) [])] (ap (f168_1 n (by omega) (l.getD i 0)) an)<|zAa<|zDt (!inB (l.getD i 0) 0 (n.h-1)) (fun k1=>(zAd 2<|zAa<|zAm<|E_a [] an (I (↑i:Int)) [] ?_ rfl)) (fun k1=>(zAk<|zAe<|S_a [(1,.v (I (↑(i+1):Int)))] (ap (wrN i) an)<|zAc 1<|zAa ?_)))) (fun k0=>(zAA 0<|zAd 1<|zAa<|zAm<|E_a [] an (I (-1)) [] ?_ rfl))
 ·rw [zB0 (i:=i) (by omega) (fun j hj=>by rw [← zAt (d:=0)];exact ha j hj) (by rw [← zAt (d:=0)];first | assumption | exact decide_eq_true ‹_› | (simp only [Bool.not_eq_true',decide_eq_false_iff_not];assumption))]
 ·refine ⟨i+1,⟨by omega,fun j hj=>?_⟩,by omega,by kernel_rfl,by kernel_rfl⟩
  rcases Nat.lt_succ_iff_lt_or_eq.1 hj with h | rfl
  ·exact ha j h
  ·first | assumption | exact decide_eq_false ‹_› | (simp only [Bool.not_eq_false',decide_eq_true_eq];first | assumption | (apply Decidable.of_not_not;assumption))
 ·rw [zCl fun j hj=>by rw [← zAt (d:=0)];exact ha j (by omega)]
theorem f52_1 (n:Nw) (hb:1≤n.h∧n.h≤10) (l:List (Int)) (hl:l.length<4294967296):FG 52 [.sl (l.map I),.func 168 [] [.ref (.func 109 [nwV n] [])]] (.bool (l.any (fun x => !(inB x 0 (n.h-1))))):=by
 refine zAg Tryz.f52 ?_
 refine zAd 1<|zAa<|zAd 2<|S_a [(7,.ret (I (zEO (fun x => !inB x 0 (n.h-1)) l)) [])] (ap (f131_1 n (by omega) l (by omega)) an)<|zAc 2<|zAa<|zAm<|E_a [] an (PV.bool (decide (zEO (fun x => !inB x 0 (n.h-1)) l≥0))) [] ?_ rfl
 rw [zEf]
theorem f108_1 (n:Nw) (hb:1≤n.h∧n.h≤10) (l:List (Int)) (hl:l.length<4294967296):FG 108 [.sl (l.map I),.func 109 [nwV n] []] (.bool (l.all (fun x=>inB x 0 (n.h-1)))):=by
 refine zAg Tryz.f108 ?_
 refine zAd 2<|zAa<|zAd 2<|S_a [(12,.ret (PV.bool (l.any fun x => !inB x 0 (n.h-1))) [])] (ap (f52_1 n (by omega) l (by omega)) an)<|zAc 2<|zAa<|zAm<|E_a [] an (PV.bool !l.any fun x => !inB x 0 (n.h-1)) [] ?_ rfl
 simp [List.not_any_eq_all_not]
theorem f221_1 (n:Nw) (hb:1≤n.h∧n.h≤10) (x:Int×Int):FG 221 [prV x,.ref (.func 196 [] [.ref (nwV n)])] (.bool (!(zGJ n.h x))):=by
 refine zAg Tryz.f221 ?_
 refine zAd 2<|zAa<|zAd 2<|S_a [(7,.ret (PV.bool (zGJ n.h x)) [])] (ap (f196 n x (by omega)) an)<|zAc 2<|zAa<|zAm<|E_a [] an (PV.bool !zGJ n.h x) [] rfl rfl
theorem f202_1 (n:Nw) (hb:1≤n.h∧n.h≤10) (l:List (Int×Int)) (hl:l.length<4294967296):FG 202 [.sl (l.map prV),.func 221 [] [.ref (.func 196 [] [.ref (nwV n)])]] (I (zEO (fun x => !(zGJ n.h x)) l)):=by
 refine zAg Tryz.f202 ?_
 refine zAd 1<|zAa<|zAf<|zAd 1<|S_a [(0,.n l.length)] (ap (lnS prV l) an)<|zAc 1<|zAa<|zAi 0 ?_
 refine zAq (fun i=>i≤l.length∧∀ j,j<i→(fun x => !(zGJ n.h x)) (l.getD j default)=false) (fun i=>[(8,I (i:Nat))]) (fun i=>l.length-i) (0:Nat) (by simp) fun i ⟨hi,ha⟩=>?_
 refine zAd 1<|zAa<|zAf<|zCd ((↑i:Int)<(↑l.length:Int)) (fun k0=>(zAk<|zAf<|zAi 1<|zAd 2<|zAa<|zAd 3<|S_a [(2,.v (PV.agg [I (l.getD i default).fst,I (l.getD i default).snd]))] (ap (zBv default (by omega):(List.map prV l)[i]? = some (PV.agg [I (l.getD i default).fst,I (l.getD i default).snd])) an)<|zAc 1<|S_a [(7,.ret (PV.bool !zGJ n.h (l.getD i default)) [])] (ap (f221_1 n (by omega) (l.getD i default)) an)<|zAa<|zDt (!zGJ n.h (l.getD i default)) (fun k1=>(zAd 2<|zAa<|zAm<|E_a [] an (I (↑i:Int)) [] ?_ rfl)) (fun k1=>(zAk<|zAe<|S_a [(1,.v (I (↑(i+1):Int)))] (ap (wrN i) an)<|zAc 1<|zAa ?_)))) (fun k0=>(zAA 0<|zAd 1<|zAa<|zAm<|E_a [] an (I (-1)) [] ?_ rfl))
 ·rw [zB0 (i:=i) (by omega) (fun j hj=>by rw [← zAt (d:=default)];exact ha j hj) (by rw [← zAt (d:=default)];first | assumption | exact decide_eq_true ‹_› | (simp only [Bool.not_eq_true',decide_eq_false_iff_not];assumption))]
 ·refine ⟨i+1,⟨by omega,fun j hj=>?_⟩,by omega,by kernel_rfl,by kernel_rfl⟩
  rcases Nat.lt_succ_iff_lt_or_eq.1 hj with h | rfl
  ·exact ha j h
  ·first | assumption | exact decide_eq_false ‹_› | (simp only [Bool.not_eq_false',decide_eq_true_eq];first | assumption | (apply Decidable.of_not_not;assumption))
 ·rw [zCl fun j hj=>by rw [← zAt (d:=default)];exact ha j (by omega)]
theorem f156_1 (n:Nw) (hb:1≤n.h∧n.h≤10) (l:List (Int×Int)) (hl:l.length<4294967296):FG 156 [.sl (l.map prV),.func 221 [] [.ref (.func 196 [] [.ref (nwV n)])]] (.bool (l.any (fun x => !(zGJ n.h x)))):=by
 refine zAg Tryz.f156 ?_
 refine zAd 1<|zAa<|zAd 2<|S_a [(7,.ret (I (zEO (fun x => !zGJ n.h x) l)) [])] (ap (f202_1 n (by omega) l (by omega)) an)<|zAc 2<|zAa<|zAm<|E_a [] an (PV.bool (decide (zEO (fun x => !zGJ n.h x) l≥0))) [] ?_ rfl
 rw [zEf]
theorem f195_1 (n:Nw) (hb:1≤n.h∧n.h≤10) (l:List (Int×Int)) (hl:l.length<4294967296):FG 195 [.sl (l.map prV),.func 196 [] [.ref (nwV n)]] (.bool (l.all (fun x=>zGJ n.h x))):=by
 refine zAg Tryz.f195 ?_
 refine zAd 2<|zAa<|zAd 2<|S_a [(12,.ret (PV.bool (l.any fun x => !zGJ n.h x)) [])] (ap (f156_1 n (by omega) l (by omega)) an)<|zAc 2<|zAa<|zAm<|E_a [] an (PV.bool !l.any fun x => !zGJ n.h x) [] ?_ rfl
 simp [List.not_any_eq_all_not]
theorem f221_2  (x:Int×Int):FG 221 [prV x,.ref (.func 197 [] [])] (.bool (!(zHI x))):=by
 refine zAg Tryz.f221 ?_
 refine zAd 2<|zAa<|zAd 2<|S_a [(6,.ret (PV.bool (zHI x)) [])] (ap (f197 x) an)<|zAc 2<|zAa<|zAm<|E_a [] an (PV.bool !zHI x) [] rfl rfl
theorem f202_2  (l:List (Int×Int)) (hl:l.length<4294967296):FG 202 [.sl (l.map prV),.func 221 [] [.ref (.func 197 [] [])]] (I (zEO (fun x => !(zHI x)) l)):=by
 refine zAg Tryz.f202 ?_
 refine zAd 1<|zAa<|zAf<|zAd 1<|S_a [(0,.n l.length)] (ap (lnS prV l) an)<|zAc 1<|zAa<|zAi 0 ?_
 refine zAq (fun i=>i≤l.length∧∀ j,j<i→(fun x => !(zHI x)) (l.getD j default)=false) (fun i=>[(8,I (i:Nat))]) (fun i=>l.length-i) (0:Nat) (by simp) fun i ⟨hi,ha⟩=>?_
 refine zAd 1<|zAa<|zAf<|zCd ((↑i:Int)<(↑l.length:Int)) (fun k0=>(zAk<|zAf<|zAi 1<|zAd 2<|zAa<|zAd 3<|S_a [(2,.v (PV.agg [I (l.getD i default).fst,I (l.getD i default).snd]))] (ap (zBv default (by omega):(List.map prV l)[i]? = some (PV.agg [I (l.getD i default).fst,I (l.getD i default).snd])) an)<|zAc 1<|S_a [(7,.ret (PV.bool !zHI (l.getD i default)) [])] (ap (f221_2 (l.getD i default)) an)<|zAa<|zDt (!zHI (l.getD i default)) (fun k1=>(zAd 2<|zAa<|zAm<|E_a [] an (I (↑i:Int)) [] ?_ rfl)) (fun k1=>(zAk<|zAe<|S_a [(1,.v (I (↑(i+1):Int)))] (ap (wrN i) an)<|zAc 1<|zAa ?_)))) (fun k0=>(zAA 0<|zAd 1<|zAa<|zAm<|E_a [] an (I (-1)) [] ?_ rfl))
 ·rw [zB0 (i:=i) (by omega) (fun j hj=>by rw [← zAt (d:=default)];exact ha j hj) (by rw [← zAt (d:=default)];first | assumption | exact decide_eq_true ‹_› | (simp only [Bool.not_eq_true',decide_eq_false_iff_not];assumption))]
 ·refine ⟨i+1,⟨by omega,fun j hj=>?_⟩,by omega,by kernel_rfl,by kernel_rfl⟩
  rcases Nat.lt_succ_iff_lt_or_eq.1 hj with h | rfl
  ·exact ha j h
  ·first | assumption | exact decide_eq_false ‹_› | (simp only [Bool.not_eq_false',decide_eq_true_eq];first | assumption | (apply Decidable.of_not_not;assumption))
 ·rw [zCl fun j hj=>by rw [← zAt (d:=default)];exact ha j (by omega)]
theorem f156_2  (l:List (Int×Int)) (hl:l.length<4294967296):FG 156 [.sl (l.map prV),.func 221 [] [.ref (.func 197 [] [])]] (.bool (l.any (fun x => !(zHI x)))):=by
 refine zAg Tryz.f156 ?_
 refine zAd 1<|zAa<|zAd 2<|S_a [(7,.ret (I (zEO (fun x => !zHI x) l)) [])] (ap (f202_2 l (by omega)) an)<|zAc 2<|zAa<|zAm<|E_a [] an (PV.bool (decide (zEO (fun x => !zHI x) l≥0))) [] ?_ rfl
 rw [zEf]
theorem f195_2  (l:List (Int×Int)) (hl:l.length<4294967296):FG 195 [.sl (l.map prV),.func 197 [] []] (.bool (l.all (fun x=>zHI x))):=by
 refine zAg Tryz.f195 ?_
 refine zAd 2<|zAa<|zAd 2<|S_a [(12,.ret (PV.bool (l.any fun x => !zHI x)) [])] (ap (f156_2 l (by omega)) an)<|zAc 2<|zAa<|zAm<|E_a [] an (PV.bool !l.any fun x => !zHI x) [] ?_ rfl
 simp [List.not_any_eq_all_not]
theorem f222_1 (y:Int) (yb:Bool) (l:List (Int×Bool)) (hl:l.length<4294967296):FG 222 [.sl (l.map ntV),.func 199 [] [.ref (.agg [I y,.bool yb])]] (I (zEO (fun x=>decide (x.1=y)) l)):=by
 refine zAg Tryz.f222 ?_
 refine zAd 1<|zAa<|zAf<|zAd 1<|S_a [(0,.n l.length)] (ap (lnS ntV l) an)<|zAc 1<|zAa<|zAi 0 ?_
 refine zAq (fun i=>i≤l.length∧∀ j,j<i→(fun x=>decide (x.1=y)) (l.getD j default)=false) (fun i=>[(8,I (i:Nat))]) (fun i=>l.length-i) (0:Nat) (by simp) fun i ⟨hi,ha⟩=>?_
 refine zAd 1<|zAa<|zAf<|zCd ((↑i:Int)<(↑l.length:Int)) (fun k0=>(zAk<|zAf<|zAi 1<|zAd 2<|zAa<|zAd 3<|S_a [(2,.v (PV.agg [I (l.getD i default).fst,PV.bool (l.getD i default).snd]))] (ap (zBv default (by omega):(List.map ntV l)[i]? = some (PV.agg [I (l.getD i default).fst,PV.bool (l.getD i default).snd])) an)<|zAc 1<|S_a [(7,.ret (PV.bool (decide ((l.getD i default).fst=(y,yb).fst))) [])] (ap (f199 ((y,yb)) (l.getD i default)) an)<|zAa<|zCd ((l.getD i default).fst=(y,yb).fst) (fun k1=>(zAd 2<|zAa<|zAm<|E_a [] an (I (↑i:Int)) [] ?_ rfl)) (fun k1=>(zAk<|zAe<|S_a [(1,.v (I (↑(i+1):Int)))] (ap (wrN i) an)<|zAc 1<|zAa ?_)))) (fun k0=>(zAA 0<|zAd 1<|zAa<|zAm<|E_a [] an (I (-1)) [] ?_ rfl))
 ·rw [zB0 (i:=i) (by omega) (fun j hj=>by rw [← zAt (d:=default)];exact ha j hj) (by rw [← zAt (d:=default)];first | assumption | exact decide_eq_true ‹_› | (simp only [Bool.not_eq_true',decide_eq_false_iff_not];assumption))]
 ·refine ⟨i+1,⟨by omega,fun j hj=>?_⟩,by omega,by kernel_rfl,by kernel_rfl⟩
  rcases Nat.lt_succ_iff_lt_or_eq.1 hj with h | rfl
  ·exact ha j h
  ·first | assumption | exact decide_eq_false ‹_› | (simp only [Bool.not_eq_false',decide_eq_true_eq];first | assumption | (apply Decidable.of_not_not;assumption))
 ·rw [zCl fun j hj=>by rw [← zAt (d:=default)];exact ha j (by omega)]
theorem f198_1 (y:Int) (yb:Bool) (l:List (Int×Bool)) (hl:l.length<4294967296):FG 198 [.sl (l.map ntV),.func 199 [] [.ref (.agg [I y,.bool yb])]] (.bool (l.any (fun x=>decide (x.1=y)))):=by
 refine zAg Tryz.f198 ?_
 refine zAd 1<|zAa<|zAd 2<|S_a [(7,.ret (I (zEO (fun x=>decide (x.fst=y)) l)) [])] (ap (f222_1 y yb l (by omega)) an)<|zAc 2<|zAa<|zAm<|E_a [] an (PV.bool (decide (zEO (fun x=>decide (x.fst=y)) l≥0))) [] ?_ rfl
 rw [zEf]
theorem f150 (n:Nw) (hb:1≤n.h∧n.h≤10) (hl:n.l.length≤15):FG 150 [nwV n] (I (zBt n.h n.l)):=by
 refine zAg Tryz.f150 ?_
 refine zAd 2<|zAa<|zAf<|zAi 0<|zAd 3<|S_a [(13,.ret (PV.bool (n.l.all fun x=>zGJ n.h x)) [])] (ap (f195_1 n (by omega) n.l (by omega)) an)<|zAc 2<|zAa<|zDt (!n.l.all fun x=>zGJ n.h x) (fun k0=>(zAd 1<|zAa<|zAm<|E_a [] an (I 1) [] ?_ rfl)) (fun k0=>(zAd 2<|S_a [(7,.ret (PV.bool (n.l.all fun x=>zHI x)) [])] (ap (f195_2 n.l (by omega)) an)<|zAc 2<|zAa<|zDt (!n.l.all fun x=>zHI x) (fun k1=>(zAd 1<|zAa<|zAm<|E_a [] an (I 8) [] ?_ rfl)) (fun k1=>(zAk<|zAd 2<|zAa<|zAf<|zAd 2<|S_a [(0,.n n.l.length)] (ap (lnS prV n.l) an)<|zAc 1<|zAa<|zAi 1 ?_))))
 ·rw [Bool.not_eq_true'] at k0
  simp [zBt,k0]
 ·rw [Bool.not_eq_false'] at k0
  rw [Bool.not_eq_true'] at k1
  simp [zBt,k0,k1]
 ·refine zAq (fun (i,M)=>i≤n.l.length∧M=(n.l.take i).map pr2∧M.Nodup) (fun (i,M)=>[(3,.omap (M.map zBy)),(21,I (i:Nat))]) (fun (i,_)=>n.l.length-i) ((0:Nat),([]:List (Int×Int))) ⟨Nat.zero_le _,rfl,List.nodup_nil⟩ fun (i,M) ⟨hi,hM,hN⟩=>?_
  by_cases yH:i<n.l.length
  ·have jI:(n.l.take (i+1)).map pr2=M++[pr2 (n.l.getD i default)]:=by rw [zB9 (d:=default) yH,List.map_append,← hM];rfl
   by_cases hin:pr2 (n.l.getD i default)∈M
   ·obtain ⟨j,hj,y6⟩:=zM7 hin
    have jB:zHg (M.map zBy) j=some (.bool true):=by simp [zHg,hj]
    refine zAd 1<|zAa<|zAf<|zAI ((↑i:Int)<(↑n.l.length:Int)) (by omega)<|zAk<|zAf<|zAi 2<|zAf<|zAe<|S_a [(2,.v (PV.agg [I (n.l.getD i default).fst,I (n.l.getD i default).snd]))] (ap (zBv default (by omega):(List.map prV n.l)[i]? = some (PV.agg [I (n.l.getD i default).fst,I (n.l.getD i default).snd])) an)<|zAc 3<|zAa<|zAf<|zAd 2<|S_a [(6,.ret (prV (pr2 (n.l.getD i default))) [])] (ap (f110 (n.l.getD i default)) an)<|S_a [(3,.ix (some j)),(0,.v (PV.bool true))] (ap y6<|ap (jB:zHg (List.map zBy M) j=some (PV.bool true)) an)<|zAa<|zA8<|zAd 1<|zAa<|zAm<|E_a [] an (I 5) [] ?_ rfl
    rw [Bool.not_eq_false'] at k0 k1
    have yX:¬ (n.l.map pr2).Nodup:=fun h=>by
     rw [← List.take_append_drop (i+1) n.l,List.map_append,jI] at h
     have h2:=(List.nodup_append.1 h).1
     have h3:=(List.nodup_append.1 h2).2.2
     exact h3 _ hin _ (List.mem_singleton.2 rfl) rfl
    simp only [zBt,k0,k1,yX,if_true,if_false]
   ·have y6:=zIh hin
    refine zAd 1<|zAa<|zAf<|zAI ((↑i:Int)<(↑n.l.length:Int)) (by omega)<|zAk<|zAf<|zAi 2<|zAf<|zAe<|S_a [(2,.v (PV.agg [I (n.l.getD i default).fst,I (n.l.getD i default).snd]))] (ap (zBv default (by omega):(List.map prV n.l)[i]? = some (PV.agg [I (n.l.getD i default).fst,I (n.l.getD i default).snd])) an)<|zAc 3<|zAa<|zAf<|zAd 2<|S_a [(6,.ret (prV (pr2 (n.l.getD i default))) [])] (ap (f110 (n.l.getD i default)) an)<|S_a [(3,.ix none)] (ap y6 an)<|zAa<|zAw<|zAk<|zAe<|zAc 2<|S_a [(6,.ret (prV (pr2 (n.l.getD i default))) [])] (ap (f110 (n.l.getD i default)) an)<|S_a [(4,.ix none),(0,.v (PV.omap (List.map zBy (M++[pr2 (n.l.getD i default)]))))] (ap y6<|ap ((by simp):PV.omap (List.map zBy M++[(PV.agg [I (pr2 (n.l.getD i default)).fst,I (pr2 (n.l.getD i default)).snd],PV.bool true)])=PV.omap (List.map zBy (M++[pr2 (n.l.getD i default)]))) an)<|zAa<|zAe<|S_a [(1,.v (I (↑(i+1):Int)))] (ap (wrN i) an)<|zAc 1<|zAa ?_
    refine ⟨(i+1,M++[pr2 (n.l.getD i default)]),⟨by omega,jI.symm,?_⟩,by simp only;omega,by kernel_rfl,by kernel_rfl⟩
    rw [List.nodup_append]
    refine ⟨hN,by simp,fun a ha b hb=>?_⟩
    rw [List.mem_singleton] at hb;subst hb
    intro e;subst e;exact hin ha
  ·refine zAd 1<|zAa<|zAf<|zAQ ((↑i:Int)<(↑n.l.length:Int)) (by omega)<|zAA 1<|zAd 1<|zAa<|zAm<|E_a [] an (I 0) [] ?_ rfl
   rw [Bool.not_eq_false'] at k0 k1
   rw [List.take_of_length_le (by omega)] at hM
   rw [hM] at hN
   simp only [zBt,k0,k1,hN,if_true]
theorem f151 (n:Nw) (hl:n.n.length≤8):FG 151 [nwV n] (I (zCC n.n)):=by
 refine zAg Tryz.f151 ?_
 refine zAd 2<|zAa<|zAf<|zAd 2<|S_a [(0,.n n.n.length)] (ap (lnS ntV n.n) an)<|zAc 1<|zAa<|zAi 0 ?_
 refine zAq (fun i=>i≤n.n.length∧∀ j,j<i→inB (n.n.getD j default).1 (-1) ((j:Int)-1)=true) (fun i=>[(10,I (i:Nat))]) (fun i=>n.n.length-i) (0:Nat) ⟨Nat.zero_le _,fun j h=>absurd h (Nat.not_lt_zero _)⟩ fun i ⟨hi,ha⟩=>?_
 refine zAd 1<|zAa<|zAf<|zCd ((↑i:Int)<(↑n.n.length:Int)) (fun k0=>(zAk<|zAf<|zAi 1<|zAd 1<|S_a [(2,.v (PV.agg [I (n.n.getD i default).fst,PV.bool (n.n.getD i default).snd]))] (ap (zBv default (by omega):(List.map ntV n.n)[i]? = some (PV.agg [I (n.n.getD i default).fst,PV.bool (n.n.getD i default).snd])) an)<|zAc 4<|zAa<|zAd 3<|S_a [(1,.v (I ((↑i:Int)-1)))] (ap ((zCj rfl (by omega)):I (IntKind.i64.wrap ((↑i:Int)-1))=I ((↑i:Int)-1)) an)<|S_a [(10,.ret (PV.bool (inB (n.n.getD i default).fst (-1) ((↑i:Int)-1))) [])] (ap (f107 ((n.n.getD i default).fst) (-1) ((↑i:Int)-1)) an)<|zAc 1<|zAa<|zDt (!inB (n.n.getD i default).fst (-1) ((↑i:Int)-1)) (fun k1=>(zAd 1<|zAa<|zAm<|E_a [] an (I 1) [] ?_ rfl)) (fun k1=>(zAk<|zAe<|S_a [(1,.v (I (↑(i+1):Int)))] (ap (wrN i) an)<|zAc 1<|zAa ?_)))) (fun k0=>(zAA 0<|zAf<|zAd 2<|S_a [(0,.n n.n.length)] (ap (lnS ntV n.n) an)<|zAc 1<|zAa<|zAi 2 ?_))
 ·rw [Bool.not_eq_true'] at k1
  have:zNU n.n=false:=by
   simp only [zNU,List.all_eq_false]
   exact ⟨i,List.mem_range.2 (by omega),by simpa using k1⟩
  simp [zCC,this]
 ·rw [Bool.not_eq_false'] at k1
  refine ⟨i+1,⟨by omega,fun j hj=>?_⟩,by omega,by kernel_rfl,by kernel_rfl⟩
  rcases Nat.lt_succ_iff_lt_or_eq.1 hj with h | rfl
  ·exact ha j h
  ·exact k1
 ·have hin:zNU n.n=true:=by
   simp only [zNU,List.all_eq_true,List.mem_range]
   exact fun j hj=>ha j (by omega)
  clear ha
  refine zAq (fun i=>i≤n.n.length∧∀ j,j<i→zLA n.n j=false) (fun i=>[(25,I (i:Nat))]) (fun i=>n.n.length-i) (0:Nat) ⟨Nat.zero_le _,fun j h=>absurd h (Nat.not_lt_zero _)⟩ fun k ⟨hk,hb⟩=>?_
  have jI:zLA n.n k=false→∀ j,j<k+1→zLA n.n j=false:=fun h j hj=>by
   rcases Nat.lt_succ_iff_lt_or_eq.1 hj with h2 | rfl
   ·exact hb j h2
   ·exact h
  refine zAd 1<|zAa<|zAf<|zCd ((↑k:Int)<(↑n.n.length:Int)) (fun k2=>(zAk<|zAf<|zAi 3<|zAd 1<|S_a [(2,.v (PV.agg [I (n.n.getD k default).fst,PV.bool (n.n.getD k default).snd]))] (ap (zBv default (by omega):(List.map ntV n.n)[k]? = some (PV.agg [I (n.n.getD k default).fst,PV.bool (n.n.getD k default).snd])) an)<|zAc 4<|zAa<|zAd 4<|zMB 33 ((n.n.getD k default).fst = -1) (fun k3=>(zAc 3<|S_a [(3,.ob),(0,.ob),(0,.v (PV.sl (List.map ntV (List.take k n.n))))] (ap ((by exact zBz (by simp only [List.length_map,zzLn,zA5]<;>omega)):k.ble (List.map ntV n.n).length=true)<|ap ((by exact all_map _):((List.map ntV n.n).all fun x=>x.cells.length.beq ((fun x=>x.size) Tryz.prog.types[99]))=true)<|ap ((by simp):PV.sl (List.take k (List.drop 0 (List.map ntV n.n)))=PV.sl (List.map ntV (List.take k n.n))) an)<|zAc 1<|S_a [(13,.ret (PV.bool ((List.take k n.n).any fun x=>decide (x.fst=(n.n.getD k default).fst))) [])] (ap (f198_1 ((n.n.getD k default).fst) ((n.n.getD k default).snd) (List.take k n.n) (by first | omega | (simp<;>omega))) an)<|zAc 1<|zAa<|zDt ((List.take k n.n).any fun x=>decide (x.fst=(n.n.getD k default).fst)) (fun k4=>(zAd 1<|zAa<|zAm<|E_a [] an (I 5) [] ?_ rfl)) (fun k4=>(zAk<|zAe<|S_a [(1,.v (I (↑(k+1):Int)))] (ap (wrN k) an)<|zAc 1<|zAa ?_)))) (fun k3=>(zAc 7<|zAa<|zAw<|zAk<|zAe<|S_a [(1,.v (I (↑(k+1):Int)))] (ap (wrN k) an)<|zAc 1<|zAa ?_)))) (fun k2=>(zAA 2<|zAd 1<|zAa<|zAm<|E_a [] an (I 0) [] ?_ rfl))
  ·have h1:zLA n.n k=true:=by
    have k4:((n.n.take k).any fun y=>decide (y.1=(n.n.getD k default).1))=true:=k4
    simp only [zLA,k4,Bool.and_true,decide_eq_true_eq];assumption
   have:(List.range n.n.length).any (zLA n.n)=true:=List.any_eq_true.2 ⟨k,List.mem_range.2 (by omega),h1⟩
   simp only [zCC,hin,this,if_true]
  ·have h1:zLA n.n k=false:=by
    have k4:((n.n.take k).any fun y=>decide (y.1=(n.n.getD k default).1))=false:=k4
    simp only [zLA,k4,Bool.and_false]
   exact ⟨k+1,⟨by omega,jI h1⟩,by omega,by kernel_rfl,by kernel_rfl⟩
  ·have h1:zLA n.n k=false:=by
    simp only [zLA,Bool.and_eq_false_iff,decide_eq_false_iff_not]
    exact .inl (by simpa using k3)
   exact ⟨k+1,⟨by omega,jI h1⟩,by omega,by kernel_rfl,by kernel_rfl⟩
  ·have:(List.range n.n.length).any (zLA n.n)=false:=by
    simp only [List.any_eq_false,List.mem_range,Bool.not_eq_true]
    exact fun j hj=>hb j (by omega)
   simp only [zCC,hin,this,if_true];rfl
theorem f153 (n:Nw) (l:List Int) (hb:1≤n.h∧n.h≤10) (hl:l.length<1000000):FG 153 [zAB l,.ref (nwV n)] (.bool (zIk n.h l)):=by
 refine zAg Tryz.f153 ?_
 refine zAd 1<|zAa<|zAd 3<|S_a [(7,.ret (PV.bool (l.all fun x=>inB x 0 (n.h-1))) [])] (ap (f108_1 n (by omega) l (by omega)) an)<|zAc 1<|zAa<|zAm<|E_a [] an (PV.bool (l.all fun x=>inB x 0 (n.h-1))) [] rfl rfl
theorem f154 (l:List Int) (hl:l.length<1000000):FG 154 [zAB l] (.bool (zDg l)):=by
 refine zAg Tryz.f154 ?_
 refine zAd 1<|zAa<|zAd 1<|S_a [(6,.ret (PV.bool (zFE l)) [])] (ap (f155 l (by omega)) an)<|zAc 1<|zCn 5 (zFE l) (fun k0=>(zAc 1<|S_a [(6,.ret (PV.own 1 (List.map I l)) [])] (ap (f65 l (by omega)) an)<|S_a [(3,.ob),(1,.v (PV.own 1 (List.map I l))),(2,.ret (PV.own 1 (List.map I (zGK l))) [])] (ap ((by exact zBz (by simp only [List.length_map,zzLn,zA5]<;>omega)):(List.map I l).length.ble (List.map I l).length=true)<|ap ((zA3 zAW):PV.own 1 (List.take (List.map I l).length (List.drop 0 (List.map I l)))=PV.own 1 (List.map I l))<|ap (f97 l (by omega)) an)<|S_a [(0,.n ((zGK l).length))] (ap (lnS I (zGK l)) an)<|zAc 1<|S_a [(0,.n l.length)] (ap (lnS I l) an)<|zAc 3<|zAa<|zAm<|E_a [] an (PV.bool ((↑(zGK l).length:Int)==(↑l.length:Int))) [] ?_ rfl)) (fun k0=>(zAc 9<|zAa<|zAm<|E_a [] an (PV.bool false) [] ?_ rfl))
 ·simp only [zDg,k0,Bool.true_and];congr 1;rw [Bool.eq_iff_iff];simp;omega
 ·simp only [zDg,k0,Bool.false_and]
theorem f201_1 (n:Nw) (hb:1≤n.h∧n.h≤10) (x:List Int) (hx:x.length<1000000):FG 201 [zAB x,.ref (.func 153 [] [.ref (nwV n)])] (.bool (!(zIk n.h x))):=by
 refine zAg Tryz.f201 ?_
 refine zAd 1<|zAa<|zAd 2<|S_a [(7,.ret (PV.bool (zIk n.h x)) [])] (ap (f153 n x (by omega) (by omega)) an)<|zAc 2<|zAa<|zAm<|E_a [] an (PV.bool !zIk n.h x) [] rfl rfl
theorem f223_1 (n:Nw) (hb:1≤n.h∧n.h≤10) (l:List (List Int)) (hl:l.length<4294967296) (hr:∀ x∈l,x.length<1000000):FG 223 [.sl (l.map zAB),.func 201 [] [.ref (.func 153 [] [.ref (nwV n)])]] (I (zEO (fun x => !(zIk n.h x)) l)):=by
 refine zAg Tryz.f223 ?_
 refine zAd 1<|zAa<|zAf<|zAd 1<|S_a [(0,.n l.length)] (ap (lnS zAB l) an)<|zAc 1<|zAa<|zAi 0 ?_
 refine zAq (fun i=>i≤l.length∧∀ j,j<i→(fun x => !(zIk n.h x)) (l.getD j [])=false) (fun i=>[(8,I (i:Nat))]) (fun i=>l.length-i) (0:Nat) (by simp) fun i ⟨hi,ha⟩=>?_
 by_cases yH:i<l.length
 ·have gy:=zBB (d:=[]) hr i yH
  refine zAd 1<|zAa<|zAf<|zAI ((↑i:Int)<(↑l.length:Int)) (by omega)<|zAk<|zAf<|zAi 1<|zAd 2<|zAa<|zAd 3<|S_a [(2,.v (zAB (l.getD i [])))] (ap (zBv [] (by omega):(List.map zAB l)[i]? = some (zAB (l.getD i []))) an)<|zAc 1<|S_a [(7,.ret (PV.bool !zIk n.h (l.getD i [])) [])] (ap (f201_1 n (by omega) (l.getD i []) (by omega)) an)<|zAa<|zDt (!zIk n.h (l.getD i [])) (fun k0=>(zAd 2<|zAa<|zAm<|E_a [] an (I (↑i:Int)) [] ?_ rfl)) (fun k0=>(zAk<|zAe<|S_a [(1,.v (I (↑(i+1):Int)))] (ap (wrN i) an)<|zAc 1<|zAa ?_))
  ·rw [zB0 (i:=i) yH (fun j hj=>by rw [← zAt (d:=[])];exact ha j hj) (by rw [← zAt (d:=[])];first | assumption | exact decide_eq_true ‹_›)]
  ·refine ⟨i+1,⟨by omega,fun j hj=>?_⟩,by omega,by kernel_rfl,by kernel_rfl⟩
   rcases Nat.lt_succ_iff_lt_or_eq.1 hj with h | rfl
   ·exact ha j h
   ·first | assumption | exact decide_eq_false ‹_› | (simp only [Bool.not_eq_false',decide_eq_true_eq];assumption)
 ·refine zAd 1<|zAa<|zAf<|zAQ ((↑i:Int)<(↑l.length:Int)) (by omega)<|zAA 0<|zAd 1<|zAa<|zAm<|E_a [] an (I (-1)) [] ?_ rfl
  rw [zCl fun j hj=>by rw [← zAt (d:=[])];exact ha j (by omega)]
theorem f200_1 (n:Nw) (hb:1≤n.h∧n.h≤10) (l:List (List Int)) (hl:l.length<4294967296) (hr:∀ x∈l,x.length<1000000):FG 200 [.sl (l.map zAB),.func 201 [] [.ref (.func 153 [] [.ref (nwV n)])]] (.bool (l.any (fun x => !(zIk n.h x)))):=by
 refine zAg Tryz.f200 ?_
 refine zAd 1<|zAa<|zAd 2<|S_a [(7,.ret (I (zEO (fun x => !zIk n.h x) l)) [])] (ap (f223_1 n (by omega) l (by omega) (by omega)) an)<|zAc 2<|zAa<|zAm<|E_a [] an (PV.bool (decide (zEO (fun x => !zIk n.h x) l≥0))) [] ?_ rfl
 rw [zEf]
theorem f152_1 (n:Nw) (hb:1≤n.h∧n.h≤10) (l:List (List Int)) (hl:l.length<4294967296) (hr:∀ x∈l,x.length<1000000):FG 152 [.sl (l.map zAB),.func 153 [] [.ref (nwV n)]] (.bool (l.all (fun x=>zIk n.h x))):=by
 refine zAg Tryz.f152 ?_
 refine zAd 2<|zAa<|zAd 2<|S_a [(12,.ret (PV.bool (l.any fun x => !zIk n.h x)) [])] (ap (f200_1 n (by omega) l (by omega) (by omega)) an)<|zAc 2<|zAa<|zAm<|E_a [] an (PV.bool !l.any fun x => !zIk n.h x) [] ?_ rfl
 simp [List.not_any_eq_all_not]
theorem f201_2  (x:List Int) (hx:x.length<1000000):FG 201 [zAB x,.ref (.func 154 [] [])] (.bool (!(zDg x))):=by
 refine zAg Tryz.f201 ?_
 refine zAd 1<|zAa<|zAd 2<|S_a [(6,.ret (PV.bool (zDg x)) [])] (ap (f154 x (by omega)) an)<|zAc 2<|zAa<|zAm<|E_a [] an (PV.bool !zDg x) [] rfl rfl
theorem f223_2  (l:List (List Int)) (hl:l.length<4294967296) (hr:∀ x∈l,x.length<1000000):FG 223 [.sl (l.map zAB),.func 201 [] [.ref (.func 154 [] [])]] (I (zEO (fun x => !(zDg x)) l)):=by
 refine zAg Tryz.f223 ?_
 refine zAd 1<|zAa<|zAf<|zAd 1<|S_a [(0,.n l.length)] (ap (lnS zAB l) an)<|zAc 1<|zAa<|zAi 0 ?_
 refine zAq (fun i=>i≤l.length∧∀ j,j<i→(fun x => !(zDg x)) (l.getD j [])=false) (fun i=>[(8,I (i:Nat))]) (fun i=>l.length-i) (0:Nat) (by simp) fun i ⟨hi,ha⟩=>?_
 by_cases yH:i<l.length
 ·have gy:=zBB (d:=[]) hr i yH
  refine zAd 1<|zAa<|zAf<|zAI ((↑i:Int)<(↑l.length:Int)) (by omega)<|zAk<|zAf<|zAi 1<|zAd 2<|zAa<|zAd 3<|S_a [(2,.v (zAB (l.getD i [])))] (ap (zBv [] (by omega):(List.map zAB l)[i]? = some (zAB (l.getD i []))) an)<|zAc 1<|S_a [(7,.ret (PV.bool !zDg (l.getD i [])) [])] (ap (f201_2 (l.getD i []) (by omega)) an)<|zAa<|zDt (!zDg (l.getD i [])) (fun k0=>(zAd 2<|zAa<|zAm<|E_a [] an (I (↑i:Int)) [] ?_ rfl)) (fun k0=>(zAk<|zAe<|S_a [(1,.v (I (↑(i+1):Int)))] (ap (wrN i) an)<|zAc 1<|zAa ?_))
  ·rw [zB0 (i:=i) yH (fun j hj=>by rw [← zAt (d:=[])];exact ha j hj) (by rw [← zAt (d:=[])];first | assumption | exact decide_eq_true ‹_›)]
  ·refine ⟨i+1,⟨by omega,fun j hj=>?_⟩,by omega,by kernel_rfl,by kernel_rfl⟩
   rcases Nat.lt_succ_iff_lt_or_eq.1 hj with h | rfl
   ·exact ha j h
   ·first | assumption | exact decide_eq_false ‹_› | (simp only [Bool.not_eq_false',decide_eq_true_eq];assumption)
 ·refine zAd 1<|zAa<|zAf<|zAQ ((↑i:Int)<(↑l.length:Int)) (by omega)<|zAA 0<|zAd 1<|zAa<|zAm<|E_a [] an (I (-1)) [] ?_ rfl
  rw [zCl fun j hj=>by rw [← zAt (d:=[])];exact ha j (by omega)]
theorem f200_2  (l:List (List Int)) (hl:l.length<4294967296) (hr:∀ x∈l,x.length<1000000):FG 200 [.sl (l.map zAB),.func 201 [] [.ref (.func 154 [] [])]] (.bool (l.any (fun x => !(zDg x)))):=by
 refine zAg Tryz.f200 ?_
 refine zAd 1<|zAa<|zAd 2<|S_a [(7,.ret (I (zEO (fun x => !zDg x) l)) [])] (ap (f223_2 l (by omega) (by omega)) an)<|zAc 2<|zAa<|zAm<|E_a [] an (PV.bool (decide (zEO (fun x => !zDg x) l≥0))) [] ?_ rfl
 rw [zEf]
theorem f152_2  (l:List (List Int)) (hl:l.length<4294967296) (hr:∀ x∈l,x.length<1000000):FG 152 [.sl (l.map zAB),.func 154 [] []] (.bool (l.all (fun x=>zDg x))):=by
 refine zAg Tryz.f152 ?_
 refine zAd 2<|zAa<|zAd 2<|S_a [(12,.ret (PV.bool (l.any fun x => !zDg x)) [])] (ap (f200_2 l (by omega) (by omega)) an)<|zAc 2<|zAa<|zAm<|E_a [] an (PV.bool !l.any fun x => !zDg x) [] ?_ rfl
 simp [List.not_any_eq_all_not]
theorem f76 (n:Nw) (hs:Small n):FG 76 [nwV n] (I (zCW n)):=by
 refine zAg Tryz.f76 ?_
 have h1:=hs.hl
 have h2:=hs.hn
 have h3:=hs.hs
 have h4:=hs.hr
 refine zAd 2<|zAa<|zAf<|zAd 2<|S_a [(10,.ret (PV.bool (inB n.h 1 10)) [])] (ap (f107 n.h (1) (10)) an)<|zAc 2<|zCn 9 (!inB n.h 1 10) (fun k0=>(zAc 19<|zAa<|zA8<|zAd 1<|zAa<|zAm<|E_a [] an (I 2) [] ?_ rfl)) (fun k0=>(zAc 2<|S_a [(0,.n n.l.length)] (ap (lnS prV n.l) an)<|zAc 3<|zD5 15 ((↑n.l.length:Int)>15) (fun k1=>(zAc 13<|zAa<|zA8<|zAd 1<|zAa<|zAm<|E_a [] an (I 2) [] ?_ rfl)) (fun k1=>(zAc 2<|S_a [(0,.n n.n.length)] (ap (lnS ntV n.n) an)<|S_a [(10,.ret (PV.bool (inB (↑n.n.length:Int) 1 8)) [])] (ap (f107 ((↑n.n.length:Int)) (1) (8)) an)<|zAc 3<|zCn 22 (!inB (↑n.n.length:Int) 1 8) (fun k2=>(zAc 6<|zAa<|zA8<|zAd 1<|zAa<|zAm<|E_a [] an (I 2) [] ?_ rfl)) (fun k2=>(zAc 2<|S_a [(0,.n n.s.length)] (ap (lnS zAB n.s) an)<|S_a [(10,.ret (PV.bool (inB (↑n.s.length:Int) 1 6)) [])] (ap (f107 ((↑n.s.length:Int)) (1) (6)) an)<|zAc 2<|zAa<|zDt (!inB (↑n.s.length:Int) 1 6) (fun k3=>(zAd 1<|zAa<|zAm<|E_a [] an (I 2) [] ?_ rfl)) (fun k3=>(zAk<|zAf<|zAd 1<|S_a [(6,.ret (I (zBt n.h n.l)) [])] (ap (f150 n ?_ (by first | omega | (simp<;>omega))) an)<|zAc 1<|zAa<|zAd 2<|zAa<|zDc (zBt n.h n.l=0) (fun k4=>(zAd 2<|zAa<|zAm<|E_a [] an (I (zBt n.h n.l)) [] ?_ rfl)) (fun k4=>(zAk<|zAf<|zAd 1<|S_a [(6,.ret (I (zCC n.n)) [])] (ap (f151 n ?_) an)<|zAc 1<|zAa<|zAd 2<|zAa<|zDc (zCC n.n=0) (fun k5=>(zAd 2<|zAa<|zAm<|E_a [] an (I (zCC n.n)) [] ?_ rfl)) (fun k5=>(zAk<|zAf<|zAi 0<|zAd 3<|S_a [(13,.ret (PV.bool (n.s.all fun x=>zIk n.h x)) [])] (ap (f152_1 n ?_ n.s (by omega) (by omega)) an)<|zAc 2<|zAa<|zDt (!n.s.all fun x=>zIk n.h x) (fun k6=>(zAd 1<|zAa<|zAm<|E_a [] an (I 1) [] ?_ rfl)) (fun k6=>(zAd 2<|S_a [(7,.ret (PV.bool (n.s.all fun x=>zDg x)) [])] (ap (f152_2 n.s (by omega) (by omega)) an)<|zAc 2<|zAa<|zDt (!n.s.all fun x=>zDg x) (fun k7=>(zAd 1<|zAa<|zAm<|E_a [] an (I 4) [] ?_ rfl)) (fun k7=>(zAk<|zAd 1<|zAa<|zAm<|E_a [] an (I 0) [] ?_ rfl))))))))))))))))
 all_goals first | exact zWX k0 | (have:=zWX k2;omega) | (simp [zCW, *];done)
end
end Go.Eng
set_option maxRecDepth 10000
set_option maxHeartbeats 4000000
namespace Go.Eng
open Go Go.Proofs
theorem zQJ {l:List Int}:∀ k,k≤l.length→(zGK (l.take k)).length≤k∧((∃ j,1≤j∧j<k∧l.getD j 0=l.getD (j-1) 0)→(zGK (l.take k)).length<k)
 | 0,_=>⟨by simp [zGK],fun ⟨j,h1,h2,_⟩=>by omega⟩
 | k + 1,hk=>by
  obtain ⟨h1,h2⟩:=zQJ (l:=l) k (by omega)
  cases k with
  | zero =>
   rw [zHe (show 0<l.length by omega)]
   exact ⟨by simp [zGK,zUU],fun ⟨j,h1,h2,_⟩=>by omega⟩
  | succ k =>
   rw [zGL (by omega) (by omega)]
   split
   ·exact ⟨by omega,fun _=>by omega⟩
   ·rename_i hI
    refine ⟨by rw [List.length_append];simp;omega,fun ⟨j,g1,g2,g3⟩=>?_⟩
    have hj:j<k+1:=by
     by_cases h:j=k+1
     ·subst h;exact absurd g3 hI
     ·omega
    have:=h2 ⟨j,g1,hj,g3⟩
    rw [List.length_append];simp;omega
theorem zRA {l:List Int} (h:zFE l=true) (j:Nat) (hj:j+1<l.length):l.getD j 0≤l.getD (j+1) 0:=by
 simp only [zFE,List.all_eq_true,List.mem_range,decide_eq_true_eq] at h
 exact h j (by omega)
theorem zHC {l:List Int}:zDg l=zTC l:=by
 rw [Bool.eq_iff_iff]
 constructor
 ·intro h
  simp only [zDg,Bool.and_eq_true,decide_eq_true_eq] at h
  simp only [zTC,List.all_eq_true,List.mem_range,decide_eq_true_eq]
  intro j hj
  have h1:=zRA h.1 j (by omega)
  have h2:=(zQJ (l:=l) l.length (Nat.le_refl _)).2
  rw [List.take_length] at h2
  by_cases he:l.getD (j+1) 0=l.getD j 0
  ·have:=h2 ⟨j+1,by omega,by omega,by simpa using he⟩
   omega
  ·omega
 ·intro h
  simp only [zTC,List.all_eq_true,List.mem_range,decide_eq_true_eq] at h
  simp only [zDg,zFE,Bool.and_eq_true,decide_eq_true_eq,List.all_eq_true,List.mem_range]
  refine ⟨fun j hj=>by have:=h j hj;omega,?_⟩
  have:=zGQ (l:=l) l.length (Nat.le_refl _) fun j h1 h2=>by
   have:=h (j-1) (by omega)
   rw [show j-1+1=j by omega] at this
   omega
  rw [List.take_length] at this
  rw [this]
structure NwOk (n:Nw):Prop where
 err:zCW n=0
 h:1≤n.h∧n.h≤10
 ll:n.l.length≤15
 nl:1≤n.n.length∧n.n.length≤8
 sl:1≤n.s.length∧n.s.length≤6
 lr:∀ x∈n.l,(0≤x.1∧x.1<n.h)∧(0≤x.2∧x.2<n.h)
 lne:∀ x∈n.l,x.1≠x.2
 ld:(n.l.map pr2).Nodup
 na:∀ i,i<n.n.length→-1≤(n.n.getD i default).1∧(n.n.getD i default).1<i
 nd:∀ i k,k<i→i<n.n.length→(n.n.getD i default).1≠-1→(n.n.getD k default).1≠(n.n.getD i default).1
 sr:∀ l∈n.s,∀ x∈l,0≤x∧x<n.h
 ss:∀ l∈n.s,zTC l=true
theorem zQn {l:List Int} (h:zTC l=true):∀ i j,i<j→j<l.length→l.getD i 0<l.getD j 0:=by
 simp only [zTC,List.all_eq_true,List.mem_range,decide_eq_true_eq] at h
 intro i j ql hj
 induction j with
 | zero=>omega
 | succ j ih =>
  have h1:=h j (by omega)
  by_cases he:i=j
  ·subst he;exact h1
  ·have:=ih (by omega) (by omega);omega
theorem zTj {l:List Int} (h:zTC l=true) {B:Int} (hb:∀ x∈l,0≤x∧x<B):(l.length:Int)≤B∨l.length=0:=by
 by_cases h0:l.length=0
 ·exact .inr h0
 ·left
  have key:∀ j,j<l.length→(j:Int)≤l.getD j 0:=by
   intro j
   induction j with
   | zero=>intro hj;exact (zBB hb 0 hj).1
   | succ j ih =>
    intro hj
    have h1:=ih (by omega)
    have h2:=zQn h j (j+1) (by omega) hj
    omega
  have h1:=key (l.length-1) (by omega)
  have h2:=(zBB (d:=(0:Int)) hb (l.length-1) (by omega)).2
  omega
theorem NwOk.rows {n:Nw} (ho:NwOk n):∀ l∈n.s,l.length≤10:=fun l hl=>by
 have h1:=zTj (ho.ss l hl) (ho.sr l hl)
 have:=ho.h
 omega
theorem NwOk.small {n:Nw} (ho:NwOk n):Small n:=⟨by have:=ho.ll;omega,by have:=ho.nl;omega,by have:=ho.sl;omega,fun l hl=>by have:=ho.rows l hl;omega⟩
theorem zCL {n lo hi:Int} (h:inB n lo hi=true):lo≤n∧n≤hi:=by simpa [inB] using h
theorem zPb {h:Int} {l:List (Int×Int)} (he:zBt h l=0):(l.all fun x=>zGJ h x)=true∧(l.all fun x=>zHI x)=true∧(l.map pr2).Nodup:=by
 unfold zBt at he
 split at he
 ·split at he
  ·split at he
   ·exact ⟨by assumption,by assumption,by assumption⟩
   ·cases he
  ·cases he
 ·cases he
theorem zP8 {l:List (Int×Bool)} (he:zCC l=0):zNU l=true∧(List.range l.length).any (zLA l)=false:=by
 unfold zCC at he
 split at he
 ·split at he
  ·cases he
  ·rename_i h1 h2;exact ⟨h1,by rw [Bool.not_eq_true] at h2;exact h2⟩
 ·cases he
theorem zSQ {n:Nw} (he:zCW n=0):NwOk n:=by
 have he0:=he
 unfold zCW at he
 split at he
 ·cases he
 split at he
 ·cases he
 split at he
 ·cases he
 split at he
 ·cases he
 rename_i c1 c2 c3 c4
 split at he
 case isFalse h=>exact absurd he h
 rename_i c5
 split at he
 case isFalse h=>exact absurd he h
 rename_i c6
 split at he
 ·cases he
 split at he
 ·cases he
 rename_i c7 c8
 simp only [Bool.not_eq_true,Bool.not_eq_false'] at c1 c3 c4 c7 c8
 obtain ⟨d1,d2,d3⟩:=zPb c5
 obtain ⟨e1,e2⟩:=zP8 c6
 rw [List.all_eq_true] at c7 c8 d1 d2
 simp only [zNU,List.all_eq_true,List.mem_range] at e1
 simp only [List.any_eq_false,List.mem_range] at e2
 have a3:=zCL c3
 have a4:=zCL c4
 refine ⟨he0,zCL c1,by omega,by omega,by omega,fun x hx=>?_,fun x hx=>by have:=d2 x hx;simpa [zHI] using this,d3,fun i hi=>?_,fun i k hk hi hI hx=>?_,fun l hl x hx=>?_,fun l hl=>by rw [← zHC];exact c8 l hl⟩
 ·have:=d1 x hx
  simp only [zGJ,Bool.and_eq_true] at this
  have b1:=zCL this.1
  have b2:=zCL this.2
  omega
 ·have:=zCL (e1 i hi);omega
 ·refine e2 i hi ?_
  simp only [zLA,Bool.and_eq_true,decide_eq_true_eq,List.any_eq_true]
  refine ⟨hI,n.n.getD k default,?_,hx⟩
  rw [zAt (by omega)]
  exact List.mem_take_iff_getElem.2 ⟨k,by omega,rfl⟩
 ·have:=c7 l hl
  simp only [zIk,List.all_eq_true] at this
  have:=zCL (this x hx);omega
def zL7 (F:List Int) (i:Nat) (a:Int):List Int:=if a = -1 then F.set i i else (F.set i i).set i ((F.set i i).getD a.toNat 0)
def zN6 (l:List (Int×Bool)):Nat→List Int
 | 0=>List.replicate 8 0
 | i+1=>zL7 (zN6 l i) i (l.getD i default).1
def zP1 (F:List Int) (L:List Int) (i k:Nat):List Int:=if F.getD k 0=F.getD i 0 then L.set i (max (L.getD i 0) k) else L
def zVB (F:List Int) (i:Nat) (L:List Int) (k:Nat):List Int:=(List.range k).foldl (fun L k=>zP1 F L i k) L
def zTR (F:List Int) (m i:Nat):List Int:=(List.range i).foldl (fun L i=>zVB F i L m) (List.replicate 8 0)
theorem zQU {F:List Int} {i:Nat} {a:Int}:(zL7 F i a).length=F.length:=by unfold zL7;split<;>simp
theorem zGX {l:List (Int×Bool)}:∀ i,(zN6 l i).length=8
 | 0=>by simp [zN6]
 | i+1=>by rw [zN6,zQU];exact zGX i
theorem zQg {F L:List Int} {i k:Nat}:(zP1 F L i k).length=L.length:=by unfold zP1;split<;>simp
theorem zL6 {F L:List Int} {i k:Nat}:zVB F i L (k+1)=zP1 F (zVB F i L k) i k:=by
 simp only [zVB,List.range_succ,List.foldl_append,List.foldl_cons,List.foldl_nil]
theorem zK2 {F L:List Int} {i:Nat}:∀ k,(zVB F i L k).length=L.length
 | 0=>rfl
 | k+1=>by rw [zL6,zQg];exact zK2 k
theorem zMV {F:List Int} {m i:Nat}:zTR F m (i+1)=zVB F i (zTR F m i) m:=by
 simp only [zTR,List.range_succ,List.foldl_append,List.foldl_cons,List.foldl_nil]
theorem zOC {F:List Int} {m:Nat}:∀ i,(zTR F m i).length=8
 | 0=>by simp [zTR]
 | i+1=>by rw [zMV,zK2];exact zOC i
def zAj (n:Nw):List Int:=zN6 n.n n.n.length
def zBb (n:Nw):List Int:=zTR (zAj n) n.n.length n.n.length
abbrev zCv (n:Nw) (cs ms:PV) (F L:List Int):PV := .agg [I n.h,.sl (n.l.map prV),.sl (n.n.map ntV),.sl (n.s.map zAB),cs,ms,I (F.getD 0 0),I (F.getD 1 0),I (F.getD 2 0),I (F.getD 3 0),I (F.getD 4 0),I (F.getD 5 0),I (F.getD 6 0),I (F.getD 7 0),I (L.getD 0 0),I (L.getD 1 0),I (L.getD 2 0),I (L.getD 3 0),I (L.getD 4 0),I (L.getD 5 0),I (L.getD 6 0),I (L.getD 7 0)]
abbrev zUf (M:List (Int×Int)):PV := .omap (M.map zBy)
section
variable [Yo]
theorem f139_2 (n:Nw) (hs:Small n) (he:¬ zCW n=0):FG 139 [nwV n] (.tup [.nilp,I (zCW n)]):=by
 refine zAg Tryz.f139 ?_
 refine zAd 3<|zAa<|zAf<|zAd 1<|S_a [(6,.ret (I (zCW n)) [])] (ap (f76 n (by omega)) an)<|zAc 1<|zAa<|zAd 2<|zAa<|zEy (zCW n=0) (by omega)<|zAd 3<|zAa<|zAm<|E_a [] an (PV.tup [PV.nilp,I (zCW n)]) [] rfl rfl
theorem f139_1 (n:Nw) (ho:NwOk n):FG 139 [nwV n] (.tup [.box (zCv n (.own 2 []) (zUf (n.l.map pr2)) (zAj n) (zBb n)),I 0]):=by
 have hs:=ho.small
 have he:=ho.err
 have h1:=ho.nl.2
 have h2:=ho.ll
 have h3:=ho.ld
 have h4:=ho.na
 refine zAg Tryz.f139 ?_
 refine zAd 3<|zAa<|zAf<|zAd 1<|S_a [(6,.ret (I (zCW n)) [])] (ap (f76 n (by omega)) an)<|zAc 1<|zAa<|zAd 2<|zAa<|zFL (zCW n=0) (by omega)<|zAk<|zAd 5<|zAa<|zAf<|zAd 2<|S_a [(0,.n n.l.length)] (ap (lnS prV n.l) an)<|zAc 1<|zAa<|zAi 0 ?_
 refine zAq (fun (i,M)=>i≤n.l.length∧M=(n.l.take i).map pr2) (fun (i,M)=>[(5,.box (zCv n (.own 2 []) (zUf M) (List.replicate 8 0) (List.replicate 8 0))),(24,I (i:Nat))]) (fun (i,_)=>n.l.length-i) ((0:Nat),([]:List (Int×Int))) ⟨Nat.zero_le _,rfl⟩ fun (i,M) ⟨hi,hM⟩=>?_
 by_cases yH:i<n.l.length
 ·have jI:(n.l.take (i+1)).map pr2=M++[pr2 (n.l.getD i default)]:=by rw [zB9 (d:=default) yH,List.map_append,← hM];rfl
  have hin:pr2 (n.l.getD i default)∉M:=fun hm=>by
   rw [← List.take_append_drop (i+1) n.l,List.map_append,jI] at h3
   have h2:=(List.nodup_append.1 h3).1
   have h3:=(List.nodup_append.1 h2).2.2
   exact h3 _ hm _ (List.mem_singleton.2 rfl) rfl
  have y6:=zIh hin
  refine zAd 1<|zAa<|zAf<|zAI ((↑i:Int)<(↑n.l.length:Int)) (by omega)<|zAk<|zAf<|zAi 1<|zAf<|zAe<|S_a [(2,.v (PV.agg [I (n.l.getD i default).fst,I (n.l.getD i default).snd]))] (ap (zBv default (by omega):(List.map prV n.l)[i]? = some (PV.agg [I (n.l.getD i default).fst,I (n.l.getD i default).snd])) an)<|zAc 3<|zAa<|zAe<|zAc 5<|S_a [(6,.ret (prV (pr2 (n.l.getD i default))) [])] (ap (f110 (n.l.getD i default)) an)<|S_a [(4,.ix none),(0,.v (PV.omap (List.map zBy (M++[pr2 (n.l.getD i default)]))))] (ap y6<|ap ((by simp):PV.omap (List.map zBy M++[(PV.agg [I (pr2 (n.l.getD i default)).fst,I (pr2 (n.l.getD i default)).snd],PV.bool true)])=PV.omap (List.map zBy (M++[pr2 (n.l.getD i default)]))) an)<|zAa<|zAe<|S_a [(1,.v (I (↑(i+1):Int)))] (ap (wrN i) an)<|zAc 1<|zAa ?_
  exact ⟨(i+1,M++[pr2 (n.l.getD i default)]),⟨by omega,jI.symm⟩,by simp only;omega,by kernel_rfl,by kernel_rfl⟩
 ·refine zAd 1<|zAa<|zAf<|zAQ ((↑i:Int)<(↑n.l.length:Int)) (by omega)<|zAA 0<|zAf<|zAd 2<|S_a [(0,.n n.n.length)] (ap (lnS ntV n.n) an)<|zAc 1<|zAa<|zAi 2 ?_
  rw [List.take_of_length_le (by omega)] at hM
  subst hM
  clear h3
  generalize hMM:n.l.map pr2=MM
  refine zAq (fun (i,F)=>i≤n.n.length∧F=zN6 n.n i) (fun (i,F)=>[(5,.box (zCv n (.own 2 []) (zUf MM) F (List.replicate 8 0))),(38,I (i:Nat))]) (fun (i,_)=>n.n.length-i) ((0:Nat),List.replicate 8 0) ⟨Nat.zero_le _,rfl⟩ fun (i,F) ⟨hi,hF⟩=>?_
  have hFl:F.length=8:=by rw [hF];exact zGX i
  by_cases yH:i<n.n.length
  ·have h4i:=h4 i yH
   have yK:zN6 n.n (i+1)=zL7 F i (n.n.getD i default).1:=by rw [hF];rfl
   refine zAd 1<|zAa<|zAf<|zAI ((↑i:Int)<(↑n.n.length:Int)) (by omega)<|zAk<|zAf<|zAi 3<|zAd 1<|S_a [(2,.v (PV.agg [I (n.n.getD i default).fst,PV.bool (n.n.getD i default).snd]))] (ap (zBv default (by omega):(List.map ntV n.n)[i]? = some (PV.agg [I (n.n.getD i default).fst,PV.bool (n.n.getD i default).snd])) an)<|zAc 4<|zAa<|zAd 5<|S_a [(2,.ob),(1,.v (PV.addr 5 [] 0 (6+i) none))] (ap ((by exact zAp (by omega)):decide (i<8)=true)<|ap ((zFv (by kernel_rfl)):PV.addr 5 [] 0 (6+i*(fun x=>x.size) Tryz.prog.types[3]) none=PV.addr 5 [] 0 (6+i) none) an)<|S_a [(8,.root ((PV.agg [I n.h,prs n.l,PV.sl (List.map ntV n.n),PV.sl (List.map zAB n.s),PV.own 2 [],PV.omap (List.map zBy MM),zs F i 0,zs F i 1,zs F i 2,zs F i 3,zs F i 4,zs F i 5,zs F i 6,zs F i 7,z8 0,z8 1,z8 2,z8 3,z8 4,z8 5,z8 6,z8 7]).box) true)] (ap (zPA (zKF (q:=(PV.agg [I n.h,prs n.l,PV.sl (List.map ntV n.n),PV.sl (List.map zAB n.s),PV.own 2 [],PV.omap (List.map zBy MM),I (F.getD 0 0),I (F.getD 1 0),I (F.getD 2 0),I (F.getD 3 0),I (F.getD 4 0),I (F.getD 5 0),I (F.getD 6 0),I (F.getD 7 0),z8 0,z8 1,z8 2,z8 3,z8 4,z8 5,z8 6,z8 7]).box) (xs:=[PV.agg [I n.h,prs n.l,PV.sl (List.map ntV n.n),PV.sl (List.map zAB n.s),PV.own 2 [],PV.omap (List.map zBy MM),I (F.getD 0 0),I (F.getD 1 0),I (F.getD 2 0),I (F.getD 3 0),I (F.getD 4 0),I (F.getD 5 0),I (F.getD 6 0),I (F.getD 7 0),z8 0,z8 1,z8 2,z8 3,z8 4,z8 5,z8 6,z8 7]]) (x:=PV.agg [I n.h,prs n.l,PV.sl (List.map ntV n.n),PV.sl (List.map zAB n.s),PV.own 2 [],PV.omap (List.map zBy MM),I (F.getD 0 0),I (F.getD 1 0),I (F.getD 2 0),I (F.getD 3 0),I (F.getD 4 0),I (F.getD 5 0),I (F.getD 6 0),I (F.getD 7 0),z8 0,z8 1,z8 2,z8 3,z8 4,z8 5,z8 6,z8 7]) (y:=PV.agg [I n.h,prs n.l,PV.sl (List.map ntV n.n),PV.sl (List.map zAB n.s),PV.own 2 [],PV.omap (List.map zBy MM),zs F i 0,zs F i 1,zs F i 2,zs F i 3,zs F i 4,zs F i 5,zs F i 6,zs F i 7,z8 0,z8 1,z8 2,z8 3,z8 4,z8 5,z8 6,z8 7]) (q':=(PV.agg [I n.h,prs n.l,PV.sl (List.map ntV n.n),PV.sl (List.map zAB n.s),PV.own 2 [],PV.omap (List.map zBy MM),zs F i 0,zs F i 1,zs F i 2,zs F i 3,zs F i 4,zs F i 5,zs F i 6,zs F i 7,z8 0,z8 1,z8 2,z8 3,z8 4,z8 5,z8 6,z8 7]).box) rfl (zN3 (A:=[I n.h,prs n.l,PV.sl (List.map ntV n.n),PV.sl (List.map zAB n.s),PV.own 2 [],PV.omap (List.map zBy MM)]) (B:=[z8 0,z8 1,z8 2,z8 3,z8 4,z8 5,z8 6,z8 7]) (F:=F) (m:=8) (j:=i) (u:=(↑i:Int)) (by first | rfl | exact zBM (by kernel_rfl) | exact zBN (by kernel_rfl) | (simp;done)) (by omega) (by omega)) rfl (hb:=zOM (A:=[I n.h,prs n.l,PV.sl (List.map ntV n.n),PV.sl (List.map zAB n.s),PV.own 2 [],PV.omap (List.map zBy MM)]) (B:=[z8 0,z8 1,z8 2,z8 3,z8 4,z8 5,z8 6,z8 7]) (F:=F) (m:=8) (j:=i) (by first | rfl | exact zBM (by kernel_rfl) | exact zBN (by kernel_rfl) | (simp;done)) (by omega))) rfl:zBx (PV.agg [I n.h,prs n.l,PV.sl (List.map ntV n.n),PV.sl (List.map zAB n.s),PV.own 2 [],PV.omap (List.map zBy MM),I (F.getD 0 0),I (F.getD 1 0),I (F.getD 2 0),I (F.getD 3 0),I (F.getD 4 0),I (F.getD 5 0),I (F.getD 6 0),I (F.getD 7 0),z8 0,z8 1,z8 2,z8 3,z8 4,z8 5,z8 6,z8 7]).box [] 0 (6+i) (I (↑i:Int)).cells=some (PV.agg [I n.h,prs n.l,PV.sl (List.map ntV n.n),PV.sl (List.map zAB n.s),PV.own 2 [],PV.omap (List.map zBy MM),zs F i 0,zs F i 1,zs F i 2,zs F i 3,zs F i 4,zs F i 5,zs F i 6,zs F i 7,z8 0,z8 1,z8 2,z8 3,z8 4,z8 5,z8 6,z8 7]).box∧zAF (PV.agg [I n.h,prs n.l,PV.sl (List.map ntV n.n),PV.sl (List.map zAB n.s),PV.own 2 [],PV.omap (List.map zBy MM),I (F.getD 0 0),I (F.getD 1 0),I (F.getD 2 0),I (F.getD 3 0),I (F.getD 4 0),I (F.getD 5 0),I (F.getD 6 0),I (F.getD 7 0),z8 0,z8 1,z8 2,z8 3,z8 4,z8 5,z8 6,z8 7]).box (PV.agg [I n.h,prs n.l,PV.sl (List.map ntV n.n),PV.sl (List.map zAB n.s),PV.own 2 [],PV.omap (List.map zBy MM),zs F i 0,zs F i 1,zs F i 2,zs F i 3,zs F i 4,zs F i 5,zs F i 6,zs F i 7,z8 0,z8 1,z8 2,z8 3,z8 4,z8 5,z8 6,z8 7]).box []=true) an)<|zAa<|zAd 3<|zAa<|zDc ((n.n.getD i default).fst = -1) (fun k0=>(zAe<|zAc 7<|S_a [(0,.ob),(1,.ob),(1,.v (PV.addr 5 [] 0 (6+(n.n.getD i default).fst.toNat) none))] (ap ((by exact zAp (by omega)):decide (0≤(n.n.getD i default).fst)=true)<|ap ((by exact zAp (by omega)):decide ((n.n.getD i default).fst.toNat<8)=true)<|ap ((zFv (by kernel_rfl)):PV.addr 5 [] 0 (6+(n.n.getD i default).fst.toNat*(fun x=>x.size) Tryz.prog.types[3]) none=PV.addr 5 [] 0 (6+(n.n.getD i default).fst.toNat) none) an)<|S_a [(0,.cs true ([I ((F.set i (↑i:Int)).getD (n.n.getD i default).fst.toNat 0)]))] (ap (zC9 (q:=(PV.agg [I n.h,prs n.l,PV.sl (List.map ntV n.n),PV.sl (List.map zAB n.s),PV.own 2 [],PV.omap (List.map zBy MM),zs F i 0,zs F i 1,zs F i 2,zs F i 3,zs F i 4,zs F i 5,zs F i 6,zs F i 7,z8 0,z8 1,z8 2,z8 3,z8 4,z8 5,z8 6,z8 7]).box) (xs:=[PV.agg [I n.h,prs n.l,PV.sl (List.map ntV n.n),PV.sl (List.map zAB n.s),PV.own 2 [],PV.omap (List.map zBy MM),zs F i 0,zs F i 1,zs F i 2,zs F i 3,zs F i 4,zs F i 5,zs F i 6,zs F i 7,z8 0,z8 1,z8 2,z8 3,z8 4,z8 5,z8 6,z8 7]]) (x:=PV.agg [I n.h,prs n.l,PV.sl (List.map ntV n.n),PV.sl (List.map zAB n.s),PV.own 2 [],PV.omap (List.map zBy MM),zs F i 0,zs F i 1,zs F i 2,zs F i 3,zs F i 4,zs F i 5,zs F i 6,zs F i 7,z8 0,z8 1,z8 2,z8 3,z8 4,z8 5,z8 6,z8 7]) rfl rfl (zKD (A:=[I n.h,prs n.l,PV.sl (List.map ntV n.n),PV.sl (List.map zAB n.s),PV.own 2 [],PV.omap (List.map zBy MM)]) (B:=[z8 0,z8 1,z8 2,z8 3,z8 4,z8 5,z8 6,z8 7]) (F:=F.set i (↑i:Int)) (m:=8) (j:=(n.n.getD i default).fst.toNat) (by first | rfl | exact zBM (by kernel_rfl) | exact zBN (by kernel_rfl) | (simp;done)) (by omega)):zAs 5 (PV.agg [I n.h,prs n.l,PV.sl (List.map ntV n.n),PV.sl (List.map zAB n.s),PV.own 2 [],PV.omap (List.map zBy MM),zs F i 0,zs F i 1,zs F i 2,zs F i 3,zs F i 4,zs F i 5,zs F i 6,zs F i 7,z8 0,z8 1,z8 2,z8 3,z8 4,z8 5,z8 6,z8 7]).box [] 0 (6+(n.n.getD i default).fst.toNat) 1=some (true,[I ((F.set i (↑i:Int)).getD (n.n.getD i default).fst.toNat 0)])) an)<|zAc 2<|S_a [(2,.ob),(1,.v (PV.addr 5 [] 0 (6+i) none))] (ap ((by exact zAp (by omega)):decide (i<8)=true)<|ap ((zFv (by kernel_rfl)):PV.addr 5 [] 0 (6+i*(fun x=>x.size) Tryz.prog.types[3]) none=PV.addr 5 [] 0 (6+i) none) an)<|S_a [(8,.root ((PV.agg [I n.h,prs n.l,PV.sl (List.map ntV n.n),PV.sl (List.map zAB n.s),PV.own 2 [],PV.omap (List.map zBy MM),I (((F.set i (↑i:Int)).set i ((F.set i (↑i:Int)).getD (n.n.getD i default).fst.toNat 0)).getD 0 0),I (((F.set i (↑i:Int)).set i ((F.set i (↑i:Int)).getD (n.n.getD i default).fst.toNat 0)).getD 1 0),I (((F.set i (↑i:Int)).set i ((F.set i (↑i:Int)).getD (n.n.getD i default).fst.toNat 0)).getD 2 0),I (((F.set i (↑i:Int)).set i ((F.set i (↑i:Int)).getD (n.n.getD i default).fst.toNat 0)).getD 3 0),I (((F.set i (↑i:Int)).set i ((F.set i (↑i:Int)).getD (n.n.getD i default).fst.toNat 0)).getD 4 0),I (((F.set i (↑i:Int)).set i ((F.set i (↑i:Int)).getD (n.n.getD i default).fst.toNat 0)).getD 5 0),I (((F.set i (↑i:Int)).set i ((F.set i (↑i:Int)).getD (n.n.getD i default).fst.toNat 0)).getD 6 0),I (((F.set i (↑i:Int)).set i ((F.set i (↑i:Int)).getD (n.n.getD i default).fst.toNat 0)).getD 7 0),z8 0,z8 1,z8 2,z8 3,z8 4,z8 5,z8 6,z8 7]).box) true)] (ap (zPA (zKF (q:=(PV.agg [I n.h,prs n.l,PV.sl (List.map ntV n.n),PV.sl (List.map zAB n.s),PV.own 2 [],PV.omap (List.map zBy MM),zs F i 0,zs F i 1,zs F i 2,zs F i 3,zs F i 4,zs F i 5,zs F i 6,zs F i 7,z8 0,z8 1,z8 2,z8 3,z8 4,z8 5,z8 6,z8 7]).box) (xs:=[PV.agg [I n.h,prs n.l,PV.sl (List.map ntV n.n),PV.sl (List.map zAB n.s),PV.own 2 [],PV.omap (List.map zBy MM),zs F i 0,zs F i 1,zs F i 2,zs F i 3,zs F i 4,zs F i 5,zs F i 6,zs F i 7,z8 0,z8 1,z8 2,z8 3,z8 4,z8 5,z8 6,z8 7]]) (x:=PV.agg [I n.h,prs n.l,PV.sl (List.map ntV n.n),PV.sl (List.map zAB n.s),PV.own 2 [],PV.omap (List.map zBy MM),zs F i 0,zs F i 1,zs F i 2,zs F i 3,zs F i 4,zs F i 5,zs F i 6,zs F i 7,z8 0,z8 1,z8 2,z8 3,z8 4,z8 5,z8 6,z8 7]) (y:=PV.agg [I n.h,prs n.l,PV.sl (List.map ntV n.n),PV.sl (List.map zAB n.s),PV.own 2 [],PV.omap (List.map zBy MM),I (((F.set i (↑i:Int)).set i ((F.set i (↑i:Int)).getD (n.n.getD i default).fst.toNat 0)).getD 0 0),I (((F.set i (↑i:Int)).set i ((F.set i (↑i:Int)).getD (n.n.getD i default).fst.toNat 0)).getD 1 0),I (((F.set i (↑i:Int)).set i ((F.set i (↑i:Int)).getD (n.n.getD i default).fst.toNat 0)).getD 2 0),I (((F.set i (↑i:Int)).set i ((F.set i (↑i:Int)).getD (n.n.getD i default).fst.toNat 0)).getD 3 0),I (((F.set i (↑i:Int)).set i ((F.set i (↑i:Int)).getD (n.n.getD i default).fst.toNat 0)).getD 4 0),I (((F.set i (↑i:Int)).set i ((F.set i (↑i:Int)).getD (n.n.getD i default).fst.toNat 0)).getD 5 0),I (((F.set i (↑i:Int)).set i ((F.set i (↑i:Int)).getD (n.n.getD i default).fst.toNat 0)).getD 6 0),I (((F.set i (↑i:Int)).set i ((F.set i (↑i:Int)).getD (n.n.getD i default).fst.toNat 0)).getD 7 0),z8 0,z8 1,z8 2,z8 3,z8 4,z8 5,z8 6,z8 7]) (q':=(PV.agg [I n.h,prs n.l,PV.sl (List.map ntV n.n),PV.sl (List.map zAB n.s),PV.own 2 [],PV.omap (List.map zBy MM),I (((F.set i (↑i:Int)).set i ((F.set i (↑i:Int)).getD (n.n.getD i default).fst.toNat 0)).getD 0 0),I (((F.set i (↑i:Int)).set i ((F.set i (↑i:Int)).getD (n.n.getD i default).fst.toNat 0)).getD 1 0),I (((F.set i (↑i:Int)).set i ((F.set i (↑i:Int)).getD (n.n.getD i default).fst.toNat 0)).getD 2 0),I (((F.set i (↑i:Int)).set i ((F.set i (↑i:Int)).getD (n.n.getD i default).fst.toNat 0)).getD 3 0),I (((F.set i (↑i:Int)).set i ((F.set i (↑i:Int)).getD (n.n.getD i default).fst.toNat 0)).getD 4 0),I (((F.set i (↑i:Int)).set i ((F.set i (↑i:Int)).getD (n.n.getD i default).fst.toNat 0)).getD 5 0),I (((F.set i (↑i:Int)).set i ((F.set i (↑i:Int)).getD (n.n.getD i default).fst.toNat 0)).getD 6 0),I (((F.set i (↑i:Int)).set i ((F.set i (↑i:Int)).getD (n.n.getD i default).fst.toNat 0)).getD 7 0),z8 0,z8 1,z8 2,z8 3,z8 4,z8 5,z8 6,z8 7]).box) rfl (zN3 (A:=[I n.h,prs n.l,PV.sl (List.map ntV n.n),PV.sl (List.map zAB n.s),PV.own 2 [],PV.omap (List.map zBy MM)]) (B:=[z8 0,z8 1,z8 2,z8 3,z8 4,z8 5,z8 6,z8 7]) (F:=F.set i (↑i:Int)) (m:=8) (j:=i) (u:=(F.set i (↑i:Int)).getD (n.n.getD i default).fst.toNat 0) (by first | rfl | exact zBM (by kernel_rfl) | exact zBN (by kernel_rfl) | (simp;done)) (by omega) (by first | omega | (simp<;>omega))) rfl (hb:=zOM (A:=[I n.h,prs n.l,PV.sl (List.map ntV n.n),PV.sl (List.map zAB n.s),PV.own 2 [],PV.omap (List.map zBy MM)]) (B:=[z8 0,z8 1,z8 2,z8 3,z8 4,z8 5,z8 6,z8 7]) (F:=F.set i (↑i:Int)) (m:=8) (j:=i) (by first | rfl | exact zBM (by kernel_rfl) | exact zBN (by kernel_rfl) | (simp;done)) (by omega))) rfl:zBx (PV.agg [I n.h,prs n.l,PV.sl (List.map ntV n.n),PV.sl (List.map zAB n.s),PV.own 2 [],PV.omap (List.map zBy MM),zs F i 0,zs F i 1,zs F i 2,zs F i 3,zs F i 4,zs F i 5,zs F i 6,zs F i 7,z8 0,z8 1,z8 2,z8 3,z8 4,z8 5,z8 6,z8 7]).box [] 0 (6+i) (I ((F.set i (↑i:Int)).getD (n.n.getD i default).fst.toNat 0)).cells=some (PV.agg [I n.h,prs n.l,PV.sl (List.map ntV n.n),PV.sl (List.map zAB n.s),PV.own 2 [],PV.omap (List.map zBy MM),I (((F.set i (↑i:Int)).set i ((F.set i (↑i:Int)).getD (n.n.getD i default).fst.toNat 0)).getD 0 0),I (((F.set i (↑i:Int)).set i ((F.set i (↑i:Int)).getD (n.n.getD i default).fst.toNat 0)).getD 1 0),I (((F.set i (↑i:Int)).set i ((F.set i (↑i:Int)).getD (n.n.getD i default).fst.toNat 0)).getD 2 0),I (((F.set i (↑i:Int)).set i ((F.set i (↑i:Int)).getD (n.n.getD i default).fst.toNat 0)).getD 3 0),I (((F.set i (↑i:Int)).set i ((F.set i (↑i:Int)).getD (n.n.getD i default).fst.toNat 0)).getD 4 0),I (((F.set i (↑i:Int)).set i ((F.set i (↑i:Int)).getD (n.n.getD i default).fst.toNat 0)).getD 5 0),I (((F.set i (↑i:Int)).set i ((F.set i (↑i:Int)).getD (n.n.getD i default).fst.toNat 0)).getD 6 0),I (((F.set i (↑i:Int)).set i ((F.set i (↑i:Int)).getD (n.n.getD i default).fst.toNat 0)).getD 7 0),z8 0,z8 1,z8 2,z8 3,z8 4,z8 5,z8 6,z8 7]).box∧zAF (PV.agg [I n.h,prs n.l,PV.sl (List.map ntV n.n),PV.sl (List.map zAB n.s),PV.own 2 [],PV.omap (List.map zBy MM),zs F i 0,zs F i 1,zs F i 2,zs F i 3,zs F i 4,zs F i 5,zs F i 6,zs F i 7,z8 0,z8 1,z8 2,z8 3,z8 4,z8 5,z8 6,z8 7]).box (PV.agg [I n.h,prs n.l,PV.sl (List.map ntV n.n),PV.sl (List.map zAB n.s),PV.own 2 [],PV.omap (List.map zBy MM),I (((F.set i (↑i:Int)).set i ((F.set i (↑i:Int)).getD (n.n.getD i default).fst.toNat 0)).getD 0 0),I (((F.set i (↑i:Int)).set i ((F.set i (↑i:Int)).getD (n.n.getD i default).fst.toNat 0)).getD 1 0),I (((F.set i (↑i:Int)).set i ((F.set i (↑i:Int)).getD (n.n.getD i default).fst.toNat 0)).getD 2 0),I (((F.set i (↑i:Int)).set i ((F.set i (↑i:Int)).getD (n.n.getD i default).fst.toNat 0)).getD 3 0),I (((F.set i (↑i:Int)).set i ((F.set i (↑i:Int)).getD (n.n.getD i default).fst.toNat 0)).getD 4 0),I (((F.set i (↑i:Int)).set i ((F.set i (↑i:Int)).getD (n.n.getD i default).fst.toNat 0)).getD 5 0),I (((F.set i (↑i:Int)).set i ((F.set i (↑i:Int)).getD (n.n.getD i default).fst.toNat 0)).getD 6 0),I (((F.set i (↑i:Int)).set i ((F.set i (↑i:Int)).getD (n.n.getD i default).fst.toNat 0)).getD 7 0),z8 0,z8 1,z8 2,z8 3,z8 4,z8 5,z8 6,z8 7]).box []=true) an)<|zAa<|zAe<|S_a [(1,.v (I (↑(i+1):Int)))] (ap (wrN i) an)<|zAc 1<|zAa ?_)) (fun k0=>(zAk<|zAe<|S_a [(1,.v (I (↑(i+1):Int)))] (ap (wrN i) an)<|zAc 1<|zAa ?_))
   ·rw [zL7,if_neg k0] at yK
    exact ⟨(i+1,(F.set i i).set i ((F.set i i).getD (n.n.getD i default).1.toNat 0)),⟨by omega,yK.symm⟩,by simp only;omega,by kernel_rfl,by kernel_rfl⟩
   ·rw [zL7,if_pos k0] at yK
    exact ⟨(i+1,F.set i i),⟨by omega,yK.symm⟩,by simp only;omega,by kernel_rfl,by kernel_rfl⟩
  ·have hFF:F=zAj n:=by rw [hF,zAj,show i=n.n.length by omega]
   subst hFF
   clear hF
   have w5:zBb n=zTR (zAj n) n.n.length n.n.length:=rfl
   rw [w5]
   generalize hG:zAj n=F at *
   clear w5 h4
   refine zAd 1<|zAa<|zAf<|zAQ ((↑i:Int)<(↑n.n.length:Int)) (by omega)<|zAA 2<|zAf<|zAd 2<|S_a [(0,.n n.n.length)] (ap (lnS ntV n.n) an)<|zAc 1<|zAa<|zAi 4 ?_
   refine zAq (fun (i,L)=>i≤n.n.length∧L=zTR F n.n.length i) (fun (i,L)=>[(5,.box (zCv n (.own 2 []) (zUf MM) F L)),(68,I (i:Nat))]) (fun (i,_)=>n.n.length-i) ((0:Nat),List.replicate 8 0) ⟨Nat.zero_le _,rfl⟩ fun (i,L) ⟨hi,hL⟩=>?_
   have hLl:L.length=8:=by rw [hL];exact zOC i
   by_cases yH:i<n.n.length
   ·have yK:=zMV (F:=F) (m:=n.n.length) (i:=i)
    rw [← hL] at yK
    refine zAd 1<|zAa<|zAf<|zAI ((↑i:Int)<(↑n.n.length:Int)) (by omega)<|zAk<|zAf<|zAi 5<|zAd 2<|zAa<|zAd 2<|S_a [(0,.n n.n.length)] (ap (lnS ntV n.n) an)<|zAc 1<|zAa<|zAi 6 ?_
    refine zAq (fun (k,Q)=>k≤n.n.length∧Q=zVB F i L k) (fun (k,Q)=>[(5,.box (zCv n (.own 2 []) (zUf MM) F Q)),(74,I (k:Nat))]) (fun (k,_)=>n.n.length-k) ((0:Nat),L) ⟨Nat.zero_le _,rfl⟩ fun (k,Q) ⟨hk,hQ⟩=>?_
    have hQl:Q.length=8:=by rw [hQ,zK2];exact hLl
    by_cases kf:k<n.n.length
    ·have jX:=zL6 (F:=F) (L:=L) (i:=i) (k:=k)
     rw [← hQ] at jX
     clear yK hL hQ
     refine zAd 1<|zAa<|zAf<|zAI ((↑k:Int)<(↑n.n.length:Int)) (by omega)<|zAk<|zAf<|zAi 7<|zAd 2<|zAa<|zAd 4<|S_a [(2,.ob),(1,.v (PV.addr 5 [] 0 (6+k) none))] (ap ((by exact zAp (by omega)):decide (k<8)=true)<|ap ((zFv (by kernel_rfl)):PV.addr 5 [] 0 (6+k*(fun x=>x.size) Tryz.prog.types[3]) none=PV.addr 5 [] 0 (6+k) none) an)<|S_a [(0,.cs true ([I (F.getD k 0)]))] (ap (zC9 (q:=(PV.agg [I n.h,prs n.l,PV.sl (List.map ntV n.n),PV.sl (List.map zAB n.s),PV.own 2 [],PV.omap (List.map zBy MM),I (F.getD 0 0),I (F.getD 1 0),I (F.getD 2 0),I (F.getD 3 0),I (F.getD 4 0),I (F.getD 5 0),I (F.getD 6 0),I (F.getD 7 0),I (Q.getD 0 0),I (Q.getD 1 0),I (Q.getD 2 0),I (Q.getD 3 0),I (Q.getD 4 0),I (Q.getD 5 0),I (Q.getD 6 0),I (Q.getD 7 0)]).box) (xs:=[PV.agg [I n.h,prs n.l,PV.sl (List.map ntV n.n),PV.sl (List.map zAB n.s),PV.own 2 [],PV.omap (List.map zBy MM),I (F.getD 0 0),I (F.getD 1 0),I (F.getD 2 0),I (F.getD 3 0),I (F.getD 4 0),I (F.getD 5 0),I (F.getD 6 0),I (F.getD 7 0),I (Q.getD 0 0),I (Q.getD 1 0),I (Q.getD 2 0),I (Q.getD 3 0),I (Q.getD 4 0),I (Q.getD 5 0),I (Q.getD 6 0),I (Q.getD 7 0)]]) (x:=PV.agg [I n.h,prs n.l,PV.sl (List.map ntV n.n),PV.sl (List.map zAB n.s),PV.own 2 [],PV.omap (List.map zBy MM),I (F.getD 0 0),I (F.getD 1 0),I (F.getD 2 0),I (F.getD 3 0),I (F.getD 4 0),I (F.getD 5 0),I (F.getD 6 0),I (F.getD 7 0),I (Q.getD 0 0),I (Q.getD 1 0),I (Q.getD 2 0),I (Q.getD 3 0),I (Q.getD 4 0),I (Q.getD 5 0),I (Q.getD 6 0),I (Q.getD 7 0)]) rfl rfl (zKD (A:=[I n.h,prs n.l,PV.sl (List.map ntV n.n),PV.sl (List.map zAB n.s),PV.own 2 [],PV.omap (List.map zBy MM)]) (B:=[I (Q.getD 0 0),I (Q.getD 1 0),I (Q.getD 2 0),I (Q.getD 3 0),I (Q.getD 4 0),I (Q.getD 5 0),I (Q.getD 6 0),I (Q.getD 7 0)]) (F:=F) (m:=8) (j:=k) (by first | rfl | exact zBM (by kernel_rfl) | exact zBN (by kernel_rfl) | (simp;done)) (by omega)):zAs 5 (PV.agg [I n.h,prs n.l,PV.sl (List.map ntV n.n),PV.sl (List.map zAB n.s),PV.own 2 [],PV.omap (List.map zBy MM),I (F.getD 0 0),I (F.getD 1 0),I (F.getD 2 0),I (F.getD 3 0),I (F.getD 4 0),I (F.getD 5 0),I (F.getD 6 0),I (F.getD 7 0),I (Q.getD 0 0),I (Q.getD 1 0),I (Q.getD 2 0),I (Q.getD 3 0),I (Q.getD 4 0),I (Q.getD 5 0),I (Q.getD 6 0),I (Q.getD 7 0)]).box [] 0 (6+k) 1=some (true,[I (F.getD k 0)])) an)<|zAc 4<|S_a [(2,.ob),(1,.v (PV.addr 5 [] 0 (6+i) none))] (ap ((by exact zAp (by omega)):decide (i<8)=true)<|ap ((zFv (by kernel_rfl)):PV.addr 5 [] 0 (6+i*(fun x=>x.size) Tryz.prog.types[3]) none=PV.addr 5 [] 0 (6+i) none) an)<|S_a [(0,.cs true ([I (F.getD i 0)]))] (ap (zC9 (q:=(PV.agg [I n.h,prs n.l,PV.sl (List.map ntV n.n),PV.sl (List.map zAB n.s),PV.own 2 [],PV.omap (List.map zBy MM),I (F.getD 0 0),I (F.getD 1 0),I (F.getD 2 0),I (F.getD 3 0),I (F.getD 4 0),I (F.getD 5 0),I (F.getD 6 0),I (F.getD 7 0),I (Q.getD 0 0),I (Q.getD 1 0),I (Q.getD 2 0),I (Q.getD 3 0),I (Q.getD 4 0),I (Q.getD 5 0),I (Q.getD 6 0),I (Q.getD 7 0)]).box) (xs:=[PV.agg [I n.h,prs n.l,PV.sl (List.map ntV n.n),PV.sl (List.map zAB n.s),PV.own 2 [],PV.omap (List.map zBy MM),I (F.getD 0 0),I (F.getD 1 0),I (F.getD 2 0),I (F.getD 3 0),I (F.getD 4 0),I (F.getD 5 0),I (F.getD 6 0),I (F.getD 7 0),I (Q.getD 0 0),I (Q.getD 1 0),I (Q.getD 2 0),I (Q.getD 3 0),I (Q.getD 4 0),I (Q.getD 5 0),I (Q.getD 6 0),I (Q.getD 7 0)]]) (x:=PV.agg [I n.h,prs n.l,PV.sl (List.map ntV n.n),PV.sl (List.map zAB n.s),PV.own 2 [],PV.omap (List.map zBy MM),I (F.getD 0 0),I (F.getD 1 0),I (F.getD 2 0),I (F.getD 3 0),I (F.getD 4 0),I (F.getD 5 0),I (F.getD 6 0),I (F.getD 7 0),I (Q.getD 0 0),I (Q.getD 1 0),I (Q.getD 2 0),I (Q.getD 3 0),I (Q.getD 4 0),I (Q.getD 5 0),I (Q.getD 6 0),I (Q.getD 7 0)]) rfl rfl (zKD (A:=[I n.h,prs n.l,PV.sl (List.map ntV n.n),PV.sl (List.map zAB n.s),PV.own 2 [],PV.omap (List.map zBy MM)]) (B:=[I (Q.getD 0 0),I (Q.getD 1 0),I (Q.getD 2 0),I (Q.getD 3 0),I (Q.getD 4 0),I (Q.getD 5 0),I (Q.getD 6 0),I (Q.getD 7 0)]) (F:=F) (m:=8) (j:=i) (by first | rfl | exact zBM (by kernel_rfl) | exact zBN (by kernel_rfl) | (simp;done)) (by omega)):zAs 5 (PV.agg [I n.h,prs n.l,PV.sl (List.map ntV n.n),PV.sl (List.map zAB n.s),PV.own 2 [],PV.omap (List.map zBy MM),I (F.getD 0 0),I (F.getD 1 0),I (F.getD 2 0),I (F.getD 3 0),I (F.getD 4 0),I (F.getD 5 0),I (F.getD 6 0),I (F.getD 7 0),I (Q.getD 0 0),I (Q.getD 1 0),I (Q.getD 2 0),I (Q.getD 3 0),I (Q.getD 4 0),I (Q.getD 5 0),I (Q.getD 6 0),I (Q.getD 7 0)]).box [] 0 (6+i) 1=some (true,[I (F.getD i 0)])) an)<|zAc 1<|zAa<|zCd (F.getD k 0=F.getD i 0) (fun k1=>(zAe<|zAc 6<|S_a [(2,.ob),(1,.v (PV.addr 5 [] 0 (14+i) none))] (ap ((by exact zAp (by omega)):decide (i<8)=true)<|ap ((zFv (by kernel_rfl)):PV.addr 5 [] 0 (14+i*(fun x=>x.size) Tryz.prog.types[3]) none=PV.addr 5 [] 0 (14+i) none) an)<|S_a [(0,.cs true ([I (Q.getD i 0)]))] (ap (zC9 (q:=(PV.agg [I n.h,prs n.l,PV.sl (List.map ntV n.n),PV.sl (List.map zAB n.s),PV.own 2 [],PV.omap (List.map zBy MM),I (F.getD 0 0),I (F.getD 1 0),I (F.getD 2 0),I (F.getD 3 0),I (F.getD 4 0),I (F.getD 5 0),I (F.getD 6 0),I (F.getD 7 0),I (Q.getD 0 0),I (Q.getD 1 0),I (Q.getD 2 0),I (Q.getD 3 0),I (Q.getD 4 0),I (Q.getD 5 0),I (Q.getD 6 0),I (Q.getD 7 0)]).box) (xs:=[PV.agg [I n.h,prs n.l,PV.sl (List.map ntV n.n),PV.sl (List.map zAB n.s),PV.own 2 [],PV.omap (List.map zBy MM),I (F.getD 0 0),I (F.getD 1 0),I (F.getD 2 0),I (F.getD 3 0),I (F.getD 4 0),I (F.getD 5 0),I (F.getD 6 0),I (F.getD 7 0),I (Q.getD 0 0),I (Q.getD 1 0),I (Q.getD 2 0),I (Q.getD 3 0),I (Q.getD 4 0),I (Q.getD 5 0),I (Q.getD 6 0),I (Q.getD 7 0)]]) (x:=PV.agg [I n.h,prs n.l,PV.sl (List.map ntV n.n),PV.sl (List.map zAB n.s),PV.own 2 [],PV.omap (List.map zBy MM),I (F.getD 0 0),I (F.getD 1 0),I (F.getD 2 0),I (F.getD 3 0),I (F.getD 4 0),I (F.getD 5 0),I (F.getD 6 0),I (F.getD 7 0),I (Q.getD 0 0),I (Q.getD 1 0),I (Q.getD 2 0),I (Q.getD 3 0),I (Q.getD 4 0),I (Q.getD 5 0),I (Q.getD 6 0),I (Q.getD 7 0)]) rfl rfl (zKD (A:=[I n.h,prs n.l,PV.sl (List.map ntV n.n),PV.sl (List.map zAB n.s),PV.own 2 [],PV.omap (List.map zBy MM),I (F.getD 0 0),I (F.getD 1 0),I (F.getD 2 0),I (F.getD 3 0),I (F.getD 4 0),I (F.getD 5 0),I (F.getD 6 0),I (F.getD 7 0)]) (B:=[]) (F:=Q) (m:=8) (j:=i) (by first | rfl | exact zBM (by kernel_rfl) | exact zBN (by kernel_rfl) | (simp;done)) (by omega)):zAs 5 (PV.agg [I n.h,prs n.l,PV.sl (List.map ntV n.n),PV.sl (List.map zAB n.s),PV.own 2 [],PV.omap (List.map zBy MM),I (F.getD 0 0),I (F.getD 1 0),I (F.getD 2 0),I (F.getD 3 0),I (F.getD 4 0),I (F.getD 5 0),I (F.getD 6 0),I (F.getD 7 0),I (Q.getD 0 0),I (Q.getD 1 0),I (Q.getD 2 0),I (Q.getD 3 0),I (Q.getD 4 0),I (Q.getD 5 0),I (Q.getD 6 0),I (Q.getD 7 0)]).box [] 0 (14+i) 1=some (true,[I (Q.getD i 0)])) an)<|zAc 2<|S_a [(9,.ret (I (max (Q.getD i 0) (↑k:Int))) [])] (ap (f165 (Q.getD i 0) ((↑k:Int))) an)<|zAc 2<|S_a [(2,.ob),(1,.v (PV.addr 5 [] 0 (14+i) none))] (ap ((by exact zAp (by omega)):decide (i<8)=true)<|ap ((zFv (by kernel_rfl)):PV.addr 5 [] 0 (14+i*(fun x=>x.size) Tryz.prog.types[3]) none=PV.addr 5 [] 0 (14+i) none) an)<|S_a [(8,.root ((PV.agg [I n.h,prs n.l,PV.sl (List.map ntV n.n),PV.sl (List.map zAB n.s),PV.own 2 [],PV.omap (List.map zBy MM),I (F.getD 0 0),I (F.getD 1 0),I (F.getD 2 0),I (F.getD 3 0),I (F.getD 4 0),I (F.getD 5 0),I (F.getD 6 0),I (F.getD 7 0),I ((Q.set i (max (Q.getD i 0) (↑k:Int))).getD 0 0),I ((Q.set i (max (Q.getD i 0) (↑k:Int))).getD 1 0),I ((Q.set i (max (Q.getD i 0) (↑k:Int))).getD 2 0),I ((Q.set i (max (Q.getD i 0) (↑k:Int))).getD 3 0),I ((Q.set i (max (Q.getD i 0) (↑k:Int))).getD 4 0),I ((Q.set i (max (Q.getD i 0) (↑k:Int))).getD 5 0),I ((Q.set i (max (Q.getD i 0) (↑k:Int))).getD 6 0),I ((Q.set i (max (Q.getD i 0) (↑k:Int))).getD 7 0)]).box) true)] (ap (zPA (zKF (q:=(PV.agg [I n.h,prs n.l,PV.sl (List.map ntV n.n),PV.sl (List.map zAB n.s),PV.own 2 [],PV.omap (List.map zBy MM),I (F.getD 0 0),I (F.getD 1 0),I (F.getD 2 0),I (F.getD 3 0),I (F.getD 4 0),I (F.getD 5 0),I (F.getD 6 0),I (F.getD 7 0),I (Q.getD 0 0),I (Q.getD 1 0),I (Q.getD 2 0),I (Q.getD 3 0),I (Q.getD 4 0),I (Q.getD 5 0),I (Q.getD 6 0),I (Q.getD 7 0)]).box) (xs:=[PV.agg [I n.h,prs n.l,PV.sl (List.map ntV n.n),PV.sl (List.map zAB n.s),PV.own 2 [],PV.omap (List.map zBy MM),I (F.getD 0 0),I (F.getD 1 0),I (F.getD 2 0),I (F.getD 3 0),I (F.getD 4 0),I (F.getD 5 0),I (F.getD 6 0),I (F.getD 7 0),I (Q.getD 0 0),I (Q.getD 1 0),I (Q.getD 2 0),I (Q.getD 3 0),I (Q.getD 4 0),I (Q.getD 5 0),I (Q.getD 6 0),I (Q.getD 7 0)]]) (x:=PV.agg [I n.h,prs n.l,PV.sl (List.map ntV n.n),PV.sl (List.map zAB n.s),PV.own 2 [],PV.omap (List.map zBy MM),I (F.getD 0 0),I (F.getD 1 0),I (F.getD 2 0),I (F.getD 3 0),I (F.getD 4 0),I (F.getD 5 0),I (F.getD 6 0),I (F.getD 7 0),I (Q.getD 0 0),I (Q.getD 1 0),I (Q.getD 2 0),I (Q.getD 3 0),I (Q.getD 4 0),I (Q.getD 5 0),I (Q.getD 6 0),I (Q.getD 7 0)]) (y:=PV.agg [I n.h,prs n.l,PV.sl (List.map ntV n.n),PV.sl (List.map zAB n.s),PV.own 2 [],PV.omap (List.map zBy MM),I (F.getD 0 0),I (F.getD 1 0),I (F.getD 2 0),I (F.getD 3 0),I (F.getD 4 0),I (F.getD 5 0),I (F.getD 6 0),I (F.getD 7 0),I ((Q.set i (max (Q.getD i 0) (↑k:Int))).getD 0 0),I ((Q.set i (max (Q.getD i 0) (↑k:Int))).getD 1 0),I ((Q.set i (max (Q.getD i 0) (↑k:Int))).getD 2 0),I ((Q.set i (max (Q.getD i 0) (↑k:Int))).getD 3 0),I ((Q.set i (max (Q.getD i 0) (↑k:Int))).getD 4 0),I ((Q.set i (max (Q.getD i 0) (↑k:Int))).getD 5 0),I ((Q.set i (max (Q.getD i 0) (↑k:Int))).getD 6 0),I ((Q.set i (max (Q.getD i 0) (↑k:Int))).getD 7 0)]) (q':=(PV.agg [I n.h,prs n.l,PV.sl (List.map ntV n.n),PV.sl (List.map zAB n.s),PV.own 2 [],PV.omap (List.map zBy MM),I (F.getD 0 0),I (F.getD 1 0),I (F.getD 2 0),I (F.getD 3 0),I (F.getD 4 0),I (F.getD 5 0),I (F.getD 6 0),I (F.getD 7 0),I ((Q.set i (max (Q.getD i 0) (↑k:Int))).getD 0 0),I ((Q.set i (max (Q.getD i 0) (↑k:Int))).getD 1 0),I ((Q.set i (max (Q.getD i 0) (↑k:Int))).getD 2 0),I ((Q.set i (max (Q.getD i 0) (↑k:Int))).getD 3 0),I ((Q.set i (max (Q.getD i 0) (↑k:Int))).getD 4 0),I ((Q.set i (max (Q.getD i 0) (↑k:Int))).getD 5 0),I ((Q.set i (max (Q.getD i 0) (↑k:Int))).getD 6 0),I ((Q.set i (max (Q.getD i 0) (↑k:Int))).getD 7 0)]).box) rfl (zN3 (A:=[I n.h,prs n.l,PV.sl (List.map ntV n.n),PV.sl (List.map zAB n.s),PV.own 2 [],PV.omap (List.map zBy MM),I (F.getD 0 0),I (F.getD 1 0),I (F.getD 2 0),I (F.getD 3 0),I (F.getD 4 0),I (F.getD 5 0),I (F.getD 6 0),I (F.getD 7 0)]) (B:=[]) (F:=Q) (m:=8) (j:=i) (u:=max (Q.getD i 0) (↑k:Int)) (by first | rfl | exact zBM (by kernel_rfl) | exact zBN (by kernel_rfl) | (simp;done)) (by omega) (by omega)) rfl (hb:=zOM (A:=[I n.h,prs n.l,PV.sl (List.map ntV n.n),PV.sl (List.map zAB n.s),PV.own 2 [],PV.omap (List.map zBy MM),I (F.getD 0 0),I (F.getD 1 0),I (F.getD 2 0),I (F.getD 3 0),I (F.getD 4 0),I (F.getD 5 0),I (F.getD 6 0),I (F.getD 7 0)]) (B:=[]) (F:=Q) (m:=8) (j:=i) (by first | rfl | exact zBM (by kernel_rfl) | exact zBN (by kernel_rfl) | (simp;done)) (by omega))) rfl:zBx (PV.agg [I n.h,prs n.l,PV.sl (List.map ntV n.n),PV.sl (List.map zAB n.s),PV.own 2 [],PV.omap (List.map zBy MM),I (F.getD 0 0),I (F.getD 1 0),I (F.getD 2 0),I (F.getD 3 0),I (F.getD 4 0),I (F.getD 5 0),I (F.getD 6 0),I (F.getD 7 0),I (Q.getD 0 0),I (Q.getD 1 0),I (Q.getD 2 0),I (Q.getD 3 0),I (Q.getD 4 0),I (Q.getD 5 0),I (Q.getD 6 0),I (Q.getD 7 0)]).box [] 0 (14+i) (I (max (Q.getD i 0) (↑k:Int))).cells=some (PV.agg [I n.h,prs n.l,PV.sl (List.map ntV n.n),PV.sl (List.map zAB n.s),PV.own 2 [],PV.omap (List.map zBy MM),I (F.getD 0 0),I (F.getD 1 0),I (F.getD 2 0),I (F.getD 3 0),I (F.getD 4 0),I (F.getD 5 0),I (F.getD 6 0),I (F.getD 7 0),I ((Q.set i (max (Q.getD i 0) (↑k:Int))).getD 0 0),I ((Q.set i (max (Q.getD i 0) (↑k:Int))).getD 1 0),I ((Q.set i (max (Q.getD i 0) (↑k:Int))).getD 2 0),I ((Q.set i (max (Q.getD i 0) (↑k:Int))).getD 3 0),I ((Q.set i (max (Q.getD i 0) (↑k:Int))).getD 4 0),I ((Q.set i (max (Q.getD i 0) (↑k:Int))).getD 5 0),I ((Q.set i (max (Q.getD i 0) (↑k:Int))).getD 6 0),I ((Q.set i (max (Q.getD i 0) (↑k:Int))).getD 7 0)]).box∧zAF (PV.agg [I n.h,prs n.l,PV.sl (List.map ntV n.n),PV.sl (List.map zAB n.s),PV.own 2 [],PV.omap (List.map zBy MM),I (F.getD 0 0),I (F.getD 1 0),I (F.getD 2 0),I (F.getD 3 0),I (F.getD 4 0),I (F.getD 5 0),I (F.getD 6 0),I (F.getD 7 0),I (Q.getD 0 0),I (Q.getD 1 0),I (Q.getD 2 0),I (Q.getD 3 0),I (Q.getD 4 0),I (Q.getD 5 0),I (Q.getD 6 0),I (Q.getD 7 0)]).box (PV.agg [I n.h,prs n.l,PV.sl (List.map ntV n.n),PV.sl (List.map zAB n.s),PV.own 2 [],PV.omap (List.map zBy MM),I (F.getD 0 0),I (F.getD 1 0),I (F.getD 2 0),I (F.getD 3 0),I (F.getD 4 0),I (F.getD 5 0),I (F.getD 6 0),I (F.getD 7 0),I ((Q.set i (max (Q.getD i 0) (↑k:Int))).getD 0 0),I ((Q.set i (max (Q.getD i 0) (↑k:Int))).getD 1 0),I ((Q.set i (max (Q.getD i 0) (↑k:Int))).getD 2 0),I ((Q.set i (max (Q.getD i 0) (↑k:Int))).getD 3 0),I ((Q.set i (max (Q.getD i 0) (↑k:Int))).getD 4 0),I ((Q.set i (max (Q.getD i 0) (↑k:Int))).getD 5 0),I ((Q.set i (max (Q.getD i 0) (↑k:Int))).getD 6 0),I ((Q.set i (max (Q.getD i 0) (↑k:Int))).getD 7 0)]).box []=true) an)<|zAa<|zAe<|S_a [(1,.v (I (↑(k+1):Int)))] (ap (wrN k) an)<|zAc 1<|zAa ?_)) (fun k1=>(zAk<|zAe<|S_a [(1,.v (I (↑(k+1):Int)))] (ap (wrN k) an)<|zAc 1<|zAa ?_))
     ·rw [zP1,if_pos (by assumption)] at jX
      exact ⟨(k+1,Q.set i (max (Q.getD i 0) k)),⟨by omega,jX.symm⟩,by simp only;omega,by kernel_rfl,by kernel_rfl⟩
     ·rw [zP1,if_neg (by assumption)] at jX
      exact ⟨(k+1,Q),⟨by omega,jX.symm⟩,by simp only;omega,by kernel_rfl,by kernel_rfl⟩
    ·refine zAd 1<|zAa<|zAf<|zAQ ((↑k:Int)<(↑n.n.length:Int)) (by omega)<|zAA 6<|zAe<|S_a [(1,.v (I (↑(i+1):Int)))] (ap (wrN i) an)<|zAc 1<|zAa ?_
     exact ⟨(i+1,Q),⟨by omega,by rw [yK,hQ,show k=n.n.length by omega]⟩,by simp only;omega,by kernel_rfl,by kernel_rfl⟩
   ·refine zAd 1<|zAa<|zAf<|zAQ ((↑i:Int)<(↑n.n.length:Int)) (by omega)<|zAA 4<|zAd 1<|zAc 1<|zAc 1<|zAa<|zAm<|E_a [] an (PV.tup [(PV.agg [I n.h,prs n.l,PV.sl (List.map ntV n.n),PV.sl (List.map zAB n.s),PV.own 2 [],PV.omap (List.map zBy MM),I (F.getD 0 0),I (F.getD 1 0),I (F.getD 2 0),I (F.getD 3 0),I (F.getD 4 0),I (F.getD 5 0),I (F.getD 6 0),I (F.getD 7 0),I (L.getD 0 0),I (L.getD 1 0),I (L.getD 2 0),I (L.getD 3 0),I (L.getD 4 0),I (L.getD 5 0),I (L.getD 6 0),I (L.getD 7 0)]).box,I 0]) [] ?_ rfl
    rw [hL,show i=n.n.length by omega]
end
end Go.Eng
set_option maxRecDepth 10000
set_option maxHeartbeats 4000000
namespace Go.Eng
open Go Go.Proofs
abbrev mapM (M:List (Int×Int)):PV := .map (M.map zBy)
abbrev zDR (n:Nw) (cs:List (Int×Int)):PV := .ref (zCv n (prs cs) (mapM (n.l.map pr2)) (zAj n) (zBb n))
def zGH (n:Nw) (c:Int×Int):Bool:=inB c.1 0 (n.n.length-1)&&inB c.2 0 (n.s.length-1)
def zBm (n:Nw) (cs:List (Int×Int)):Int:=if zCW n=0 then if (cs.length:Int)>16 then 2 else if (!cs.all fun c=>zGH n c)=true then 1 else 0 else zCW n
def zSi (n:Nw) (cs:List (Int×Int)) (e:Int):Int:=if zBm n cs=0 then if inB e 0 12=true then 0 else 3 else zBm n cs
structure CrOk (n:Nw) (cs:List (Int×Int)):Prop where
 err:zBm n cs=0
 nw:NwOk n
 len:cs.length≤16
 cs:∀ c∈cs,(0≤c.1∧c.1<n.n.length)∧(0≤c.2∧c.2<n.s.length)
structure CrW (n:Nw) (cs:List (Int×Int)):Prop where
 nw:NwOk n
 len:cs.length≤1000
 cs:∀ c∈cs,(0≤c.1∧c.1<n.n.length)∧(0≤c.2∧c.2<n.s.length)
theorem CrOk.w {n:Nw} {cs:List (Int×Int)} (h:CrOk n cs):CrW n cs:=⟨h.nw,by have:=h.len;omega,h.cs⟩
theorem zTx {n:Nw} {cs:List (Int×Int)} (he:zBm n cs=0):CrOk n cs:=by
 have he0:=he
 unfold zBm at he
 split at he
 case isFalse h=>exact absurd he h
 rename_i c1
 split at he
 ·cases he
 split at he
 ·cases he
 rename_i c2 c3
 simp only [Bool.not_eq_true,Bool.not_eq_false',List.all_eq_true] at c3
 refine ⟨he0,zSQ c1,by omega,fun c hc=>?_⟩
 have:=c3 c hc
 simp only [zGH,Bool.and_eq_true] at this
 have b1:=zCL this.1
 have b2:=zCL this.2
 omega
structure EvOk (n:Nw) (cs:List (Int×Int)) (e:Int):Prop where
 err:zSi n cs e=0
 cr:CrOk n cs
 ev:0≤e∧e≤12
theorem zUt {n:Nw} {cs:List (Int×Int)} {e:Int} (he:zSi n cs e=0):EvOk n cs e:=by
 have he0:=he
 unfold zSi at he
 split at he
 case isFalse h=>exact absurd he h
 rename_i c1
 split at he
 ·rename_i h;exact ⟨he0,zTx c1,zCL h⟩
 ·cases he
section
variable [Yo]
theorem f170 (n:Nw) (x:Int) (hb:n.s.length≤6):FG 170 [nwV n,I x] (.bool (inB x 0 (n.s.length-1))):=by
 refine zAg Tryz.f170 ?_
 refine zAd 2<|zAa<|zAd 3<|S_a [(0,.n n.s.length)] (ap (lnS zAB n.s) an)<|S_a [(1,.v (I ((↑n.s.length:Int)-1)))] (ap ((zCj rfl (by omega)):I (IntKind.i64.wrap ((↑n.s.length:Int)-1))=I ((↑n.s.length:Int)-1)) an)<|S_a [(10,.ret (PV.bool (inB x 0 ((↑n.s.length:Int)-1))) [])] (ap (f107 x (0) ((↑n.s.length:Int)-1)) an)<|zAc 1<|zAa<|zAm<|E_a [] an (PV.bool (inB x 0 ((↑n.s.length:Int)-1))) [] rfl rfl
theorem f118 (n:Nw) (c:Int×Int) (cp:PV) (M:List (Int×Int)) (F L:List Int) (ho:NwOk n):FG 118 [.ref (zCv n cp (mapM M) F L),prV c] (.bool (zGH n c)):=by
 have h1:=ho.nl.2
 have h2:=ho.sl.2
 refine zAg Tryz.f118 ?_
 refine zAd 2<|zAa<|zAd 6<|S_a [(8,.ret (PV.bool (inB c.fst 0 ((↑n.n.length:Int)-1))) [])] (ap (f106 n c.fst (by omega)) an)<|zAc 1<|zCn 12 (inB c.fst 0 ((↑n.n.length:Int)-1)) (fun k0=>(zAc 6<|S_a [(8,.ret (PV.bool (inB c.snd 0 ((↑n.s.length:Int)-1))) [])] (ap (f170 n c.snd (by omega)) an)<|zAc 2<|zAa<|zAm<|E_a [] an (PV.bool (inB c.snd 0 ((↑n.s.length:Int)-1))) [] ?_ rfl)) (fun k0=>(zAc 9<|zAa<|zAm<|E_a [] an (PV.bool false) [] ?_ rfl))
 ·simp only [zGH,k0,Bool.true_and]
 ·simp only [zGH,k0,Bool.false_and]
theorem f204_1 (n:Nw) (M:List (Int×Int)) (F L:List Int) (ho:NwOk n) (x:Int×Int):FG 204 [prV x,.ref (.func 118 [.ref (zCv n (.sl []) (mapM M) F L)] [])] (.bool (!(zGH n x))):=by
 refine zAg Tryz.f204 ?_
 refine zAd 2<|zAa<|zAd 2<|S_a [(7,.ret (PV.bool (zGH n x)) [])] (ap (f118 n x (PV.sl []) M F L (by omega)) an)<|zAc 2<|zAa<|zAm<|E_a [] an (PV.bool !zGH n x) [] rfl rfl
theorem f203_1 (n:Nw) (M:List (Int×Int)) (F L:List Int) (ho:NwOk n) (l:List (Int×Int)) (hl:l.length<4294967296):FG 203 [.sl (l.map prV),.func 204 [] [.ref (.func 118 [.ref (zCv n (.sl []) (mapM M) F L)] [])]] (I (zEO (fun x => !(zGH n x)) l)):=by
 refine zAg Tryz.f203 ?_
 refine zAd 1<|zAa<|zAf<|zAd 1<|S_a [(0,.n l.length)] (ap (lnS prV l) an)<|zAc 1<|zAa<|zAi 0 ?_
 refine zAq (fun i=>i≤l.length∧∀ j,j<i→(fun x => !(zGH n x)) (l.getD j default)=false) (fun i=>[(8,I (i:Nat))]) (fun i=>l.length-i) (0:Nat) (by simp) fun i ⟨hi,ha⟩=>?_
 refine zAd 1<|zAa<|zAf<|zCd ((↑i:Int)<(↑l.length:Int)) (fun k0=>(zAk<|zAf<|zAi 1<|zAd 2<|zAa<|zAd 3<|S_a [(2,.v (PV.agg [I (l.getD i default).fst,I (l.getD i default).snd]))] (ap (zBv default (by omega):(List.map prV l)[i]? = some (PV.agg [I (l.getD i default).fst,I (l.getD i default).snd])) an)<|zAc 1<|S_a [(7,.ret (PV.bool !zGH n (l.getD i default)) [])] (ap (f204_1 n M F L (by omega) (l.getD i default)) an)<|zAa<|zDt (!zGH n (l.getD i default)) (fun k1=>(zAd 2<|zAa<|zAm<|E_a [] an (I (↑i:Int)) [] ?_ rfl)) (fun k1=>(zAk<|zAe<|S_a [(1,.v (I (↑(i+1):Int)))] (ap (wrN i) an)<|zAc 1<|zAa ?_)))) (fun k0=>(zAA 0<|zAd 1<|zAa<|zAm<|E_a [] an (I (-1)) [] ?_ rfl))
 ·rw [zB0 (i:=i) (by omega) (fun j hj=>by rw [← zAt (d:=default)];exact ha j hj) (by rw [← zAt (d:=default)];first | assumption | exact decide_eq_true ‹_› | (simp only [Bool.not_eq_true',decide_eq_false_iff_not];assumption))]
 ·refine ⟨i+1,⟨by omega,fun j hj=>?_⟩,by omega,by kernel_rfl,by kernel_rfl⟩
  rcases Nat.lt_succ_iff_lt_or_eq.1 hj with h | rfl
  ·exact ha j h
  ·first | assumption | exact decide_eq_false ‹_› | (simp only [Bool.not_eq_false',decide_eq_true_eq];first | assumption | (apply Decidable.of_not_not;assumption))
 ·rw [zCl fun j hj=>by rw [← zAt (d:=default)];exact ha j (by omega)]
theorem f159_1 (n:Nw) (M:List (Int×Int)) (F L:List Int) (ho:NwOk n) (l:List (Int×Int)) (hl:l.length<4294967296):FG 159 [.sl (l.map prV),.func 204 [] [.ref (.func 118 [.ref (zCv n (.sl []) (mapM M) F L)] [])]] (.bool (l.any (fun x => !(zGH n x)))):=by
 refine zAg Tryz.f159 ?_
 refine zAd 1<|zAa<|zAd 2<|S_a [(7,.ret (I (zEO (fun x => !zGH n x) l)) [])] (ap (f203_1 n M F L (by omega) l (by omega)) an)<|zAc 2<|zAa<|zAm<|E_a [] an (PV.bool (decide (zEO (fun x => !zGH n x) l≥0))) [] ?_ rfl
 rw [zEf]
theorem f164_1 (n:Nw) (M:List (Int×Int)) (F L:List Int) (ho:NwOk n) (l:List (Int×Int)) (hl:l.length<4294967296):FG 164 [.sl (l.map prV),.func 118 [.ref (zCv n (.sl []) (mapM M) F L)] []] (.bool (l.all (fun x=>zGH n x))):=by
 refine zAg Tryz.f164 ?_
 refine zAd 2<|zAa<|zAd 2<|S_a [(12,.ret (PV.bool (l.any fun x => !zGH n x)) [])] (ap (f159_1 n M F L (by omega) l (by omega)) an)<|zAc 2<|zAa<|zAm<|E_a [] an (PV.bool !l.any fun x => !zGH n x) [] ?_ rfl
 simp [List.not_any_eq_all_not]
theorem f99_1 (n:Nw) (cs:List (Int×Int)) (ho:CrOk n cs):FG 99 [nwV n,prs cs] (.tup [zDR n cs,I 0]):=by
 have hn:=ho.nw
 have hl:=ho.len
 have ha:(!cs.all fun c=>zGH n c)=false:=by
  simp only [Bool.not_eq_false',List.all_eq_true]
  intro c hc
  have:=ho.cs c hc
  simp only [zGH,inB,Bool.and_eq_true,decide_eq_true_eq];omega
 refine zAg Tryz.f99 ?_
 refine zAd 3<|zAa<|zAd 1<|S_a [(6,.ret (PV.tup [(zCv n (PV.own 2 []) (zUf (List.map pr2 n.l)) (zAj n) (zBb n)).box,I 0]) [])] (ap (f139_1 n (by omega)) an)<|zAc 5<|zAa<|zAf<|zAi 0<|zAd 3<|zAa<|zAw<|zAd 1<|S_a [(0,.n cs.length)] (ap (lnS prV cs) an)<|zAc 2<|zAa<|zAQ ((↑cs.length:Int)>16) (by omega)<|zAd 3<|S_a [(13,.ret (PV.bool (cs.all fun x=>zGH n x)) [])] (ap (f164_1 n (List.map pr2 n.l) (zAj n) (zBb n) (by omega) cs (by omega)) an)<|zAc 2<|zAa<|zDt (!cs.all fun x=>zGH n x) (fun k0=>(zAd 2<|zAa<|zAm<|E_a [] an (PV.tup [PV.nilp,I 1]) [] ?_ rfl)) (fun k0=>(zAk<|zAd 5<|zAa<|zAd 1<|zAc 1<|zAc 1<|zAa<|zAm<|E_a [] an (PV.tup [(PV.agg (I n.h::prs n.l::PV.sl (List.map ntV n.n)::PV.sl (List.map zAB n.s)::prs cs::PV.map (List.map zBy (List.map pr2 n.l))::(zAO (zAj n) 8++zAO (zBb n) 8))).ref,I 0]) [] rfl rfl))
 rw [ha] at k0;cases k0
theorem f99_2 (n:Nw) (cs:List (Int×Int)) (hs:Small n) (hl:cs.length<1000000) (ho:¬ zBm n cs=0):FG 99 [nwV n,prs cs] (.tup [.nilp,I (zBm n cs)]):=by
 by_cases he:zCW n=0
 ·have hn:=zSQ he
  refine zAg Tryz.f99 ?_
  refine zAd 3<|zAa<|zAd 1<|S_a [(6,.ret (PV.tup [(zCv n (PV.own 2 []) (zUf (List.map pr2 n.l)) (zAj n) (zBb n)).box,I 0]) [])] (ap (f139_1 n (by omega)) an)<|zAc 5<|zAa<|zAf<|zAi 0<|zAd 3<|zAa<|zAw<|zAd 1<|S_a [(0,.n cs.length)] (ap (lnS prV cs) an)<|zAc 2<|zAa<|zCd ((↑cs.length:Int)>16) (fun k0=>(zAd 2<|zAa<|zAm<|E_a [] an (PV.tup [PV.nilp,I 2]) [] ?_ rfl)) (fun k0=>(zAd 3<|S_a [(13,.ret (PV.bool (cs.all fun x=>zGH n x)) [])] (ap (f164_1 n (List.map pr2 n.l) (zAj n) (zBb n) (by omega) cs (by omega)) an)<|zAc 2<|zAa<|zDt (!cs.all fun x=>zGH n x) (fun k1=>(zAd 2<|zAa<|zAm<|E_a [] an (PV.tup [PV.nilp,I 1]) [] ?_ rfl)) (fun k1=>(zAk<|zAd 5<|zAa<|zAd 1<|zAc 1<|zAc 1<|zAa<|zAm<|E_a [] an (PV.tup [(PV.agg (I n.h::prs n.l::PV.sl (List.map ntV n.n)::PV.sl (List.map zAB n.s)::prs cs::PV.map (List.map zBy (List.map pr2 n.l))::(zAO (zAj n) 8++zAO (zBb n) 8))).ref,I 0]) [] ?_ rfl))))
  ·simp only [zBm,he,k0,if_true]
  ·simp only [zBm,he,k0,k1,if_true,if_false];try rfl
  ·exact absurd (by simp only [zBm,he,k0,k1,if_true,if_false];rfl) ho
 ·refine zAg Tryz.f99 ?_
  refine zAd 3<|zAa<|zAd 1<|S_a [(6,.ret (PV.tup [PV.nilp,I (zCW n)]) [])] (ap (f139_2 n (by omega) (by omega)) an)<|zAc 5<|zAa<|zAf<|zAi 0<|zAd 3<|zAa<|zEy (zCW n=0) (by omega)<|zAd 3<|zAa<|zAm<|E_a [] an (PV.tup [PV.nilp,I (zCW n)]) [] ?_ rfl
  simp only [zBm,he,if_false]
theorem f90_1 (n:Nw) (cs:List (Int×Int)) (e:Int) (ho:EvOk n cs e):FG 90 [nwV n,prs cs,I e] (.tup [zDR n cs,I 0]):=by
 have hc:=ho.cr
 have he:inB e 0 12=true:=by have:=ho.ev;simp only [inB,Bool.and_eq_true,decide_eq_true_eq];omega
 refine zAg Tryz.f90 ?_
 refine zAd 3<|zAa<|zAd 2<|S_a [(8,.ret (PV.tup [zDR n cs,I 0]) [])] (ap (f99_1 n cs (by omega)) an)<|zAc 5<|zAa<|zAf<|zAd 4<|S_a [(10,.ret (PV.bool (inB e 0 12)) [])] (ap (f107 e (0) (12)) an)<|zAc 2<|zAa<|zDt (!inB e 0 12) (fun k0=>(zAe<|zAc 1<|zAa<|zAf<|zAd 2<|zAa<|zA8<|zAd 3<|zAa<|zAm<|E_a [] an (PV.tup [PV.nilp,I 3]) [] ?_ rfl)) (fun k0=>(zAk<|zAf<|zAd 2<|zAa<|zAw<|zAk<|zAd 3<|zAa<|zAm<|E_a [] an (PV.tup [(PV.agg (I n.h::prs n.l::PV.sl (List.map ntV n.n)::PV.sl (List.map zAB n.s)::prs cs::PV.map (List.map zBy (List.map pr2 n.l))::(zAO (zAj n) 8++zAO (zBb n) 8))).ref,I 0]) [] rfl rfl))
 rw [he] at k0;cases k0
theorem f140 (n:Nw) (cp:PV) (M:List (Int×Int)) (F L:List Int) (ho:NwOk n) (h:Int) (s:Int) (hs:0≤s∧s<n.s.length):FG 140 [.ref (zCv n cp (mapM M) F L),I h,I s] (.bool (has (n.s.getD s.toNat []) h)):=by
 have h1:=zBB (d:=[]) ho.rows s.toNat (by omega)
 refine zAg Tryz.f140 ?_
 refine zAd 1<|zAa<|zAd 6<|S_a [(0,.ob),(1,.v (zAB (n.s.getD s.toNat [])))] (ap ((by exact zAp (by omega)):decide (0≤s)=true)<|ap (zBv [] (by omega):(List.map zAB n.s)[s.toNat]? = some (zAB (n.s.getD s.toNat []))) an)<|zAc 2<|S_a [(8,.ret (PV.bool (has (n.s.getD s.toNat []) h)) [])] (ap (f58 (n.s.getD s.toNat []) h (by omega)) an)<|zAc 1<|zAa<|zAm<|E_a [] an (PV.bool (has (n.s.getD s.toNat []) h)) [] rfl rfl
theorem f116 (n:Nw) (cs:List (Int×Int)) (h:Int):FG 116 [zDR n cs,I h] (.func 169 [] [.ref (zDR n cs),.ref (I h)]):=by
 refine zAg Tryz.f116 ?_
 refine zAd 3<|zAa<|zAd 2<|zAa<|zAm<|E_a [] an (PV.func 169 [] [(PV.agg (I n.h::prs n.l::PV.sl (List.map ntV n.n)::PV.sl (List.map zAB n.s)::prs cs::PV.map (List.map zBy (List.map pr2 n.l))::(zAO (zAj n) 8++zAO (zBb n) 8))).ref.ref,(I h).ref]) [] rfl rfl
end
def zDq (n:Nw) (a b:Int):Bool:=decide (pr2 (a,b)∈n.l.map pr2)
def zGG (n:Nw) (h:Nat) (o:Nat):List Nat:=(List.range o).filter fun o=>zDq n h o
theorem zJr {n:Nw} {h o:Nat}:zGG n h (o+1)=if zDq n h o=true then zGG n h o++[o] else zGG n h o:=by
 unfold zGG;rw [List.range_succ,List.filter_append]
 by_cases hn:zDq n h o=true
 ·rw [if_pos hn];simp [hn]
 ·rw [if_neg hn];simp [hn]
theorem zS6 {n:Nw} {h t m:Nat} (ht:t≤m):zGG n h t <+: zGG n h m:=by
  induction ht with
  | refl=>exact List.prefix_refl _
  | step _ ih => rw [zJr];split
                 · exact ih.trans (List.prefix_append _ _)
                 · exact ih
theorem zSv {α:Type} {x y:List α} (h:x <+: y) {k:Int} (hk:k=x.length):x=y.take k.toNat:=by
 rw [hk,Int.toNat_natCast];exact List.prefix_iff_eq_take.1 h
abbrev zJB (n:Nw) (h o:Nat):List (List PV):=(zGG n h o).map fun (o:Nat)=>[I o]
abbrev zQC (n:Nw) (cs:List (Int×Int)) (h:Nat):List PV:=[.ref (zDR n cs),.ref (I h)]
theorem zVx [Yo] (n:Nw) (cs:List (Int×Int)) (h:Nat) (ho:NwOk n) (hh:(h:Int)<n.h) (k:Int) (hk:k = -1∨1≤k∧k≤(zGG n h n.h.toNat).length) (i:Nat):W Tryz.prog zKO 169 Tryz.f169.ntmps (Tryz.f169.body.getD .ret) (zA4 ([]++PV.yld i::zQC n cs h) []) (some ⟨[],k,i⟩) fun x _ lg=>(x = .norm∨x = .ret)∧lg.map (·.xs)=some (if k = -1 then zJB n h n.h.toNat else (zJB n h n.h.toNat).take k.toNat):=by
 have hb:=ho.h
 refine zAd 6<|zAa<|zAi 0 ?_
 refine zVf (fun (o,xs,kc)=>o≤n.h.toNat∧xs=zJB n h o∧kc=k-xs.length∧(k = -1∨1≤kc)) (fun (o,_,_)=>[(10,I (o:Nat))]) (fun (_,xs,kc)=>some ⟨xs,kc,i⟩) (fun (o,_,_)=>n.h.toNat-o) ((0:Nat),([]:List (List PV)),k) ⟨Nat.zero_le _,rfl,by simp,by omega⟩ fun (o,xs,kc) ⟨hr,jZ,hkc,jM⟩=>?_
 by_cases hol:(o:Int)<n.h
 ·have ya:=zJr (n:=n) (h:=h) (o:=o)
  by_cases hI:zDq n h o=true
  ·rw [if_pos hI] at ya
   have ug:pr2 ((h:Int),(o:Int))∈n.l.map pr2:=by simpa [zDq] using hI
   obtain ⟨j,hj,y6⟩:=zM7 ug
   have jB:zHg ((n.l.map pr2).map zBy) j=some (.bool true):=by
    have:j<n.l.length:=by simpa using hj
    simp [zHg,this]
   have qT:xs++[[I o]]=zJB n h (o+1):=by rw [zJB,ya,List.map_append,jZ];rfl
   have ud:xs++[[I o]] <+: zJB n h n.h.toNat:=by rw [qT];exact (zS6 (by omega)).map _
   refine zAd 1<|zAa<|zAf<|zAI ((↑o:Int)<n.h) (by omega)<|zAk<|zAf<|zAi 1<|zAd 2<|zAa<|zAd 7<|S_a [(6,.ret (prV (pr2 ((↑h:Int),(↑o:Int)))) [])] (ap (f110 (((↑h:Int),(↑o:Int)))) an)<|S_a [(2,.ix (some j)),(0,.v (PV.bool true))] (ap y6<|ap (jB:zHg (List.map zBy (List.map pr2 n.l)) j=some (PV.bool true)) an)<|zAc 3 ?_
   refine zU5 kc xs [I o] i (fun hk3=>?_) (fun hk3=>?_) (by omega)
   ·refine zAc 2<|zAa<|zA8<|zAm ?_
    refine ⟨.inr rfl,?_⟩
    have wX:k=(xs++[[I (o:Int)]]).length:=by simp;omega
    have jM:¬ k = -1:=by omega
    rw [if_neg jM,← zSv ud wX];show Option.map _ _=_;kernel_rfl
   ·refine zAc 2<|zAa<|zAw<|zAk<|zAe<|S_a [(1,.v (I (↑(o+1):Int)))] (ap (wrN o) an)<|zAc 1<|zAa ?_
    exact ⟨(o+1,xs++[[I o]],kc-1),⟨by omega,qT,by simp;omega,by omega⟩,by simp only;omega,by kernel_rfl,by kernel_rfl⟩
  ·rw [if_neg hI] at ya
   have ug:pr2 ((h:Int),(o:Int))∉n.l.map pr2:=by simpa [zDq] using hI
   have y6:=zIh ug
   refine zAd 1<|zAa<|zAf<|zAI ((↑o:Int)<n.h) (by omega)<|zAk<|zAf<|zAi 1<|zAd 2<|zAa<|zAd 7<|S_a [(6,.ret (prV (pr2 ((↑h:Int),(↑o:Int)))) [])] (ap (f110 (((↑h:Int),(↑o:Int)))) an)<|S_a [(2,.ix none)] (ap y6 an)<|zAc 6<|zAa<|zAw<|zAk<|zAe<|S_a [(1,.v (I (↑(o+1):Int)))] (ap (wrN o) an)<|zAc 1<|zAa ?_
   exact ⟨(o+1,xs,kc),⟨by omega,by rw [zJB,ya];exact jZ,hkc,jM⟩,by simp only;omega,by kernel_rfl,by kernel_rfl⟩
 ·have e:o=n.h.toNat:=by omega
  subst e
  have hX:xs.length=(zGG n h n.h.toNat).length:=by rw [jZ];simp
  have jM:k = -1:=by omega
  refine zAd 1<|zAa<|zAf<|zAQ ((↑n.h.toNat:Int)<n.h) (by omega)<|zAA 0 ?_
  refine ⟨.inl rfl,?_⟩
  rw [if_pos jM,← jZ];show Option.map _ _=_;kernel_rfl
theorem zYY (n:Nw) (cs:List (Int×Int)) (h:Nat) (ho:NwOk n) (hh:(h:Int)<n.h) (k:Int) (hk:k = -1∨1≤k∧k≤(zGG n h n.h.toNat).length):@zSB (yo1 Tryz.prog zKO) 169 [] (zQC n cs h) k (if k = -1 then zJB n h n.h.toNat else (zJB n h n.h.toNat).take k.toNat) :=
 zSF Tryz.f169 (fun i=>@zVx yo0 n cs h ho hh k hk i) (by omega)
noncomputable instance nwYo:Yo:=yo1 Tryz.prog zKO
theorem zT7 (n:Nw) (cs:List (Int×Int)) (h:Nat) (ho:NwOk n) (hh:(h:Int)<n.h):zFX 169 [] (zQC n cs h) (zJB n h n.h.toNat):=by
 refine ⟨?_,fun j h1 h2=>?_⟩
 ·have:=zYY n cs h ho hh (-1) (.inl rfl)
  rwa [if_pos rfl] at this
 ·have:=zYY n cs h ho hh (j:Int) (.inr ⟨by omega,by simpa using h2⟩)
  rw [if_neg (by omega)] at this
  exact this
end Go.Eng
