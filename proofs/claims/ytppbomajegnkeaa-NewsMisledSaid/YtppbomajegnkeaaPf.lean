/- For all numbers, cries and when the law NewsMisled ends in true: who is misled is left, and in linked towns nobody is left in the end; without conditions. -/
import Derived.Test.YtppbomajegnkeaaPe
import Derived.Test.YtppbomajegnkeaaPd
set_option linter.unusedVariables false
set_option linter.unusedSimpArgs false
set_option linter.unusedSectionVars false
set_option maxRecDepth 10000
set_option maxHeartbeats 4000000
namespace Go.Eng
open Go Go.Proofs
def zIY (h:Int) (x:Int×Int):Bool:=inB x.1 0 (h-1)&&inB x.2 0 (h-1)
def zJW (x:Int×Int):Bool:=decide (x.1≠x.2)
def zCO (h:Int) (l:List (Int×Int)):Int:=if (l.all fun x=>zIY h x)=true then if (l.all fun x=>zJW x)=true then if (l.map pr2).Nodup then 0 else 5 else 8 else 1
def zQY (l:List (Int×Bool)):Bool:=(List.range l.length).all fun i=>inB (l.getD i default).1 (-1) ((i:Int)-1)
def zLU (l:List (Int×Bool)) (i:Nat):Bool:=decide ((l.getD i default).1≠-1)&&(l.take i).any fun y=>decide (y.1=(l.getD i default).1)
def zDU (l:List (Int×Bool)):Int:=if zQY l=true then if (List.range l.length).any (zLU l)=true then 5 else 0 else 1
def zD2 (l:List Int):Bool:=zEE l&&decide ((zFB l).length=l.length)
def zKb (h:Int) (l:List Int):Bool:=l.all fun x=>inB x 0 (h-1)
def zGF (n:Nw):Int :=
 if (!inB n.h 1 10)=true then 2 else if (n.l.length:Int)>15 then 2 else if (!inB n.n.length 1 8)=true then 2 else if (!inB n.s.length 1 6)=true then 2
 else if zCO n.h n.l=0 then
  if zDU n.n=0 then
   if (!n.s.all fun x=>zKb n.h x)=true then 1 else if (!n.s.all fun x=>zD2 x)=true then 4 else 0
  else zDU n.n
 else zCO n.h n.l
theorem zWD {n lo hi:Int} (h:(!inB n lo hi)=false):lo≤n∧n≤hi:=by simpa [inB] using h
abbrev zBE (x:Int×Int):PV×PV:=(prV x,.bool true)
theorem zO4 {M:List (Int×Int)} (x:Int×Int):zDb Try.prog 79 (prV x) (M.map zBE) 0=some (M.findIdx? fun y=>decide (x=y)):=by
 rw [zL9 (kx:=Prod.fst) (ky:=Prod.snd) (fun _=>rfl) (zRP) x.1 x.2 M 0]
 simp [zV7]
theorem zRp {M:List (Int×Int)} {x:Int×Int} (h:x∈M):∃ j,j<M.length∧zDb Try.prog 79 (prV x) (M.map zBE) 0=some (some j):=by
 rw [zO4]
 cases hf:M.findIdx? fun y=>decide (x=y) with
 | none =>
  rw [List.findIdx?_eq_none_iff] at hf
  have:=hf x h;simp at this
 | some j=>exact ⟨j,(List.findIdx?_eq_some_iff_getElem.1 hf).1,rfl⟩
theorem zLg {M:List (Int×Int)} {x:Int×Int} (h:x∉M):zDb Try.prog 79 (prV x) (M.map zBE) 0=some none:=by
 rw [zO4,List.findIdx?_eq_none_iff.2]
 intro y hy
 simp only [decide_eq_false_iff_not]
 intro e;subst e;exact h hy
structure Small (n:Nw):Prop where
 hl:n.l.length<1000000
 hn:n.n.length<1000000
 hs:n.s.length<1000000
 hr:∀ x∈n.s,x.length<1000000
section
variable [Yo]
theorem f98 (n:Nw) (x:Int×Int) (hb:1≤n.h∧n.h≤10):FG 98 [prV x,.ref (nwV n)] (.bool (zIY n.h x)):=by
 refine zAe Try.f98 ?_
 refine zAd 2<|zAa<|zAd 1<|zAc 1<|zAc 1<|S_a [(8,.ret (PV.bool (inB x.fst 0 (n.h-1))) [])] (ap (f69 n x.fst (by omega)) an)<|zAc 1<|zFp 8 (inB x.fst 0 (n.h-1)) (fun k0=>(zAc 1<|zAc 1<|zAc 1<|S_a [(8,.ret (PV.bool (inB x.snd 0 (n.h-1))) [])] (ap (f69 n x.snd (by omega)) an)<|zAc 2<|zAa<|zAn<|E_a [] an (PV.bool (inB x.snd 0 (n.h-1))) [] ?_ rfl)) (fun k0=>(zAc 6<|zAa<|zAn<|E_a [] an (PV.bool false) [] ?_ rfl))
 ·simp only [zIY,k0,Bool.true_and]
 ·simp only [zIY,k0,Bool.false_and]
theorem f99 (x:Int×Int):FG 99 [prV x] (.bool (zJW x)):=by
 refine zAe Try.f99 ?_
 refine zAd 2<|zAa<|zAd 1<|zAc 1<|zAc 1<|zAc 3<|zAa<|zAn<|E_a [] an (PV.bool (x.fst != x.snd)) [] ?_ rfl
 congr 1;rw [Bool.eq_iff_iff];simp [zJW]
theorem f101 (x y:Int×Bool):FG 101 [ntV y,.ref (ntV x)] (.bool (decide (y.1=x.1))):=by
 refine zAe Try.f101 ?_
 refine zAd 2<|zAa<|zAd 6<|zAa<|zAn<|E_a [] an (PV.bool (y.fst==x.fst)) [] rfl rfl
theorem f105_1 (n:Nw) (hb:1≤n.h∧n.h≤10) (x:Int):FG 105 [I x,.ref (.func 69 [nwV n] [])] (.bool (!(inB x 0 (n.h-1)))):=by
 refine zAe Try.f105 ?_
 refine zAd 1<|zAa<|zAd 2<|S_a [(8,.ret (PV.bool (inB x 0 (n.h-1))) [])] (ap (f69 n x (by omega)) an)<|zAc 2<|zAa<|zAn<|E_a [] an (PV.bool !inB x 0 (n.h-1)) [] rfl rfl
theorem f123_1 (n:Nw) (hb:1≤n.h∧n.h≤10) (l:List (Int)) (hl:l.length<4294967296):FG 123 [.sl (l.map I),.func 105 [] [.ref (.func 69 [nwV n] [])]] (I (zD4 (fun x => !(inB x 0 (n.h-1))) l)):=by
 refine zAe Try.f123 ?_
 refine zAd 1<|zAa<|zAh<|zAd 1<|S_a [(0,.n l.length)] (ap (lnS I l) an)<|zAc 1<|zAa<|zAk 0 ?_
 refine zAz (fun i=>i≤l.length∧∀ j,j<i→(fun x => !(inB x 0 (n.h-1))) (l.getD j 0)=false) (fun i=>[(8,I (i:Nat))]) (fun i=>l.length-i) (0:Nat) (by simp) fun i ⟨hi,ha⟩=>?_
 refine zAd 1<|zAa<|zAh<|zDa ((↑i:Int)<(↑l.length:Int)) (fun k0=>(zAl<|zAh<|zAk 1<|zAd 2<|zAa<|zAd 3<|S_a [(2,.v (I (l.getD i 0)))] (ap (zCG (0) (by omega):(List.map I l)[i]? = some (I (l.getD i 0))) an)<|zAc 1<|S_a [(7,.ret (PV.bool !inB (l.getD i 0) 0 (n.h-1)) [])] (ap (f105_1 n (by omega) (l.getD i 0)) an)<|zAa<|zED (!inB (l.getD i 0) 0 (n.h-1)) (fun k1=>(zAd 2<|zAa<|zAn<|E_a [] an (I (↑i:Int)) [] ?_ rfl)) (fun k1=>(zAl<|zAg<|S_a [(1,.v (I (↑(i+1):Int)))] (ap (wrN i) an)<|zAc 1<|zAa ?_)))) (fun k0=>(zAO 0<|zAd 1<|zAa<|zAn<|E_a [] an (I (-1)) [] ?_ rfl))
 ·rw [zBN (i:=i) (by omega) (fun j hj=>by rw [← zAB (d:=0)];exact ha j hj) (by rw [← zAB (d:=0)];first | assumption | exact decide_eq_true ‹_› | (simp only [Bool.not_eq_true',decide_eq_false_iff_not];assumption))]
 ·refine ⟨i+1,⟨by omega,fun j hj=>?_⟩,by omega,by kernel_rfl,by kernel_rfl⟩
  rcases Nat.lt_succ_iff_lt_or_eq.1 hj with h | rfl
  ·exact ha j h
  ·first | assumption | exact decide_eq_false ‹_› | (simp only [Bool.not_eq_false',decide_eq_true_eq];first | assumption | (apply Decidable.of_not_not;assumption))
 ·rw [zB2 fun j hj=>by rw [← zAB (d:=0)];exact ha j (by omega)]
theorem f104_1 (n:Nw) (hb:1≤n.h∧n.h≤10) (l:List (Int)) (hl:l.length<4294967296):FG 104 [.sl (l.map I),.func 105 [] [.ref (.func 69 [nwV n] [])]] (.bool (l.any (fun x => !(inB x 0 (n.h-1))))):=by
 refine zAe Try.f104 ?_
 refine zAd 1<|zAa<|zAd 2<|S_a [(7,.ret (I (zD4 (fun x => !inB x 0 (n.h-1)) l)) [])] (ap (f123_1 n (by omega) l (by omega)) an)<|zAc 2<|zAa<|zAn<|E_a [] an (PV.bool (decide (zD4 (fun x => !inB x 0 (n.h-1)) l≥0))) [] ?_ rfl
 rw [zDB]
theorem f68_1 (n:Nw) (hb:1≤n.h∧n.h≤10) (l:List (Int)) (hl:l.length<4294967296):FG 68 [.sl (l.map I),.func 69 [nwV n] []] (.bool (l.all (fun x=>inB x 0 (n.h-1)))):=by
 refine zAe Try.f68 ?_
 refine zAd 2<|zAa<|zAd 2<|S_a [(12,.ret (PV.bool (l.any fun x => !inB x 0 (n.h-1))) [])] (ap (f104_1 n (by omega) l (by omega)) an)<|zAc 2<|zAa<|zAn<|E_a [] an (PV.bool !l.any fun x => !inB x 0 (n.h-1)) [] ?_ rfl
 simp [List.not_any_eq_all_not]
theorem f120_1 (n:Nw) (hb:1≤n.h∧n.h≤10) (x:Int×Int):FG 120 [prV x,.ref (.func 98 [] [.ref (nwV n)])] (.bool (!(zIY n.h x))):=by
 refine zAe Try.f120 ?_
 refine zAd 2<|zAa<|zAd 2<|S_a [(7,.ret (PV.bool (zIY n.h x)) [])] (ap (f98 n x (by omega)) an)<|zAc 2<|zAa<|zAn<|E_a [] an (PV.bool !zIY n.h x) [] rfl rfl
theorem f109_1 (n:Nw) (hb:1≤n.h∧n.h≤10) (l:List (Int×Int)) (hl:l.length<4294967296):FG 109 [.sl (l.map prV),.func 120 [] [.ref (.func 98 [] [.ref (nwV n)])]] (I (zD4 (fun x => !(zIY n.h x)) l)):=by
 refine zAe Try.f109 ?_
 refine zAd 1<|zAa<|zAh<|zAd 1<|S_a [(0,.n l.length)] (ap (lnS prV l) an)<|zAc 1<|zAa<|zAk 0 ?_
 refine zAz (fun i=>i≤l.length∧∀ j,j<i→(fun x => !(zIY n.h x)) (l.getD j default)=false) (fun i=>[(8,I (i:Nat))]) (fun i=>l.length-i) (0:Nat) (by simp) fun i ⟨hi,ha⟩=>?_
 refine zAd 1<|zAa<|zAh<|zDa ((↑i:Int)<(↑l.length:Int)) (fun k0=>(zAl<|zAh<|zAk 1<|zAd 2<|zAa<|zAd 3<|S_a [(2,.v (PV.agg [I (l.getD i default).fst,I (l.getD i default).snd]))] (ap (zCG default (by omega):(List.map prV l)[i]? = some (PV.agg [I (l.getD i default).fst,I (l.getD i default).snd])) an)<|zAc 1<|S_a [(7,.ret (PV.bool !zIY n.h (l.getD i default)) [])] (ap (f120_1 n (by omega) (l.getD i default)) an)<|zAa<|zED (!zIY n.h (l.getD i default)) (fun k1=>(zAd 2<|zAa<|zAn<|E_a [] an (I (↑i:Int)) [] ?_ rfl)) (fun k1=>(zAl<|zAg<|S_a [(1,.v (I (↑(i+1):Int)))] (ap (wrN i) an)<|zAc 1<|zAa ?_)))) (fun k0=>(zAO 0<|zAd 1<|zAa<|zAn<|E_a [] an (I (-1)) [] ?_ rfl))
 ·rw [zBN (i:=i) (by omega) (fun j hj=>by rw [← zAB (d:=default)];exact ha j hj) (by rw [← zAB (d:=default)];first | assumption | exact decide_eq_true ‹_› | (simp only [Bool.not_eq_true',decide_eq_false_iff_not];assumption))]
 ·refine ⟨i+1,⟨by omega,fun j hj=>?_⟩,by omega,by kernel_rfl,by kernel_rfl⟩
  rcases Nat.lt_succ_iff_lt_or_eq.1 hj with h | rfl
  ·exact ha j h
  ·first | assumption | exact decide_eq_false ‹_› | (simp only [Bool.not_eq_false',decide_eq_true_eq];first | assumption | (apply Decidable.of_not_not;assumption))
 ·rw [zB2 fun j hj=>by rw [← zAB (d:=default)];exact ha j (by omega)]
theorem f80_1 (n:Nw) (hb:1≤n.h∧n.h≤10) (l:List (Int×Int)) (hl:l.length<4294967296):FG 80 [.sl (l.map prV),.func 120 [] [.ref (.func 98 [] [.ref (nwV n)])]] (.bool (l.any (fun x => !(zIY n.h x)))):=by
 refine zAe Try.f80 ?_
 refine zAd 1<|zAa<|zAd 2<|S_a [(7,.ret (I (zD4 (fun x => !zIY n.h x) l)) [])] (ap (f109_1 n (by omega) l (by omega)) an)<|zAc 2<|zAa<|zAn<|E_a [] an (PV.bool (decide (zD4 (fun x => !zIY n.h x) l≥0))) [] ?_ rfl
 rw [zDB]
theorem f97_1 (n:Nw) (hb:1≤n.h∧n.h≤10) (l:List (Int×Int)) (hl:l.length<4294967296):FG 97 [.sl (l.map prV),.func 98 [] [.ref (nwV n)]] (.bool (l.all (fun x=>zIY n.h x))):=by
 refine zAe Try.f97 ?_
 refine zAd 2<|zAa<|zAd 2<|S_a [(12,.ret (PV.bool (l.any fun x => !zIY n.h x)) [])] (ap (f80_1 n (by omega) l (by omega)) an)<|zAc 2<|zAa<|zAn<|E_a [] an (PV.bool !l.any fun x => !zIY n.h x) [] ?_ rfl
 simp [List.not_any_eq_all_not]
theorem f120_2  (x:Int×Int):FG 120 [prV x,.ref (.func 99 [] [])] (.bool (!(zJW x))):=by
 refine zAe Try.f120 ?_
 refine zAd 2<|zAa<|zAd 2<|S_a [(6,.ret (PV.bool (zJW x)) [])] (ap (f99 x) an)<|zAc 2<|zAa<|zAn<|E_a [] an (PV.bool !zJW x) [] rfl rfl
theorem f109_2  (l:List (Int×Int)) (hl:l.length<4294967296):FG 109 [.sl (l.map prV),.func 120 [] [.ref (.func 99 [] [])]] (I (zD4 (fun x => !(zJW x)) l)):=by
 refine zAe Try.f109 ?_
 refine zAd 1<|zAa<|zAh<|zAd 1<|S_a [(0,.n l.length)] (ap (lnS prV l) an)<|zAc 1<|zAa<|zAk 0 ?_
 refine zAz (fun i=>i≤l.length∧∀ j,j<i→(fun x => !(zJW x)) (l.getD j default)=false) (fun i=>[(8,I (i:Nat))]) (fun i=>l.length-i) (0:Nat) (by simp) fun i ⟨hi,ha⟩=>?_
 refine zAd 1<|zAa<|zAh<|zDa ((↑i:Int)<(↑l.length:Int)) (fun k0=>(zAl<|zAh<|zAk 1<|zAd 2<|zAa<|zAd 3<|S_a [(2,.v (PV.agg [I (l.getD i default).fst,I (l.getD i default).snd]))] (ap (zCG default (by omega):(List.map prV l)[i]? = some (PV.agg [I (l.getD i default).fst,I (l.getD i default).snd])) an)<|zAc 1<|S_a [(7,.ret (PV.bool !zJW (l.getD i default)) [])] (ap (f120_2 (l.getD i default)) an)<|zAa<|zED (!zJW (l.getD i default)) (fun k1=>(zAd 2<|zAa<|zAn<|E_a [] an (I (↑i:Int)) [] ?_ rfl)) (fun k1=>(zAl<|zAg<|S_a [(1,.v (I (↑(i+1):Int)))] (ap (wrN i) an)<|zAc 1<|zAa ?_)))) (fun k0=>(zAO 0<|zAd 1<|zAa<|zAn<|E_a [] an (I (-1)) [] ?_ rfl))
 ·rw [zBN (i:=i) (by omega) (fun j hj=>by rw [← zAB (d:=default)];exact ha j hj) (by rw [← zAB (d:=default)];first | assumption | exact decide_eq_true ‹_› | (simp only [Bool.not_eq_true',decide_eq_false_iff_not];assumption))]
 ·refine ⟨i+1,⟨by omega,fun j hj=>?_⟩,by omega,by kernel_rfl,by kernel_rfl⟩
  rcases Nat.lt_succ_iff_lt_or_eq.1 hj with h | rfl
  ·exact ha j h
  ·first | assumption | exact decide_eq_false ‹_› | (simp only [Bool.not_eq_false',decide_eq_true_eq];first | assumption | (apply Decidable.of_not_not;assumption))
 ·rw [zB2 fun j hj=>by rw [← zAB (d:=default)];exact ha j (by omega)]
theorem f80_2  (l:List (Int×Int)) (hl:l.length<4294967296):FG 80 [.sl (l.map prV),.func 120 [] [.ref (.func 99 [] [])]] (.bool (l.any (fun x => !(zJW x)))):=by
 refine zAe Try.f80 ?_
 refine zAd 1<|zAa<|zAd 2<|S_a [(7,.ret (I (zD4 (fun x => !zJW x) l)) [])] (ap (f109_2 l (by omega)) an)<|zAc 2<|zAa<|zAn<|E_a [] an (PV.bool (decide (zD4 (fun x => !zJW x) l≥0))) [] ?_ rfl
 rw [zDB]
theorem f97_2  (l:List (Int×Int)) (hl:l.length<4294967296):FG 97 [.sl (l.map prV),.func 99 [] []] (.bool (l.all (fun x=>zJW x))):=by
 refine zAe Try.f97 ?_
 refine zAd 2<|zAa<|zAd 2<|S_a [(12,.ret (PV.bool (l.any fun x => !zJW x)) [])] (ap (f80_2 l (by omega)) an)<|zAc 2<|zAa<|zAn<|E_a [] an (PV.bool !l.any fun x => !zJW x) [] ?_ rfl
 simp [List.not_any_eq_all_not]
theorem f121_1 (y:Int) (yb:Bool) (l:List (Int×Bool)) (hl:l.length<4294967296):FG 121 [.sl (l.map ntV),.func 101 [] [.ref (.agg [I y,.bool yb])]] (I (zD4 (fun x=>decide (x.1=y)) l)):=by
 refine zAe Try.f121 ?_
 refine zAd 1<|zAa<|zAh<|zAd 1<|S_a [(0,.n l.length)] (ap (lnS ntV l) an)<|zAc 1<|zAa<|zAk 0 ?_
 refine zAz (fun i=>i≤l.length∧∀ j,j<i→(fun x=>decide (x.1=y)) (l.getD j default)=false) (fun i=>[(8,I (i:Nat))]) (fun i=>l.length-i) (0:Nat) (by simp) fun i ⟨hi,ha⟩=>?_
 refine zAd 1<|zAa<|zAh<|zDa ((↑i:Int)<(↑l.length:Int)) (fun k0=>(zAl<|zAh<|zAk 1<|zAd 2<|zAa<|zAd 3<|S_a [(2,.v (PV.agg [I (l.getD i default).fst,PV.bool (l.getD i default).snd]))] (ap (zCG default (by omega):(List.map ntV l)[i]? = some (PV.agg [I (l.getD i default).fst,PV.bool (l.getD i default).snd])) an)<|zAc 1<|S_a [(7,.ret (PV.bool (decide ((l.getD i default).fst=(y,yb).fst))) [])] (ap (f101 ((y,yb)) (l.getD i default)) an)<|zAa<|zDa ((l.getD i default).fst=(y,yb).fst) (fun k1=>(zAd 2<|zAa<|zAn<|E_a [] an (I (↑i:Int)) [] ?_ rfl)) (fun k1=>(zAl<|zAg<|S_a [(1,.v (I (↑(i+1):Int)))] (ap (wrN i) an)<|zAc 1<|zAa ?_)))) (fun k0=>(zAO 0<|zAd 1<|zAa<|zAn<|E_a [] an (I (-1)) [] ?_ rfl))
 ·rw [zBN (i:=i) (by omega) (fun j hj=>by rw [← zAB (d:=default)];exact ha j hj) (by rw [← zAB (d:=default)];first | assumption | exact decide_eq_true ‹_› | (simp only [Bool.not_eq_true',decide_eq_false_iff_not];assumption))]
 ·refine ⟨i+1,⟨by omega,fun j hj=>?_⟩,by omega,by kernel_rfl,by kernel_rfl⟩
  rcases Nat.lt_succ_iff_lt_or_eq.1 hj with h | rfl
  ·exact ha j h
  ·first | assumption | exact decide_eq_false ‹_› | (simp only [Bool.not_eq_false',decide_eq_true_eq];first | assumption | (apply Decidable.of_not_not;assumption))
 ·rw [zB2 fun j hj=>by rw [← zAB (d:=default)];exact ha j (by omega)]
theorem f100_1 (y:Int) (yb:Bool) (l:List (Int×Bool)) (hl:l.length<4294967296):FG 100 [.sl (l.map ntV),.func 101 [] [.ref (.agg [I y,.bool yb])]] (.bool (l.any (fun x=>decide (x.1=y)))):=by
 refine zAe Try.f100 ?_
 refine zAd 1<|zAa<|zAd 2<|S_a [(7,.ret (I (zD4 (fun x=>decide (x.fst=y)) l)) [])] (ap (f121_1 y yb l (by omega)) an)<|zAc 2<|zAa<|zAn<|E_a [] an (PV.bool (decide (zD4 (fun x=>decide (x.fst=y)) l≥0))) [] ?_ rfl
 rw [zDB]
theorem f64 (n:Nw) (hb:1≤n.h∧n.h≤10) (hl:n.l.length≤15):FG 64 [nwV n] (I (zCO n.h n.l)):=by
 refine zAe Try.f64 ?_
 refine zAd 2<|zAa<|zAh<|zAk 0<|zAd 3<|S_a [(13,.ret (PV.bool (n.l.all fun x=>zIY n.h x)) [])] (ap (f97_1 n (by omega) n.l (by omega)) an)<|zAc 2<|zAa<|zED (!n.l.all fun x=>zIY n.h x) (fun k0=>(zAd 1<|zAa<|zAn<|E_a [] an (I 1) [] ?_ rfl)) (fun k0=>(zAd 2<|S_a [(7,.ret (PV.bool (n.l.all fun x=>zJW x)) [])] (ap (f97_2 n.l (by omega)) an)<|zAc 2<|zAa<|zED (!n.l.all fun x=>zJW x) (fun k1=>(zAd 1<|zAa<|zAn<|E_a [] an (I 8) [] ?_ rfl)) (fun k1=>(zAl<|zAd 2<|zAa<|zAh<|zAd 2<|S_a [(0,.n n.l.length)] (ap (lnS prV n.l) an)<|zAc 1<|zAa<|zAk 1 ?_))))
 ·rw [Bool.not_eq_true'] at k0
  simp [zCO,k0]
 ·rw [Bool.not_eq_false'] at k0
  rw [Bool.not_eq_true'] at k1
  simp [zCO,k0,k1]
 ·refine zAz (fun (i,M)=>i≤n.l.length∧M=(n.l.take i).map pr2∧M.Nodup) (fun (i,M)=>[(3,.omap (M.map zBE)),(21,I (i:Nat))]) (fun (i,_)=>n.l.length-i) ((0:Nat),([]:List (Int×Int))) ⟨Nat.zero_le _,rfl,List.nodup_nil⟩ fun (i,M) ⟨hi,hM,hN⟩=>?_
  by_cases yR:i<n.l.length
  ·have yw:(n.l.take (i+1)).map pr2=M++[pr2 (n.l.getD i default)]:=by rw [zDm (d:=default) yR,List.map_append,← hM];rfl
   by_cases hin:pr2 (n.l.getD i default)∈M
   ·obtain ⟨j,hj,jI⟩:=zRp hin
    have kD:zIL (M.map zBE) j=some (.bool true):=by simp [zIL,hj]
    refine zAd 1<|zAa<|zAh<|zA5 ((↑i:Int)<(↑n.l.length:Int)) (by omega)<|zAl<|zAh<|zAk 2<|zAh<|zAg<|S_a [(2,.v (PV.agg [I (n.l.getD i default).fst,I (n.l.getD i default).snd]))] (ap (zCG default (by omega):(List.map prV n.l)[i]? = some (PV.agg [I (n.l.getD i default).fst,I (n.l.getD i default).snd])) an)<|zAc 3<|zAa<|zAh<|zAd 2<|S_a [(6,.ret (prV (pr2 (n.l.getD i default))) [])] (ap (f93 (n.l.getD i default)) an)<|S_a [(3,.ix (some j)),(0,.v (PV.bool true))] (ap jI<|ap (kD:zIL (List.map zBE M) j=some (PV.bool true)) an)<|zAa<|zEb<|zAd 1<|zAa<|zAn<|E_a [] an (I 5) [] ?_ rfl
    rw [Bool.not_eq_false'] at k0 k1
    have yV:¬ (n.l.map pr2).Nodup:=fun h=>by
     rw [← List.take_append_drop (i+1) n.l,List.map_append,yw] at h
     have h2:=(List.nodup_append.1 h).1
     have h3:=(List.nodup_append.1 h2).2.2
     exact h3 _ hin _ (List.mem_singleton.2 rfl) rfl
    simp only [zCO,k0,k1,yV,if_true,if_false]
   ·have jI:=zLg hin
    refine zAd 1<|zAa<|zAh<|zA5 ((↑i:Int)<(↑n.l.length:Int)) (by omega)<|zAl<|zAh<|zAk 2<|zAh<|zAg<|S_a [(2,.v (PV.agg [I (n.l.getD i default).fst,I (n.l.getD i default).snd]))] (ap (zCG default (by omega):(List.map prV n.l)[i]? = some (PV.agg [I (n.l.getD i default).fst,I (n.l.getD i default).snd])) an)<|zAc 3<|zAa<|zAh<|zAd 2<|S_a [(6,.ret (prV (pr2 (n.l.getD i default))) [])] (ap (f93 (n.l.getD i default)) an)<|S_a [(3,.ix none)] (ap jI an)<|zAa<|zAN<|zAl<|zAg<|zAc 2<|S_a [(6,.ret (prV (pr2 (n.l.getD i default))) [])] (ap (f93 (n.l.getD i default)) an)<|S_a [(4,.ix none),(0,.v (PV.omap (List.map zBE (M++[pr2 (n.l.getD i default)]))))] (ap jI<|ap ((by simp):PV.omap (List.map zBE M++[(PV.agg [I (pr2 (n.l.getD i default)).fst,I (pr2 (n.l.getD i default)).snd],PV.bool true)])=PV.omap (List.map zBE (M++[pr2 (n.l.getD i default)]))) an)<|zAa<|zAg<|S_a [(1,.v (I (↑(i+1):Int)))] (ap (wrN i) an)<|zAc 1<|zAa ?_
    refine ⟨(i+1,M++[pr2 (n.l.getD i default)]),⟨by omega,yw.symm,?_⟩,by simp only;omega,by kernel_rfl,by kernel_rfl⟩
    rw [List.nodup_append]
    refine ⟨hN,by simp,fun a ha b hb=>?_⟩
    rw [List.mem_singleton] at hb;subst hb
    intro e;subst e;exact hin ha
  ·refine zAd 1<|zAa<|zAh<|zBd ((↑i:Int)<(↑n.l.length:Int)) (by omega)<|zAO 1<|zAd 1<|zAa<|zAn<|E_a [] an (I 0) [] ?_ rfl
   rw [Bool.not_eq_false'] at k0 k1
   rw [List.take_of_length_le (by omega)] at hM
   rw [hM] at hN
   simp only [zCO,k0,k1,hN,if_true]
theorem f65 (n:Nw) (hl:n.n.length≤8):FG 65 [nwV n] (I (zDU n.n)):=by
 refine zAe Try.f65 ?_
 refine zAd 2<|zAa<|zAh<|zAd 2<|S_a [(0,.n n.n.length)] (ap (lnS ntV n.n) an)<|zAc 1<|zAa<|zAk 0 ?_
 refine zAz (fun i=>i≤n.n.length∧∀ j,j<i→inB (n.n.getD j default).1 (-1) ((j:Int)-1)=true) (fun i=>[(10,I (i:Nat))]) (fun i=>n.n.length-i) (0:Nat) ⟨Nat.zero_le _,fun j h=>absurd h (Nat.not_lt_zero _)⟩ fun i ⟨hi,ha⟩=>?_
 refine zAd 1<|zAa<|zAh<|zDa ((↑i:Int)<(↑n.n.length:Int)) (fun k0=>(zAl<|zAh<|zAk 1<|zAd 1<|S_a [(2,.v (PV.agg [I (n.n.getD i default).fst,PV.bool (n.n.getD i default).snd]))] (ap (zCG default (by omega):(List.map ntV n.n)[i]? = some (PV.agg [I (n.n.getD i default).fst,PV.bool (n.n.getD i default).snd])) an)<|zAc 4<|zAa<|zAd 3<|S_a [(1,.v (I ((↑i:Int)-1)))] (ap ((zCq rfl (by omega)):I (IntKind.i64.wrap ((↑i:Int)-1))=I ((↑i:Int)-1)) an)<|S_a [(10,.ret (PV.bool (inB (n.n.getD i default).fst (-1) ((↑i:Int)-1))) [])] (ap (f63 ((n.n.getD i default).fst) (-1) ((↑i:Int)-1)) an)<|zAc 1<|zAa<|zED (!inB (n.n.getD i default).fst (-1) ((↑i:Int)-1)) (fun k1=>(zAd 1<|zAa<|zAn<|E_a [] an (I 1) [] ?_ rfl)) (fun k1=>(zAl<|zAg<|S_a [(1,.v (I (↑(i+1):Int)))] (ap (wrN i) an)<|zAc 1<|zAa ?_)))) (fun k0=>(zAO 0<|zAh<|zAd 2<|S_a [(0,.n n.n.length)] (ap (lnS ntV n.n) an)<|zAc 1<|zAa<|zAk 2 ?_))
 ·rw [Bool.not_eq_true'] at k1
  have:zQY n.n=false:=by
   simp only [zQY,List.all_eq_false]
   exact ⟨i,List.mem_range.2 (by omega),by simpa using k1⟩
  simp [zDU,this]
 ·rw [Bool.not_eq_false'] at k1
  refine ⟨i+1,⟨by omega,fun j hj=>?_⟩,by omega,by kernel_rfl,by kernel_rfl⟩
  rcases Nat.lt_succ_iff_lt_or_eq.1 hj with h | rfl
  ·exact ha j h
  ·exact k1
 ·have hin:zQY n.n=true:=by
   simp only [zQY,List.all_eq_true,List.mem_range]
   exact fun j hj=>ha j (by omega)
  clear ha
  refine zAz (fun i=>i≤n.n.length∧∀ j,j<i→zLU n.n j=false) (fun i=>[(25,I (i:Nat))]) (fun i=>n.n.length-i) (0:Nat) ⟨Nat.zero_le _,fun j h=>absurd h (Nat.not_lt_zero _)⟩ fun k ⟨hk,hb⟩=>?_
  have yw:zLU n.n k=false→∀ j,j<k+1→zLU n.n j=false:=fun h j hj=>by
   rcases Nat.lt_succ_iff_lt_or_eq.1 hj with h2 | rfl
   ·exact hb j h2
   ·exact h
  refine zAd 1<|zAa<|zAh<|zDa ((↑k:Int)<(↑n.n.length:Int)) (fun k2=>(zAl<|zAh<|zAk 3<|zAd 1<|S_a [(2,.v (PV.agg [I (n.n.getD k default).fst,PV.bool (n.n.getD k default).snd]))] (ap (zCG default (by omega):(List.map ntV n.n)[k]? = some (PV.agg [I (n.n.getD k default).fst,PV.bool (n.n.getD k default).snd])) an)<|zAc 4<|zAa<|zAd 4<|zWx 33 ((n.n.getD k default).fst = -1) (fun k3=>(zAc 3<|S_a [(3,.ob),(0,.ob),(0,.v (PV.sl (List.map ntV (List.take k n.n))))] (ap ((by exact zBb (by simp only [List.length_map,zzLn,zAY]<;>omega)):k.ble (List.map ntV n.n).length=true)<|ap ((by exact all_map _):((List.map ntV n.n).all fun x=>x.cells.length.beq ((fun x=>x.size) Try.prog.types[54]))=true)<|ap ((by simp):PV.sl (List.take k (List.drop 0 (List.map ntV n.n)))=PV.sl (List.map ntV (List.take k n.n))) an)<|zAc 1<|S_a [(13,.ret (PV.bool ((List.take k n.n).any fun x=>decide (x.fst=(n.n.getD k default).fst))) [])] (ap (f100_1 ((n.n.getD k default).fst) ((n.n.getD k default).snd) (List.take k n.n) (by first | omega | (simp<;>omega))) an)<|zAc 1<|zAa<|zED ((List.take k n.n).any fun x=>decide (x.fst=(n.n.getD k default).fst)) (fun k4=>(zAd 1<|zAa<|zAn<|E_a [] an (I 5) [] ?_ rfl)) (fun k4=>(zAl<|zAg<|S_a [(1,.v (I (↑(k+1):Int)))] (ap (wrN k) an)<|zAc 1<|zAa ?_)))) (fun k3=>(zAc 7<|zAa<|zAN<|zAl<|zAg<|S_a [(1,.v (I (↑(k+1):Int)))] (ap (wrN k) an)<|zAc 1<|zAa ?_)))) (fun k2=>(zAO 2<|zAd 1<|zAa<|zAn<|E_a [] an (I 0) [] ?_ rfl))
  ·have h1:zLU n.n k=true:=by
    have k4:((n.n.take k).any fun y=>decide (y.1=(n.n.getD k default).1))=true:=k4
    simp only [zLU,k4,Bool.and_true,decide_eq_true_eq];assumption
   have:(List.range n.n.length).any (zLU n.n)=true:=List.any_eq_true.2 ⟨k,List.mem_range.2 (by omega),h1⟩
   simp only [zDU,hin,this,if_true]
  ·have h1:zLU n.n k=false:=by
    have k4:((n.n.take k).any fun y=>decide (y.1=(n.n.getD k default).1))=false:=k4
    simp only [zLU,k4,Bool.and_false]
   exact ⟨k+1,⟨by omega,yw h1⟩,by omega,by kernel_rfl,by kernel_rfl⟩
  ·have h1:zLU n.n k=false:=by
    simp only [zLU,Bool.and_eq_false_iff,decide_eq_false_iff_not]
    exact .inl (by simpa using k3)
   exact ⟨k+1,⟨by omega,yw h1⟩,by omega,by kernel_rfl,by kernel_rfl⟩
  ·have:(List.range n.n.length).any (zLU n.n)=false:=by
    simp only [List.any_eq_false,List.mem_range,Bool.not_eq_true]
    exact fun j hj=>hb j (by omega)
   simp only [zDU,hin,this,if_true];rfl
theorem f67 (n:Nw) (l:List Int) (hb:1≤n.h∧n.h≤10) (hl:l.length<1000000):FG 67 [zBi l,.ref (nwV n)] (.bool (zKb n.h l)):=by
 refine zAe Try.f67 ?_
 refine zAd 1<|zAa<|zAd 3<|S_a [(7,.ret (PV.bool (l.all fun x=>inB x 0 (n.h-1))) [])] (ap (f68_1 n (by omega) l (by omega)) an)<|zAc 1<|zAa<|zAn<|E_a [] an (PV.bool (l.all fun x=>inB x 0 (n.h-1))) [] rfl rfl
theorem f70 (l:List Int) (hl:l.length<1000000):FG 70 [zBi l] (.bool (zD2 l)):=by
 refine zAe Try.f70 ?_
 refine zAd 1<|zAa<|zAd 1<|S_a [(6,.ret (PV.bool (zEE l)) [])] (ap (f17 l (by omega)) an)<|zAc 1<|zFp 5 (zEE l) (fun k0=>(zAc 1<|S_a [(6,.ret (PV.own 1 (List.map I l)) [])] (ap (f71 l (by omega)) an)<|S_a [(3,.ob),(1,.v (PV.own 1 (List.map I l))),(2,.ret (PV.own 1 (List.map I (zFB l))) [])] (ap ((by exact zBb (by simp only [List.length_map,zzLn,zAY]<;>omega)):(List.map I l).length.ble (List.map I l).length=true)<|ap ((zA8 zBx):PV.own 1 (List.take (List.map I l).length (List.drop 0 (List.map I l)))=PV.own 1 (List.map I l))<|ap (f54 l (by omega)) an)<|S_a [(0,.n ((zFB l).length))] (ap (lnS I (zFB l)) an)<|zAc 1<|S_a [(0,.n l.length)] (ap (lnS I l) an)<|zAc 3<|zAa<|zAn<|E_a [] an (PV.bool ((↑(zFB l).length:Int)==(↑l.length:Int))) [] ?_ rfl)) (fun k0=>(zAc 9<|zAa<|zAn<|E_a [] an (PV.bool false) [] ?_ rfl))
 ·simp only [zD2,k0,Bool.true_and];congr 1;rw [Bool.eq_iff_iff];simp;omega
 ·simp only [zD2,k0,Bool.false_and]
theorem f103_1 (n:Nw) (hb:1≤n.h∧n.h≤10) (x:List Int) (hx:x.length<1000000):FG 103 [zBi x,.ref (.func 67 [] [.ref (nwV n)])] (.bool (!(zKb n.h x))):=by
 refine zAe Try.f103 ?_
 refine zAd 1<|zAa<|zAd 2<|S_a [(7,.ret (PV.bool (zKb n.h x)) [])] (ap (f67 n x (by omega) (by omega)) an)<|zAc 2<|zAa<|zAn<|E_a [] an (PV.bool !zKb n.h x) [] rfl rfl
theorem f122_1 (n:Nw) (hb:1≤n.h∧n.h≤10) (l:List (List Int)) (hl:l.length<4294967296) (hr:∀ x∈l,x.length<1000000):FG 122 [.sl (l.map zBi),.func 103 [] [.ref (.func 67 [] [.ref (nwV n)])]] (I (zD4 (fun x => !(zKb n.h x)) l)):=by
 refine zAe Try.f122 ?_
 refine zAd 1<|zAa<|zAh<|zAd 1<|S_a [(0,.n l.length)] (ap (lnS zBi l) an)<|zAc 1<|zAa<|zAk 0 ?_
 refine zAz (fun i=>i≤l.length∧∀ j,j<i→(fun x => !(zKb n.h x)) (l.getD j [])=false) (fun i=>[(8,I (i:Nat))]) (fun i=>l.length-i) (0:Nat) (by simp) fun i ⟨hi,ha⟩=>?_
 by_cases yR:i<l.length
 ·have gv:=zCp (d:=[]) hr i yR
  refine zAd 1<|zAa<|zAh<|zA5 ((↑i:Int)<(↑l.length:Int)) (by omega)<|zAl<|zAh<|zAk 1<|zAd 2<|zAa<|zAd 3<|S_a [(2,.v (zBi (l.getD i [])))] (ap (zCG [] (by omega):(List.map zBi l)[i]? = some (zBi (l.getD i []))) an)<|zAc 1<|S_a [(7,.ret (PV.bool !zKb n.h (l.getD i [])) [])] (ap (f103_1 n (by omega) (l.getD i []) (by omega)) an)<|zAa<|zED (!zKb n.h (l.getD i [])) (fun k0=>(zAd 2<|zAa<|zAn<|E_a [] an (I (↑i:Int)) [] ?_ rfl)) (fun k0=>(zAl<|zAg<|S_a [(1,.v (I (↑(i+1):Int)))] (ap (wrN i) an)<|zAc 1<|zAa ?_))
  ·rw [zBN (i:=i) yR (fun j hj=>by rw [← zAB (d:=[])];exact ha j hj) (by rw [← zAB (d:=[])];first | assumption | exact decide_eq_true ‹_›)]
  ·refine ⟨i+1,⟨by omega,fun j hj=>?_⟩,by omega,by kernel_rfl,by kernel_rfl⟩
   rcases Nat.lt_succ_iff_lt_or_eq.1 hj with h | rfl
   ·exact ha j h
   ·first | assumption | exact decide_eq_false ‹_› | (simp only [Bool.not_eq_false',decide_eq_true_eq];assumption)
 ·refine zAd 1<|zAa<|zAh<|zBd ((↑i:Int)<(↑l.length:Int)) (by omega)<|zAO 0<|zAd 1<|zAa<|zAn<|E_a [] an (I (-1)) [] ?_ rfl
  rw [zB2 fun j hj=>by rw [← zAB (d:=[])];exact ha j (by omega)]
theorem f102_1 (n:Nw) (hb:1≤n.h∧n.h≤10) (l:List (List Int)) (hl:l.length<4294967296) (hr:∀ x∈l,x.length<1000000):FG 102 [.sl (l.map zBi),.func 103 [] [.ref (.func 67 [] [.ref (nwV n)])]] (.bool (l.any (fun x => !(zKb n.h x)))):=by
 refine zAe Try.f102 ?_
 refine zAd 1<|zAa<|zAd 2<|S_a [(7,.ret (I (zD4 (fun x => !zKb n.h x) l)) [])] (ap (f122_1 n (by omega) l (by omega) (by omega)) an)<|zAc 2<|zAa<|zAn<|E_a [] an (PV.bool (decide (zD4 (fun x => !zKb n.h x) l≥0))) [] ?_ rfl
 rw [zDB]
theorem f66_1 (n:Nw) (hb:1≤n.h∧n.h≤10) (l:List (List Int)) (hl:l.length<4294967296) (hr:∀ x∈l,x.length<1000000):FG 66 [.sl (l.map zBi),.func 67 [] [.ref (nwV n)]] (.bool (l.all (fun x=>zKb n.h x))):=by
 refine zAe Try.f66 ?_
 refine zAd 2<|zAa<|zAd 2<|S_a [(12,.ret (PV.bool (l.any fun x => !zKb n.h x)) [])] (ap (f102_1 n (by omega) l (by omega) (by omega)) an)<|zAc 2<|zAa<|zAn<|E_a [] an (PV.bool !l.any fun x => !zKb n.h x) [] ?_ rfl
 simp [List.not_any_eq_all_not]
theorem f103_2  (x:List Int) (hx:x.length<1000000):FG 103 [zBi x,.ref (.func 70 [] [])] (.bool (!(zD2 x))):=by
 refine zAe Try.f103 ?_
 refine zAd 1<|zAa<|zAd 2<|S_a [(6,.ret (PV.bool (zD2 x)) [])] (ap (f70 x (by omega)) an)<|zAc 2<|zAa<|zAn<|E_a [] an (PV.bool !zD2 x) [] rfl rfl
theorem f122_2  (l:List (List Int)) (hl:l.length<4294967296) (hr:∀ x∈l,x.length<1000000):FG 122 [.sl (l.map zBi),.func 103 [] [.ref (.func 70 [] [])]] (I (zD4 (fun x => !(zD2 x)) l)):=by
 refine zAe Try.f122 ?_
 refine zAd 1<|zAa<|zAh<|zAd 1<|S_a [(0,.n l.length)] (ap (lnS zBi l) an)<|zAc 1<|zAa<|zAk 0 ?_
 refine zAz (fun i=>i≤l.length∧∀ j,j<i→(fun x => !(zD2 x)) (l.getD j [])=false) (fun i=>[(8,I (i:Nat))]) (fun i=>l.length-i) (0:Nat) (by simp) fun i ⟨hi,ha⟩=>?_
 by_cases yR:i<l.length
 ·have gv:=zCp (d:=[]) hr i yR
  refine zAd 1<|zAa<|zAh<|zA5 ((↑i:Int)<(↑l.length:Int)) (by omega)<|zAl<|zAh<|zAk 1<|zAd 2<|zAa<|zAd 3<|S_a [(2,.v (zBi (l.getD i [])))] (ap (zCG [] (by omega):(List.map zBi l)[i]? = some (zBi (l.getD i []))) an)<|zAc 1<|S_a [(7,.ret (PV.bool !zD2 (l.getD i [])) [])] (ap (f103_2 (l.getD i []) (by omega)) an)<|zAa<|zED (!zD2 (l.getD i [])) (fun k0=>(zAd 2<|zAa<|zAn<|E_a [] an (I (↑i:Int)) [] ?_ rfl)) (fun k0=>(zAl<|zAg<|S_a [(1,.v (I (↑(i+1):Int)))] (ap (wrN i) an)<|zAc 1<|zAa ?_))
  ·rw [zBN (i:=i) yR (fun j hj=>by rw [← zAB (d:=[])];exact ha j hj) (by rw [← zAB (d:=[])];first | assumption | exact decide_eq_true ‹_›)]
  ·refine ⟨i+1,⟨by omega,fun j hj=>?_⟩,by omega,by kernel_rfl,by kernel_rfl⟩
   rcases Nat.lt_succ_iff_lt_or_eq.1 hj with h | rfl
   ·exact ha j h
   ·first | assumption | exact decide_eq_false ‹_› | (simp only [Bool.not_eq_false',decide_eq_true_eq];assumption)
 ·refine zAd 1<|zAa<|zAh<|zBd ((↑i:Int)<(↑l.length:Int)) (by omega)<|zAO 0<|zAd 1<|zAa<|zAn<|E_a [] an (I (-1)) [] ?_ rfl
  rw [zB2 fun j hj=>by rw [← zAB (d:=[])];exact ha j (by omega)]
theorem f102_2  (l:List (List Int)) (hl:l.length<4294967296) (hr:∀ x∈l,x.length<1000000):FG 102 [.sl (l.map zBi),.func 103 [] [.ref (.func 70 [] [])]] (.bool (l.any (fun x => !(zD2 x)))):=by
 refine zAe Try.f102 ?_
 refine zAd 1<|zAa<|zAd 2<|S_a [(7,.ret (I (zD4 (fun x => !zD2 x) l)) [])] (ap (f122_2 l (by omega) (by omega)) an)<|zAc 2<|zAa<|zAn<|E_a [] an (PV.bool (decide (zD4 (fun x => !zD2 x) l≥0))) [] ?_ rfl
 rw [zDB]
theorem f66_2  (l:List (List Int)) (hl:l.length<4294967296) (hr:∀ x∈l,x.length<1000000):FG 66 [.sl (l.map zBi),.func 70 [] []] (.bool (l.all (fun x=>zD2 x))):=by
 refine zAe Try.f66 ?_
 refine zAd 2<|zAa<|zAd 2<|S_a [(12,.ret (PV.bool (l.any fun x => !zD2 x)) [])] (ap (f102_2 l (by omega) (by omega)) an)<|zAc 2<|zAa<|zAn<|E_a [] an (PV.bool !l.any fun x => !zD2 x) [] ?_ rfl
 simp [List.not_any_eq_all_not]
theorem f29 (n:Nw) (hs:Small n):FG 29 [nwV n] (I (zGF n)):=by
 refine zAe Try.f29 ?_
 have h1:=hs.hl
 have h2:=hs.hn
 have h3:=hs.hs
 have h4:=hs.hr
 refine zAd 2<|zAa<|zAh<|zAd 2<|S_a [(10,.ret (PV.bool (inB n.h 1 10)) [])] (ap (f63 n.h (1) (10)) an)<|zAc 2<|zFp 9 (!inB n.h 1 10) (fun k0=>(zAc 19<|zAa<|zEb<|zAd 1<|zAa<|zAn<|E_a [] an (I 2) [] ?_ rfl)) (fun k0=>(zAc 2<|S_a [(0,.n n.l.length)] (ap (lnS prV n.l) an)<|zAc 3<|zIR 15 ((↑n.l.length:Int)>15) (fun k1=>(zAc 13<|zAa<|zEb<|zAd 1<|zAa<|zAn<|E_a [] an (I 2) [] ?_ rfl)) (fun k1=>(zAc 2<|S_a [(0,.n n.n.length)] (ap (lnS ntV n.n) an)<|S_a [(10,.ret (PV.bool (inB (↑n.n.length:Int) 1 8)) [])] (ap (f63 ((↑n.n.length:Int)) (1) (8)) an)<|zAc 3<|zFp 22 (!inB (↑n.n.length:Int) 1 8) (fun k2=>(zAc 6<|zAa<|zEb<|zAd 1<|zAa<|zAn<|E_a [] an (I 2) [] ?_ rfl)) (fun k2=>(zAc 2<|S_a [(0,.n n.s.length)] (ap (lnS zBi n.s) an)<|S_a [(10,.ret (PV.bool (inB (↑n.s.length:Int) 1 6)) [])] (ap (f63 ((↑n.s.length:Int)) (1) (6)) an)<|zAc 2<|zAa<|zED (!inB (↑n.s.length:Int) 1 6) (fun k3=>(zAd 1<|zAa<|zAn<|E_a [] an (I 2) [] ?_ rfl)) (fun k3=>(zAl<|zAh<|zAd 1<|S_a [(6,.ret (I (zCO n.h n.l)) [])] (ap (f64 n ?_ (by first | omega | (simp<;>omega))) an)<|zAc 1<|zAa<|zAd 2<|zAa<|zD9 (zCO n.h n.l=0) (fun k4=>(zAd 2<|zAa<|zAn<|E_a [] an (I (zCO n.h n.l)) [] ?_ rfl)) (fun k4=>(zAl<|zAh<|zAd 1<|S_a [(6,.ret (I (zDU n.n)) [])] (ap (f65 n ?_) an)<|zAc 1<|zAa<|zAd 2<|zAa<|zD9 (zDU n.n=0) (fun k5=>(zAd 2<|zAa<|zAn<|E_a [] an (I (zDU n.n)) [] ?_ rfl)) (fun k5=>(zAl<|zAh<|zAk 0<|zAd 3<|S_a [(13,.ret (PV.bool (n.s.all fun x=>zKb n.h x)) [])] (ap (f66_1 n ?_ n.s (by omega) (by omega)) an)<|zAc 2<|zAa<|zED (!n.s.all fun x=>zKb n.h x) (fun k6=>(zAd 1<|zAa<|zAn<|E_a [] an (I 1) [] ?_ rfl)) (fun k6=>(zAd 2<|S_a [(7,.ret (PV.bool (n.s.all fun x=>zD2 x)) [])] (ap (f66_2 n.s (by omega) (by omega)) an)<|zAc 2<|zAa<|zED (!n.s.all fun x=>zD2 x) (fun k7=>(zAd 1<|zAa<|zAn<|E_a [] an (I 4) [] ?_ rfl)) (fun k7=>(zAl<|zAd 1<|zAa<|zAn<|E_a [] an (I 0) [] ?_ rfl))))))))))))))))
 all_goals first | exact zWD k0 | (have:=zWD k2;omega) | (simp [zGF, *];done)
end
end Go.Eng
set_option maxRecDepth 10000
set_option maxHeartbeats 4000000
namespace Go.Eng
open Go Go.Proofs
theorem zSq {l:List Int}:∀ k,k≤l.length→(zFB (l.take k)).length≤k∧((∃ j,1≤j∧j<k∧l.getD j 0=l.getD (j-1) 0)→(zFB (l.take k)).length<k)
 | 0,_=>⟨by simp [zFB],fun ⟨j,h1,h2,_⟩=>by omega⟩
 | k + 1,hk=>by
  obtain ⟨h1,h2⟩:=zSq (l:=l) k (by omega)
  cases k with
  | zero =>
   rw [zGM (show 0<l.length by omega)]
   exact ⟨by simp [zFB,zOL],fun ⟨j,h1,h2,_⟩=>by omega⟩
  | succ k =>
   rw [zG6 (by omega) (by omega)]
   split
   ·exact ⟨by omega,fun _=>by omega⟩
   ·rename_i hI
    refine ⟨by rw [List.length_append];simp;omega,fun ⟨j,g1,g2,g3⟩=>?_⟩
    have hj:j<k+1:=by
     by_cases h:j=k+1
     ·subst h;exact absurd g3 hI
     ·omega
    have:=h2 ⟨j,g1,hj,g3⟩
    rw [List.length_append];simp;omega
theorem zRz {l:List Int} (h:zEE l=true) (j:Nat) (hj:j+1<l.length):l.getD j 0≤l.getD (j+1) 0:=by
 simp only [zEE,List.all_eq_true,List.mem_range,decide_eq_true_eq] at h
 exact h j (by omega)
theorem zKJ {l:List Int}:zD2 l=zSb l:=by
 rw [Bool.eq_iff_iff]
 constructor
 ·intro h
  simp only [zD2,Bool.and_eq_true,decide_eq_true_eq] at h
  simp only [zSb,List.all_eq_true,List.mem_range,decide_eq_true_eq]
  intro j hj
  have h1:=zRz h.1 j (by omega)
  have h2:=(zSq (l:=l) l.length (Nat.le_refl _)).2
  rw [List.take_length] at h2
  by_cases he:l.getD (j+1) 0=l.getD j 0
  ·have:=h2 ⟨j+1,by omega,by omega,by simpa using he⟩
   omega
  ·omega
 ·intro h
  simp only [zSb,List.all_eq_true,List.mem_range,decide_eq_true_eq] at h
  simp only [zD2,zEE,Bool.and_eq_true,decide_eq_true_eq,List.all_eq_true,List.mem_range]
  refine ⟨fun j hj=>by have:=h j hj;omega,?_⟩
  have:=zGQ (l:=l) l.length (Nat.le_refl _) fun j h1 h2=>by
   have:=h (j-1) (by omega)
   rw [show j-1+1=j by omega] at this
   omega
  rw [List.take_length] at this
  rw [this]
structure NwOk (n:Nw):Prop where
 err:zGF n=0
 h:1≤n.h∧n.h≤10
 ll:n.l.length≤15
 nl:1≤n.n.length∧n.n.length≤8
 sl:1≤n.s.length∧n.s.length≤6
 lr:∀ x∈n.l,(0≤x.1∧x.1<n.h)∧(0≤x.2∧x.2<n.h)
 lne:∀ x∈n.l,x.1≠x.2
 ld:(n.l.map pr2).Nodup
 na:∀ i,i<n.n.length→-1≤(n.n.getD i default).1∧(n.n.getD i default).1<i
 nd:∀ i k,k<i→i<n.n.length→(n.n.getD i default).1≠-1→(n.n.getD k default).1≠(n.n.getD i default).1
 sr:∀ l∈n.s,∀ x∈l,0≤x∧x<n.h
 ss:∀ l∈n.s,zSb l=true
theorem zQd {l:List Int} (h:zSb l=true):∀ i j,i<j→j<l.length→l.getD i 0<l.getD j 0:=by
 simp only [zSb,List.all_eq_true,List.mem_range,decide_eq_true_eq] at h
 intro i j hij hj
 induction j with
 | zero=>omega
 | succ j ih =>
  have h1:=h j (by omega)
  by_cases he:i=j
  ·subst he;exact h1
  ·have:=ih (by omega) (by omega);omega
theorem zTA {l:List Int} (h:zSb l=true) {B:Int} (hb:∀ x∈l,0≤x∧x<B):(l.length:Int)≤B∨l.length=0:=by
 by_cases h0:l.length=0
 ·exact .inr h0
 ·left
  have key:∀ j,j<l.length→(j:Int)≤l.getD j 0:=by
   intro j
   induction j with
   | zero=>intro hj;exact (zCp hb 0 hj).1
   | succ j ih =>
    intro hj
    have h1:=ih (by omega)
    have h2:=zQd h j (j+1) (by omega) hj
    omega
  have h1:=key (l.length-1) (by omega)
  have h2:=(zCp (d:=(0:Int)) hb (l.length-1) (by omega)).2
  omega
theorem NwOk.rows {n:Nw} (ho:NwOk n):∀ l∈n.s,l.length≤10:=fun l hl=>by
 have h1:=zTA (ho.ss l hl) (ho.sr l hl)
 have:=ho.h
 omega
theorem NwOk.small {n:Nw} (ho:NwOk n):Small n:=⟨by have:=ho.ll;omega,by have:=ho.nl;omega,by have:=ho.sl;omega,fun l hl=>by have:=ho.rows l hl;omega⟩
theorem zFG {n lo hi:Int} (h:inB n lo hi=true):lo≤n∧n≤hi:=by simpa [inB] using h
theorem zP1 {h:Int} {l:List (Int×Int)} (he:zCO h l=0):(l.all fun x=>zIY h x)=true∧(l.all fun x=>zJW x)=true∧(l.map pr2).Nodup:=by
 unfold zCO at he
 split at he
 ·split at he
  ·split at he
   ·exact ⟨by assumption,by assumption,by assumption⟩
   ·cases he
  ·cases he
 ·cases he
theorem zR0 {l:List (Int×Bool)} (he:zDU l=0):zQY l=true∧(List.range l.length).any (zLU l)=false:=by
 unfold zDU at he
 split at he
 ·split at he
  ·cases he
  ·rename_i h1 h2;exact ⟨h1,by rw [Bool.not_eq_true] at h2;exact h2⟩
 ·cases he
theorem zVv {n:Nw} (he:zGF n=0):NwOk n:=by
 have he0:=he
 unfold zGF at he
 split at he
 ·cases he
 split at he
 ·cases he
 split at he
 ·cases he
 split at he
 ·cases he
 rename_i c1 c2 c3 c4
 split at he
 case isFalse h=>exact absurd he h
 rename_i c5
 split at he
 case isFalse h=>exact absurd he h
 rename_i c6
 split at he
 ·cases he
 split at he
 ·cases he
 rename_i c7 c8
 simp only [Bool.not_eq_true,Bool.not_eq_false'] at c1 c3 c4 c7 c8
 obtain ⟨d1,d2,d3⟩:=zP1 c5
 obtain ⟨e1,e2⟩:=zR0 c6
 rw [List.all_eq_true] at c7 c8 d1 d2
 simp only [zQY,List.all_eq_true,List.mem_range] at e1
 simp only [List.any_eq_false,List.mem_range] at e2
 have a3:=zFG c3
 have a4:=zFG c4
 refine ⟨he0,zFG c1,by omega,by omega,by omega,fun x hx=>?_,fun x hx=>by have:=d2 x hx;simpa [zJW] using this,d3,fun i hi=>?_,fun i k hk hi hI hx=>?_,fun l hl x hx=>?_,fun l hl=>by rw [← zKJ];exact c8 l hl⟩
 ·have:=d1 x hx
  simp only [zIY,Bool.and_eq_true] at this
  have b1:=zFG this.1
  have b2:=zFG this.2
  omega
 ·have:=zFG (e1 i hi);omega
 ·refine e2 i hi ?_
  simp only [zLU,Bool.and_eq_true,decide_eq_true_eq,List.any_eq_true]
  refine ⟨hI,n.n.getD k default,?_,hx⟩
  rw [zAB (by omega)]
  exact List.mem_take_iff_getElem.2 ⟨k,by omega,rfl⟩
 ·have:=c7 l hl
  simp only [zKb,List.all_eq_true] at this
  have:=zFG (this x hx);omega
def zMT (F:List Int) (i:Nat) (a:Int):List Int:=if a = -1 then F.set i i else (F.set i i).set i ((F.set i i).getD a.toNat 0)
def zOQ (l:List (Int×Bool)):Nat→List Int
 | 0=>List.replicate 8 0
 | i+1=>zMT (zOQ l i) i (l.getD i default).1
def zLR (F:List Int) (L:List Int) (i k:Nat):List Int:=if F.getD k 0=F.getD i 0 then L.set i (max (L.getD i 0) k) else L
def zSA (F:List Int) (i:Nat) (L:List Int) (k:Nat):List Int:=(List.range k).foldl (fun L k=>zLR F L i k) L
def zP4 (F:List Int) (m i:Nat):List Int:=(List.range i).foldl (fun L i=>zSA F i L m) (List.replicate 8 0)
theorem zQh {F:List Int} {i:Nat} {a:Int}:(zMT F i a).length=F.length:=by unfold zMT;split<;>simp
theorem zGH {l:List (Int×Bool)}:∀ i,(zOQ l i).length=8
 | 0=>by simp [zOQ]
 | i+1=>by rw [zOQ,zQh];exact zGH i
theorem zRy {F L:List Int} {i k:Nat}:(zLR F L i k).length=L.length:=by unfold zLR;split<;>simp
theorem zHg {F L:List Int} {i k:Nat}:zSA F i L (k+1)=zLR F (zSA F i L k) i k:=by
 simp only [zSA,List.range_succ,List.foldl_append,List.foldl_cons,List.foldl_nil]
theorem zIc {F L:List Int} {i:Nat}:∀ k,(zSA F i L k).length=L.length
 | 0=>rfl
 | k+1=>by rw [zHg,zRy];exact zIc k
theorem zFH {F:List Int} {m i:Nat}:zP4 F m (i+1)=zSA F i (zP4 F m i) m:=by
 simp only [zP4,List.range_succ,List.foldl_append,List.foldl_cons,List.foldl_nil]
theorem zKO {F:List Int} {m:Nat}:∀ i,(zP4 F m i).length=8
 | 0=>by simp [zP4]
 | i+1=>by rw [zFH,zIc];exact zKO i
def zAj (n:Nw):List Int:=zOQ n.n n.n.length
def zAU (n:Nw):List Int:=zP4 (zAj n) n.n.length n.n.length
abbrev zCN (n:Nw) (cs ms:PV) (F L:List Int):PV := .agg [I n.h,.sl (n.l.map prV),.sl (n.n.map ntV),.sl (n.s.map zBi),cs,ms,I (F.getD 0 0),I (F.getD 1 0),I (F.getD 2 0),I (F.getD 3 0),I (F.getD 4 0),I (F.getD 5 0),I (F.getD 6 0),I (F.getD 7 0),I (L.getD 0 0),I (L.getD 1 0),I (L.getD 2 0),I (L.getD 3 0),I (L.getD 4 0),I (L.getD 5 0),I (L.getD 6 0),I (L.getD 7 0)]
abbrev zVx (M:List (Int×Int)):PV := .omap (M.map zBE)
section
variable [Yo]
theorem f55_1 (n:Nw) (ho:NwOk n):FG 55 [nwV n] (.tup [.box (zCN n (.own 2 []) (zVx (n.l.map pr2)) (zAj n) (zAU n)),I 0]):=by
 have hs:=ho.small
 have he:=ho.err
 have h1:=ho.nl.2
 have h2:=ho.ll
 have h3:=ho.ld
 have h4:=ho.na
 refine zAe Try.f55 ?_
 refine zAd 3<|zAa<|zAh<|zAd 1<|S_a [(6,.ret (I (zGF n)) [])] (ap (f29 n (by omega)) an)<|zAc 1<|zAa<|zAd 2<|zAa<|zNX (zGF n=0) (by omega)<|zAl<|zAd 5<|zAa<|zAh<|zAd 2<|S_a [(0,.n n.l.length)] (ap (lnS prV n.l) an)<|zAc 1<|zAa<|zAk 0 ?_
 refine zAz (fun (i,M)=>i≤n.l.length∧M=(n.l.take i).map pr2) (fun (i,M)=>[(5,.box (zCN n (.own 2 []) (zVx M) (List.replicate 8 0) (List.replicate 8 0))),(24,I (i:Nat))]) (fun (i,_)=>n.l.length-i) ((0:Nat),([]:List (Int×Int))) ⟨Nat.zero_le _,rfl⟩ fun (i,M) ⟨hi,hM⟩=>?_
 by_cases yR:i<n.l.length
 ·have yw:(n.l.take (i+1)).map pr2=M++[pr2 (n.l.getD i default)]:=by rw [zDm (d:=default) yR,List.map_append,← hM];rfl
  have hin:pr2 (n.l.getD i default)∉M:=fun hm=>by
   rw [← List.take_append_drop (i+1) n.l,List.map_append,yw] at h3
   have h2:=(List.nodup_append.1 h3).1
   have h3:=(List.nodup_append.1 h2).2.2
   exact h3 _ hm _ (List.mem_singleton.2 rfl) rfl
  have jI:=zLg hin
  refine zAd 1<|zAa<|zAh<|zA5 ((↑i:Int)<(↑n.l.length:Int)) (by omega)<|zAl<|zAh<|zAk 1<|zAh<|zAg<|S_a [(2,.v (PV.agg [I (n.l.getD i default).fst,I (n.l.getD i default).snd]))] (ap (zCG default (by omega):(List.map prV n.l)[i]? = some (PV.agg [I (n.l.getD i default).fst,I (n.l.getD i default).snd])) an)<|zAc 3<|zAa<|zAg<|zAc 5<|S_a [(6,.ret (prV (pr2 (n.l.getD i default))) [])] (ap (f93 (n.l.getD i default)) an)<|S_a [(4,.ix none),(0,.v (PV.omap (List.map zBE (M++[pr2 (n.l.getD i default)]))))] (ap jI<|ap ((by simp):PV.omap (List.map zBE M++[(PV.agg [I (pr2 (n.l.getD i default)).fst,I (pr2 (n.l.getD i default)).snd],PV.bool true)])=PV.omap (List.map zBE (M++[pr2 (n.l.getD i default)]))) an)<|zAa<|zAg<|S_a [(1,.v (I (↑(i+1):Int)))] (ap (wrN i) an)<|zAc 1<|zAa ?_
  exact ⟨(i+1,M++[pr2 (n.l.getD i default)]),⟨by omega,yw.symm⟩,by simp only;omega,by kernel_rfl,by kernel_rfl⟩
 ·refine zAd 1<|zAa<|zAh<|zBd ((↑i:Int)<(↑n.l.length:Int)) (by omega)<|zAO 0<|zAh<|zAd 2<|S_a [(0,.n n.n.length)] (ap (lnS ntV n.n) an)<|zAc 1<|zAa<|zAk 2 ?_
  rw [List.take_of_length_le (by omega)] at hM
  subst hM
  clear h3
  generalize hMM:n.l.map pr2=MM
  refine zAz (fun (i,F)=>i≤n.n.length∧F=zOQ n.n i) (fun (i,F)=>[(5,.box (zCN n (.own 2 []) (zVx MM) F (List.replicate 8 0))),(38,I (i:Nat))]) (fun (i,_)=>n.n.length-i) ((0:Nat),List.replicate 8 0) ⟨Nat.zero_le _,rfl⟩ fun (i,F) ⟨hi,hF⟩=>?_
  have hFl:F.length=8:=by rw [hF];exact zGH i
  by_cases yR:i<n.n.length
  ·have h4i:=h4 i yR
   have yH:zOQ n.n (i+1)=zMT F i (n.n.getD i default).1:=by rw [hF];rfl
   refine zAd 1<|zAa<|zAh<|zA5 ((↑i:Int)<(↑n.n.length:Int)) (by omega)<|zAl<|zAh<|zAk 3<|zAd 1<|S_a [(2,.v (PV.agg [I (n.n.getD i default).fst,PV.bool (n.n.getD i default).snd]))] (ap (zCG default (by omega):(List.map ntV n.n)[i]? = some (PV.agg [I (n.n.getD i default).fst,PV.bool (n.n.getD i default).snd])) an)<|zAc 4<|zAa<|zAd 5<|S_a [(2,.ob),(1,.v (PV.addr 5 [] 0 (6+i) none))] (ap ((by exact zAp (by omega)):decide (i<8)=true)<|ap ((zFL (by kernel_rfl)):PV.addr 5 [] 0 (6+i*(fun x=>x.size) Try.prog.types[3]) none=PV.addr 5 [] 0 (6+i) none) an)<|S_a [(8,.root ((PV.agg (I n.h::prs n.l::PV.sl (List.map ntV n.n)::PV.sl (List.map zBi n.s)::PV.own 2 []::PV.omap (List.map zBE MM)::(zAt (F.set i (↑i:Int)) 8++zAt (List.replicate 8 0) 8))).box) true)] (ap (zPR (zKc (q:=(PV.agg (I n.h::prs n.l::PV.sl (List.map ntV n.n)::PV.sl (List.map zBi n.s)::PV.own 2 []::PV.omap (List.map zBE MM)::(zAt F 8++zAt (List.replicate 8 0) 8))).box) (xs:=[PV.agg (I n.h::prs n.l::PV.sl (List.map ntV n.n)::PV.sl (List.map zBi n.s)::PV.own 2 []::PV.omap (List.map zBE MM)::(zAt F 8++zAt (List.replicate 8 0) 8))]) (x:=PV.agg (I n.h::prs n.l::PV.sl (List.map ntV n.n)::PV.sl (List.map zBi n.s)::PV.own 2 []::PV.omap (List.map zBE MM)::(zAt F 8++zAt (List.replicate 8 0) 8))) (y:=PV.agg (I n.h::prs n.l::PV.sl (List.map ntV n.n)::PV.sl (List.map zBi n.s)::PV.own 2 []::PV.omap (List.map zBE MM)::(zAt (F.set i (↑i:Int)) 8++zAt (List.replicate 8 0) 8))) (q':=(PV.agg (I n.h::prs n.l::PV.sl (List.map ntV n.n)::PV.sl (List.map zBi n.s)::PV.own 2 []::PV.omap (List.map zBE MM)::(zAt (F.set i (↑i:Int)) 8++zAt (List.replicate 8 0) 8))).box) rfl (zOe (A:=[I n.h,prs n.l,PV.sl (List.map ntV n.n),PV.sl (List.map zBi n.s),PV.own 2 [],PV.omap (List.map zBE MM)]) (B:=zAt (List.replicate 8 0) 8) (F:=F) (m:=8) (j:=i) (u:=(↑i:Int)) (by first | rfl | exact zB1 (by kernel_rfl) | exact zB6 (by kernel_rfl) | exact zB0 (by kernel_rfl) (by kernel_rfl) | exact zB8 (by kernel_rfl) | exact zCa (by kernel_rfl) (by kernel_rfl) | exact zB5 (by kernel_rfl) | (simp;done)) (by omega) (by omega)) rfl (hb:=zOk (A:=[I n.h,prs n.l,PV.sl (List.map ntV n.n),PV.sl (List.map zBi n.s),PV.own 2 [],PV.omap (List.map zBE MM)]) (B:=zAt (List.replicate 8 0) 8) (F:=F) (m:=8) (j:=i) (by first | rfl | exact zB1 (by kernel_rfl) | exact zB6 (by kernel_rfl) | exact zB0 (by kernel_rfl) (by kernel_rfl) | exact zB8 (by kernel_rfl) | exact zCa (by kernel_rfl) (by kernel_rfl) | exact zB5 (by kernel_rfl) | (simp;done)) (by omega))) rfl:zBw (PV.agg (I n.h::prs n.l::PV.sl (List.map ntV n.n)::PV.sl (List.map zBi n.s)::PV.own 2 []::PV.omap (List.map zBE MM)::(zAt F 8++zAt (List.replicate 8 0) 8))).box [] 0 (6+i) (I (↑i:Int)).cells=some (PV.agg (I n.h::prs n.l::PV.sl (List.map ntV n.n)::PV.sl (List.map zBi n.s)::PV.own 2 []::PV.omap (List.map zBE MM)::(zAt (F.set i (↑i:Int)) 8++zAt (List.replicate 8 0) 8))).box∧zAF (PV.agg (I n.h::prs n.l::PV.sl (List.map ntV n.n)::PV.sl (List.map zBi n.s)::PV.own 2 []::PV.omap (List.map zBE MM)::(zAt F 8++zAt (List.replicate 8 0) 8))).box (PV.agg (I n.h::prs n.l::PV.sl (List.map ntV n.n)::PV.sl (List.map zBi n.s)::PV.own 2 []::PV.omap (List.map zBE MM)::(zAt (F.set i (↑i:Int)) 8++zAt (List.replicate 8 0) 8))).box []=true) an)<|zAa<|zAd 3<|zAa<|zD9 ((n.n.getD i default).fst = -1) (fun k0=>(zAg<|zAc 7<|S_a [(0,.ob),(1,.ob),(1,.v (PV.addr 5 [] 0 (6+(n.n.getD i default).fst.toNat) none))] (ap ((by exact zAp (by omega)):decide (0≤(n.n.getD i default).fst)=true)<|ap ((by exact zAp (by omega)):decide ((n.n.getD i default).fst.toNat<8)=true)<|ap ((zFL (by kernel_rfl)):PV.addr 5 [] 0 (6+(n.n.getD i default).fst.toNat*(fun x=>x.size) Try.prog.types[3]) none=PV.addr 5 [] 0 (6+(n.n.getD i default).fst.toNat) none) an)<|S_a [(0,.cs true ([I ((F.set i (↑i:Int)).getD (n.n.getD i default).fst.toNat 0)]))] (ap (zC8 (q:=(PV.agg (I n.h::prs n.l::PV.sl (List.map ntV n.n)::PV.sl (List.map zBi n.s)::PV.own 2 []::PV.omap (List.map zBE MM)::(zAt (F.set i (↑i:Int)) 8++zAt (List.replicate 8 0) 8))).box) (xs:=[PV.agg (I n.h::prs n.l::PV.sl (List.map ntV n.n)::PV.sl (List.map zBi n.s)::PV.own 2 []::PV.omap (List.map zBE MM)::(zAt (F.set i (↑i:Int)) 8++zAt (List.replicate 8 0) 8))]) (x:=PV.agg (I n.h::prs n.l::PV.sl (List.map ntV n.n)::PV.sl (List.map zBi n.s)::PV.own 2 []::PV.omap (List.map zBE MM)::(zAt (F.set i (↑i:Int)) 8++zAt (List.replicate 8 0) 8))) rfl rfl (zKz (A:=[I n.h,prs n.l,PV.sl (List.map ntV n.n),PV.sl (List.map zBi n.s),PV.own 2 [],PV.omap (List.map zBE MM)]) (B:=zAt (List.replicate 8 0) 8) (F:=F.set i (↑i:Int)) (m:=8) (j:=(n.n.getD i default).fst.toNat) (by first | rfl | exact zB1 (by kernel_rfl) | exact zB6 (by kernel_rfl) | exact zB0 (by kernel_rfl) (by kernel_rfl) | exact zB8 (by kernel_rfl) | exact zCa (by kernel_rfl) (by kernel_rfl) | exact zB5 (by kernel_rfl) | (simp;done)) (by omega)):zAs 5 (PV.agg (I n.h::prs n.l::PV.sl (List.map ntV n.n)::PV.sl (List.map zBi n.s)::PV.own 2 []::PV.omap (List.map zBE MM)::(zAt (F.set i (↑i:Int)) 8++zAt (List.replicate 8 0) 8))).box [] 0 (6+(n.n.getD i default).fst.toNat) 1=some (true,[I ((F.set i (↑i:Int)).getD (n.n.getD i default).fst.toNat 0)])) an)<|zAc 2<|S_a [(2,.ob),(1,.v (PV.addr 5 [] 0 (6+i) none))] (ap ((by exact zAp (by omega)):decide (i<8)=true)<|ap ((zFL (by kernel_rfl)):PV.addr 5 [] 0 (6+i*(fun x=>x.size) Try.prog.types[3]) none=PV.addr 5 [] 0 (6+i) none) an)<|S_a [(8,.root ((PV.agg (I n.h::prs n.l::PV.sl (List.map ntV n.n)::PV.sl (List.map zBi n.s)::PV.own 2 []::PV.omap (List.map zBE MM)::(zAt ((F.set i (↑i:Int)).set i ((F.set i (↑i:Int)).getD (n.n.getD i default).fst.toNat 0)) 8++zAt (List.replicate 8 0) 8))).box) true)] (ap (zPR (zKc (q:=(PV.agg (I n.h::prs n.l::PV.sl (List.map ntV n.n)::PV.sl (List.map zBi n.s)::PV.own 2 []::PV.omap (List.map zBE MM)::(zAt (F.set i (↑i:Int)) 8++zAt (List.replicate 8 0) 8))).box) (xs:=[PV.agg (I n.h::prs n.l::PV.sl (List.map ntV n.n)::PV.sl (List.map zBi n.s)::PV.own 2 []::PV.omap (List.map zBE MM)::(zAt (F.set i (↑i:Int)) 8++zAt (List.replicate 8 0) 8))]) (x:=PV.agg (I n.h::prs n.l::PV.sl (List.map ntV n.n)::PV.sl (List.map zBi n.s)::PV.own 2 []::PV.omap (List.map zBE MM)::(zAt (F.set i (↑i:Int)) 8++zAt (List.replicate 8 0) 8))) (y:=PV.agg (I n.h::prs n.l::PV.sl (List.map ntV n.n)::PV.sl (List.map zBi n.s)::PV.own 2 []::PV.omap (List.map zBE MM)::(zAt ((F.set i (↑i:Int)).set i ((F.set i (↑i:Int)).getD (n.n.getD i default).fst.toNat 0)) 8++zAt (List.replicate 8 0) 8))) (q':=(PV.agg (I n.h::prs n.l::PV.sl (List.map ntV n.n)::PV.sl (List.map zBi n.s)::PV.own 2 []::PV.omap (List.map zBE MM)::(zAt ((F.set i (↑i:Int)).set i ((F.set i (↑i:Int)).getD (n.n.getD i default).fst.toNat 0)) 8++zAt (List.replicate 8 0) 8))).box) rfl (zOe (A:=[I n.h,prs n.l,PV.sl (List.map ntV n.n),PV.sl (List.map zBi n.s),PV.own 2 [],PV.omap (List.map zBE MM)]) (B:=zAt (List.replicate 8 0) 8) (F:=F.set i (↑i:Int)) (m:=8) (j:=i) (u:=(F.set i (↑i:Int)).getD (n.n.getD i default).fst.toNat 0) (by first | rfl | exact zB1 (by kernel_rfl) | exact zB6 (by kernel_rfl) | exact zB0 (by kernel_rfl) (by kernel_rfl) | exact zB8 (by kernel_rfl) | exact zCa (by kernel_rfl) (by kernel_rfl) | exact zB5 (by kernel_rfl) | (simp;done)) (by omega) (by first | omega | (simp<;>omega))) rfl (hb:=zOk (A:=[I n.h,prs n.l,PV.sl (List.map ntV n.n),PV.sl (List.map zBi n.s),PV.own 2 [],PV.omap (List.map zBE MM)]) (B:=zAt (List.replicate 8 0) 8) (F:=F.set i (↑i:Int)) (m:=8) (j:=i) (by first | rfl | exact zB1 (by kernel_rfl) | exact zB6 (by kernel_rfl) | exact zB0 (by kernel_rfl) (by kernel_rfl) | exact zB8 (by kernel_rfl) | exact zCa (by kernel_rfl) (by kernel_rfl) | exact zB5 (by kernel_rfl) | (simp;done)) (by omega))) rfl:zBw (PV.agg (I n.h::prs n.l::PV.sl (List.map ntV n.n)::PV.sl (List.map zBi n.s)::PV.own 2 []::PV.omap (List.map zBE MM)::(zAt (F.set i (↑i:Int)) 8++zAt (List.replicate 8 0) 8))).box [] 0 (6+i) (I ((F.set i (↑i:Int)).getD (n.n.getD i default).fst.toNat 0)).cells=some (PV.agg (I n.h::prs n.l::PV.sl (List.map ntV n.n)::PV.sl (List.map zBi n.s)::PV.own 2 []::PV.omap (List.map zBE MM)::(zAt ((F.set i (↑i:Int)).set i ((F.set i (↑i:Int)).getD (n.n.getD i default).fst.toNat 0)) 8++zAt (List.replicate 8 0) 8))).box∧zAF (PV.agg (I n.h::prs n.l::PV.sl (List.map ntV n.n)::PV.sl (List.map zBi n.s)::PV.own 2 []::PV.omap (List.map zBE MM)::(zAt (F.set i (↑i:Int)) 8++zAt (List.replicate 8 0) 8))).box (PV.agg (I n.h::prs n.l::PV.sl (List.map ntV n.n)::PV.sl (List.map zBi n.s)::PV.own 2 []::PV.omap (List.map zBE MM)::(zAt ((F.set i (↑i:Int)).set i ((F.set i (↑i:Int)).getD (n.n.getD i default).fst.toNat 0)) 8++zAt (List.replicate 8 0) 8))).box []=true) an)<|zAa<|zAg<|S_a [(1,.v (I (↑(i+1):Int)))] (ap (wrN i) an)<|zAc 1<|zAa ?_)) (fun k0=>(zAl<|zAg<|S_a [(1,.v (I (↑(i+1):Int)))] (ap (wrN i) an)<|zAc 1<|zAa ?_))
   ·rw [zMT,if_neg k0] at yH
    exact ⟨(i+1,(F.set i i).set i ((F.set i i).getD (n.n.getD i default).1.toNat 0)),⟨by omega,yH.symm⟩,by simp only;omega,by kernel_rfl,by kernel_rfl⟩
   ·rw [zMT,if_pos k0] at yH
    exact ⟨(i+1,F.set i i),⟨by omega,yH.symm⟩,by simp only;omega,by kernel_rfl,by kernel_rfl⟩
  ·have hFF:F=zAj n:=by rw [hF,zAj,show i=n.n.length by omega]
   subst hFF
   clear hF
   have qd:zAU n=zP4 (zAj n) n.n.length n.n.length:=rfl
   rw [qd]
   generalize hG:zAj n=F at *
   clear qd h4
   refine zAd 1<|zAa<|zAh<|zBd ((↑i:Int)<(↑n.n.length:Int)) (by omega)<|zAO 2<|zAh<|zAd 2<|S_a [(0,.n n.n.length)] (ap (lnS ntV n.n) an)<|zAc 1<|zAa<|zAk 4 ?_
   refine zAz (fun (i,L)=>i≤n.n.length∧L=zP4 F n.n.length i) (fun (i,L)=>[(5,.box (zCN n (.own 2 []) (zVx MM) F L)),(68,I (i:Nat))]) (fun (i,_)=>n.n.length-i) ((0:Nat),List.replicate 8 0) ⟨Nat.zero_le _,rfl⟩ fun (i,L) ⟨hi,hL⟩=>?_
   have hLl:L.length=8:=by rw [hL];exact zKO i
   by_cases yR:i<n.n.length
   ·have yH:=zFH (F:=F) (m:=n.n.length) (i:=i)
    rw [← hL] at yH
    refine zAd 1<|zAa<|zAh<|zA5 ((↑i:Int)<(↑n.n.length:Int)) (by omega)<|zAl<|zAh<|zAk 5<|zAd 2<|zAa<|zAd 2<|S_a [(0,.n n.n.length)] (ap (lnS ntV n.n) an)<|zAc 1<|zAa<|zAk 6 ?_
    refine zAz (fun (k,Q)=>k≤n.n.length∧Q=zSA F i L k) (fun (k,Q)=>[(5,.box (zCN n (.own 2 []) (zVx MM) F Q)),(74,I (k:Nat))]) (fun (k,_)=>n.n.length-k) ((0:Nat),L) ⟨Nat.zero_le _,rfl⟩ fun (k,Q) ⟨hk,hQ⟩=>?_
    have hQl:Q.length=8:=by rw [hQ,zIc];exact hLl
    by_cases vR:k<n.n.length
    ·have jT:=zHg (F:=F) (L:=L) (i:=i) (k:=k)
     rw [← hQ] at jT
     clear yH hL hQ
     refine zAd 1<|zAa<|zAh<|zA5 ((↑k:Int)<(↑n.n.length:Int)) (by omega)<|zAl<|zAh<|zAk 7<|zAd 2<|zAa<|zAd 4<|S_a [(2,.ob),(1,.v (PV.addr 5 [] 0 (6+k) none))] (ap ((by exact zAp (by omega)):decide (k<8)=true)<|ap ((zFL (by kernel_rfl)):PV.addr 5 [] 0 (6+k*(fun x=>x.size) Try.prog.types[3]) none=PV.addr 5 [] 0 (6+k) none) an)<|S_a [(0,.cs true ([I (F.getD k 0)]))] (ap (zC8 (q:=(PV.agg (I n.h::prs n.l::PV.sl (List.map ntV n.n)::PV.sl (List.map zBi n.s)::PV.own 2 []::PV.omap (List.map zBE MM)::(zAt F 8++zAt Q 8))).box) (xs:=[PV.agg (I n.h::prs n.l::PV.sl (List.map ntV n.n)::PV.sl (List.map zBi n.s)::PV.own 2 []::PV.omap (List.map zBE MM)::(zAt F 8++zAt Q 8))]) (x:=PV.agg (I n.h::prs n.l::PV.sl (List.map ntV n.n)::PV.sl (List.map zBi n.s)::PV.own 2 []::PV.omap (List.map zBE MM)::(zAt F 8++zAt Q 8))) rfl rfl (zKz (A:=[I n.h,prs n.l,PV.sl (List.map ntV n.n),PV.sl (List.map zBi n.s),PV.own 2 [],PV.omap (List.map zBE MM)]) (B:=zAt Q 8) (F:=F) (m:=8) (j:=k) (by first | rfl | exact zB1 (by kernel_rfl) | exact zB6 (by kernel_rfl) | exact zB0 (by kernel_rfl) (by kernel_rfl) | exact zB8 (by kernel_rfl) | exact zCa (by kernel_rfl) (by kernel_rfl) | exact zB5 (by kernel_rfl) | (simp;done)) (by omega)):zAs 5 (PV.agg (I n.h::prs n.l::PV.sl (List.map ntV n.n)::PV.sl (List.map zBi n.s)::PV.own 2 []::PV.omap (List.map zBE MM)::(zAt F 8++zAt Q 8))).box [] 0 (6+k) 1=some (true,[I (F.getD k 0)])) an)<|zAc 4<|S_a [(2,.ob),(1,.v (PV.addr 5 [] 0 (6+i) none))] (ap ((by exact zAp (by omega)):decide (i<8)=true)<|ap ((zFL (by kernel_rfl)):PV.addr 5 [] 0 (6+i*(fun x=>x.size) Try.prog.types[3]) none=PV.addr 5 [] 0 (6+i) none) an)<|S_a [(0,.cs true ([I (F.getD i 0)]))] (ap (zC8 (q:=(PV.agg (I n.h::prs n.l::PV.sl (List.map ntV n.n)::PV.sl (List.map zBi n.s)::PV.own 2 []::PV.omap (List.map zBE MM)::(zAt F 8++zAt Q 8))).box) (xs:=[PV.agg (I n.h::prs n.l::PV.sl (List.map ntV n.n)::PV.sl (List.map zBi n.s)::PV.own 2 []::PV.omap (List.map zBE MM)::(zAt F 8++zAt Q 8))]) (x:=PV.agg (I n.h::prs n.l::PV.sl (List.map ntV n.n)::PV.sl (List.map zBi n.s)::PV.own 2 []::PV.omap (List.map zBE MM)::(zAt F 8++zAt Q 8))) rfl rfl (zKz (A:=[I n.h,prs n.l,PV.sl (List.map ntV n.n),PV.sl (List.map zBi n.s),PV.own 2 [],PV.omap (List.map zBE MM)]) (B:=zAt Q 8) (F:=F) (m:=8) (j:=i) (by first | rfl | exact zB1 (by kernel_rfl) | exact zB6 (by kernel_rfl) | exact zB0 (by kernel_rfl) (by kernel_rfl) | exact zB8 (by kernel_rfl) | exact zCa (by kernel_rfl) (by kernel_rfl) | exact zB5 (by kernel_rfl) | (simp;done)) (by omega)):zAs 5 (PV.agg (I n.h::prs n.l::PV.sl (List.map ntV n.n)::PV.sl (List.map zBi n.s)::PV.own 2 []::PV.omap (List.map zBE MM)::(zAt F 8++zAt Q 8))).box [] 0 (6+i) 1=some (true,[I (F.getD i 0)])) an)<|zAc 1<|zAa<|zDa (F.getD k 0=F.getD i 0) (fun k1=>(zAg<|zAc 6<|S_a [(2,.ob),(1,.v (PV.addr 5 [] 0 (14+i) none))] (ap ((by exact zAp (by omega)):decide (i<8)=true)<|ap ((zFL (by kernel_rfl)):PV.addr 5 [] 0 (14+i*(fun x=>x.size) Try.prog.types[3]) none=PV.addr 5 [] 0 (14+i) none) an)<|S_a [(0,.cs true ([I (Q.getD i 0)]))] (ap (zC8 (q:=(PV.agg (I n.h::prs n.l::PV.sl (List.map ntV n.n)::PV.sl (List.map zBi n.s)::PV.own 2 []::PV.omap (List.map zBE MM)::(zAt F 8++zAt Q 8))).box) (xs:=[PV.agg (I n.h::prs n.l::PV.sl (List.map ntV n.n)::PV.sl (List.map zBi n.s)::PV.own 2 []::PV.omap (List.map zBE MM)::(zAt F 8++zAt Q 8))]) (x:=PV.agg (I n.h::prs n.l::PV.sl (List.map ntV n.n)::PV.sl (List.map zBi n.s)::PV.own 2 []::PV.omap (List.map zBE MM)::(zAt F 8++zAt Q 8))) rfl rfl (zKz (A:=I n.h::prs n.l::PV.sl (List.map ntV n.n)::PV.sl (List.map zBi n.s)::PV.own 2 []::PV.omap (List.map zBE MM)::zAt F 8) (B:=[]) (F:=Q) (m:=8) (j:=i) (by first | rfl | exact zB1 (by kernel_rfl) | exact zB6 (by kernel_rfl) | exact zB0 (by kernel_rfl) (by kernel_rfl) | exact zB8 (by kernel_rfl) | exact zCa (by kernel_rfl) (by kernel_rfl) | exact zB5 (by kernel_rfl) | (simp;done)) (by omega)):zAs 5 (PV.agg (I n.h::prs n.l::PV.sl (List.map ntV n.n)::PV.sl (List.map zBi n.s)::PV.own 2 []::PV.omap (List.map zBE MM)::(zAt F 8++zAt Q 8))).box [] 0 (14+i) 1=some (true,[I (Q.getD i 0)])) an)<|zAc 2<|S_a [(9,.ret (I (max (Q.getD i 0) (↑k:Int))) [])] (ap (f94 (Q.getD i 0) ((↑k:Int))) an)<|zAc 2<|S_a [(2,.ob),(1,.v (PV.addr 5 [] 0 (14+i) none))] (ap ((by exact zAp (by omega)):decide (i<8)=true)<|ap ((zFL (by kernel_rfl)):PV.addr 5 [] 0 (14+i*(fun x=>x.size) Try.prog.types[3]) none=PV.addr 5 [] 0 (14+i) none) an)<|S_a [(8,.root ((PV.agg (I n.h::prs n.l::PV.sl (List.map ntV n.n)::PV.sl (List.map zBi n.s)::PV.own 2 []::PV.omap (List.map zBE MM)::(zAt F 8++zAt (Q.set i (max (Q.getD i 0) (↑k:Int))) 8))).box) true)] (ap (zPR (zKc (q:=(PV.agg (I n.h::prs n.l::PV.sl (List.map ntV n.n)::PV.sl (List.map zBi n.s)::PV.own 2 []::PV.omap (List.map zBE MM)::(zAt F 8++zAt Q 8))).box) (xs:=[PV.agg (I n.h::prs n.l::PV.sl (List.map ntV n.n)::PV.sl (List.map zBi n.s)::PV.own 2 []::PV.omap (List.map zBE MM)::(zAt F 8++zAt Q 8))]) (x:=PV.agg (I n.h::prs n.l::PV.sl (List.map ntV n.n)::PV.sl (List.map zBi n.s)::PV.own 2 []::PV.omap (List.map zBE MM)::(zAt F 8++zAt Q 8))) (y:=PV.agg (I n.h::prs n.l::PV.sl (List.map ntV n.n)::PV.sl (List.map zBi n.s)::PV.own 2 []::PV.omap (List.map zBE MM)::(zAt F 8++zAt (Q.set i (max (Q.getD i 0) (↑k:Int))) 8))) (q':=(PV.agg (I n.h::prs n.l::PV.sl (List.map ntV n.n)::PV.sl (List.map zBi n.s)::PV.own 2 []::PV.omap (List.map zBE MM)::(zAt F 8++zAt (Q.set i (max (Q.getD i 0) (↑k:Int))) 8))).box) rfl (zOe (A:=I n.h::prs n.l::PV.sl (List.map ntV n.n)::PV.sl (List.map zBi n.s)::PV.own 2 []::PV.omap (List.map zBE MM)::zAt F 8) (B:=[]) (F:=Q) (m:=8) (j:=i) (u:=max (Q.getD i 0) (↑k:Int)) (by first | rfl | exact zB1 (by kernel_rfl) | exact zB6 (by kernel_rfl) | exact zB0 (by kernel_rfl) (by kernel_rfl) | exact zB8 (by kernel_rfl) | exact zCa (by kernel_rfl) (by kernel_rfl) | exact zB5 (by kernel_rfl) | (simp;done)) (by omega) (by omega)) rfl (hb:=zOk (A:=I n.h::prs n.l::PV.sl (List.map ntV n.n)::PV.sl (List.map zBi n.s)::PV.own 2 []::PV.omap (List.map zBE MM)::zAt F 8) (B:=[]) (F:=Q) (m:=8) (j:=i) (by first | rfl | exact zB1 (by kernel_rfl) | exact zB6 (by kernel_rfl) | exact zB0 (by kernel_rfl) (by kernel_rfl) | exact zB8 (by kernel_rfl) | exact zCa (by kernel_rfl) (by kernel_rfl) | exact zB5 (by kernel_rfl) | (simp;done)) (by omega))) rfl:zBw (PV.agg (I n.h::prs n.l::PV.sl (List.map ntV n.n)::PV.sl (List.map zBi n.s)::PV.own 2 []::PV.omap (List.map zBE MM)::(zAt F 8++zAt Q 8))).box [] 0 (14+i) (I (max (Q.getD i 0) (↑k:Int))).cells=some (PV.agg (I n.h::prs n.l::PV.sl (List.map ntV n.n)::PV.sl (List.map zBi n.s)::PV.own 2 []::PV.omap (List.map zBE MM)::(zAt F 8++zAt (Q.set i (max (Q.getD i 0) (↑k:Int))) 8))).box∧zAF (PV.agg (I n.h::prs n.l::PV.sl (List.map ntV n.n)::PV.sl (List.map zBi n.s)::PV.own 2 []::PV.omap (List.map zBE MM)::(zAt F 8++zAt Q 8))).box (PV.agg (I n.h::prs n.l::PV.sl (List.map ntV n.n)::PV.sl (List.map zBi n.s)::PV.own 2 []::PV.omap (List.map zBE MM)::(zAt F 8++zAt (Q.set i (max (Q.getD i 0) (↑k:Int))) 8))).box []=true) an)<|zAa<|zAg<|S_a [(1,.v (I (↑(k+1):Int)))] (ap (wrN k) an)<|zAc 1<|zAa ?_)) (fun k1=>(zAl<|zAg<|S_a [(1,.v (I (↑(k+1):Int)))] (ap (wrN k) an)<|zAc 1<|zAa ?_))
     ·rw [zLR,if_pos (by assumption)] at jT
      exact ⟨(k+1,Q.set i (max (Q.getD i 0) k)),⟨by omega,jT.symm⟩,by simp only;omega,by kernel_rfl,by kernel_rfl⟩
     ·rw [zLR,if_neg (by assumption)] at jT
      exact ⟨(k+1,Q),⟨by omega,jT.symm⟩,by simp only;omega,by kernel_rfl,by kernel_rfl⟩
    ·refine zAd 1<|zAa<|zAh<|zBd ((↑k:Int)<(↑n.n.length:Int)) (by omega)<|zAO 6<|zAg<|S_a [(1,.v (I (↑(i+1):Int)))] (ap (wrN i) an)<|zAc 1<|zAa ?_
     exact ⟨(i+1,Q),⟨by omega,by rw [yH,hQ,show k=n.n.length by omega]⟩,by simp only;omega,by kernel_rfl,by kernel_rfl⟩
   ·refine zAd 1<|zAa<|zAh<|zBd ((↑i:Int)<(↑n.n.length:Int)) (by omega)<|zAO 4<|zAd 1<|zAc 1<|zAc 1<|zAa<|zAn<|E_a [] an (PV.tup [(PV.agg (I n.h::prs n.l::PV.sl (List.map ntV n.n)::PV.sl (List.map zBi n.s)::PV.own 2 []::PV.omap (List.map zBE MM)::(zAt F 8++zAt L 8))).box,I 0]) [] ?_ rfl
    rw [hL,show i=n.n.length by omega]
    all_goals rfl
end
end Go.Eng
set_option maxRecDepth 10000
set_option maxHeartbeats 4000000
namespace Go.Eng
open Go Go.Proofs
abbrev mapM (M:List (Int×Int)):PV := .map (M.map zBE)
abbrev zDT (n:Nw) (cs:List (Int×Int)):PV := .ref (zCN n (prs cs) (mapM (n.l.map pr2)) (zAj n) (zAU n))
def zIr (n:Nw) (c:Int×Int):Bool:=inB c.1 0 (n.n.length-1)&&inB c.2 0 (n.s.length-1)
def zPI (n:Nw) (cs:List (Int×Int)):Int:=if zGF n=0 then if (cs.length:Int)>16 then 2 else if (!cs.all fun c=>zIr n c)=true then 1 else 0 else zGF n
def zPS (n:Nw) (cs:List (Int×Int)) (e:Int):Int:=if zPI n cs=0 then if inB e 0 12=true then 0 else 3 else zPI n cs
structure CrOk (n:Nw) (cs:List (Int×Int)):Prop where
 err:zPI n cs=0
 nw:NwOk n
 len:cs.length≤16
 cs:∀ c∈cs,(0≤c.1∧c.1<n.n.length)∧(0≤c.2∧c.2<n.s.length)
structure CrW (n:Nw) (cs:List (Int×Int)):Prop where
 nw:NwOk n
 len:cs.length≤1000
 cs:∀ c∈cs,(0≤c.1∧c.1<n.n.length)∧(0≤c.2∧c.2<n.s.length)
theorem CrOk.w {n:Nw} {cs:List (Int×Int)} (h:CrOk n cs):CrW n cs:=⟨h.nw,by have:=h.len;omega,h.cs⟩
theorem zVq {n:Nw} {cs:List (Int×Int)} (he:zPI n cs=0):CrOk n cs:=by
 have he0:=he
 unfold zPI at he
 split at he
 case isFalse h=>exact absurd he h
 rename_i c1
 split at he
 ·cases he
 split at he
 ·cases he
 rename_i c2 c3
 simp only [Bool.not_eq_true,Bool.not_eq_false',List.all_eq_true] at c3
 refine ⟨he0,zVv c1,by omega,fun c hc=>?_⟩
 have:=c3 c hc
 simp only [zIr,Bool.and_eq_true] at this
 have b1:=zFG this.1
 have b2:=zFG this.2
 omega
structure EvOk (n:Nw) (cs:List (Int×Int)) (e:Int):Prop where
 err:zPS n cs e=0
 cr:CrOk n cs
 ev:0≤e∧e≤12
theorem zS2 {n:Nw} {cs:List (Int×Int)} {e:Int} (he:zPS n cs e=0):EvOk n cs e:=by
 have he0:=he
 unfold zPS at he
 split at he
 case isFalse h=>exact absurd he h
 rename_i c1
 split at he
 ·rename_i h;exact ⟨he0,zVq c1,zFG h⟩
 ·cases he
section
variable [Yo]
theorem f85 (n:Nw) (x:Int) (hb:n.s.length≤6):FG 85 [nwV n,I x] (.bool (inB x 0 (n.s.length-1))):=by
 refine zAe Try.f85 ?_
 refine zAd 2<|zAa<|zAd 3<|S_a [(0,.n n.s.length)] (ap (lnS zBi n.s) an)<|S_a [(1,.v (I ((↑n.s.length:Int)-1)))] (ap ((zCq rfl (by omega)):I (IntKind.i64.wrap ((↑n.s.length:Int)-1))=I ((↑n.s.length:Int)-1)) an)<|S_a [(10,.ret (PV.bool (inB x 0 ((↑n.s.length:Int)-1))) [])] (ap (f63 x (0) ((↑n.s.length:Int)-1)) an)<|zAc 1<|zAa<|zAn<|E_a [] an (PV.bool (inB x 0 ((↑n.s.length:Int)-1))) [] rfl rfl
theorem f44 (n:Nw) (c:Int×Int) (cp:PV) (M:List (Int×Int)) (F L:List Int) (ho:NwOk n):FG 44 [.ref (zCN n cp (mapM M) F L),prV c] (.bool (zIr n c)):=by
 have h1:=ho.nl.2
 have h2:=ho.sl.2
 refine zAe Try.f44 ?_
 refine zAd 2<|zAa<|zAd 6<|S_a [(8,.ret (PV.bool (inB c.fst 0 ((↑n.n.length:Int)-1))) [])] (ap (f73 n c.fst (by omega)) an)<|zAc 1<|zFp 12 (inB c.fst 0 ((↑n.n.length:Int)-1)) (fun k0=>(zAc 6<|S_a [(8,.ret (PV.bool (inB c.snd 0 ((↑n.s.length:Int)-1))) [])] (ap (f85 n c.snd (by omega)) an)<|zAc 2<|zAa<|zAn<|E_a [] an (PV.bool (inB c.snd 0 ((↑n.s.length:Int)-1))) [] ?_ rfl)) (fun k0=>(zAc 9<|zAa<|zAn<|E_a [] an (PV.bool false) [] ?_ rfl))
 ·simp only [zIr,k0,Bool.true_and]
 ·simp only [zIr,k0,Bool.false_and]
theorem f124_1 (n:Nw) (M:List (Int×Int)) (F L:List Int) (ho:NwOk n) (x:Int×Int):FG 124 [prV x,.ref (.func 44 [.ref (zCN n (.sl []) (mapM M) F L)] [])] (.bool (!(zIr n x))):=by
 refine zAe Try.f124 ?_
 refine zAd 2<|zAa<|zAd 2<|S_a [(7,.ret (PV.bool (zIr n x)) [])] (ap (f44 n x (PV.sl []) M F L (by omega)) an)<|zAc 2<|zAa<|zAn<|E_a [] an (PV.bool !zIr n x) [] rfl rfl
theorem f59_1 (n:Nw) (M:List (Int×Int)) (F L:List Int) (ho:NwOk n) (l:List (Int×Int)) (hl:l.length<4294967296):FG 59 [.sl (l.map prV),.func 124 [] [.ref (.func 44 [.ref (zCN n (.sl []) (mapM M) F L)] [])]] (I (zD4 (fun x => !(zIr n x)) l)):=by
 refine zAe Try.f59 ?_
 refine zAd 1<|zAa<|zAh<|zAd 1<|S_a [(0,.n l.length)] (ap (lnS prV l) an)<|zAc 1<|zAa<|zAk 0 ?_
 refine zAz (fun i=>i≤l.length∧∀ j,j<i→(fun x => !(zIr n x)) (l.getD j default)=false) (fun i=>[(8,I (i:Nat))]) (fun i=>l.length-i) (0:Nat) (by simp) fun i ⟨hi,ha⟩=>?_
 refine zAd 1<|zAa<|zAh<|zDa ((↑i:Int)<(↑l.length:Int)) (fun k0=>(zAl<|zAh<|zAk 1<|zAd 2<|zAa<|zAd 3<|S_a [(2,.v (PV.agg [I (l.getD i default).fst,I (l.getD i default).snd]))] (ap (zCG default (by omega):(List.map prV l)[i]? = some (PV.agg [I (l.getD i default).fst,I (l.getD i default).snd])) an)<|zAc 1<|S_a [(7,.ret (PV.bool !zIr n (l.getD i default)) [])] (ap (f124_1 n M F L (by omega) (l.getD i default)) an)<|zAa<|zED (!zIr n (l.getD i default)) (fun k1=>(zAd 2<|zAa<|zAn<|E_a [] an (I (↑i:Int)) [] ?_ rfl)) (fun k1=>(zAl<|zAg<|S_a [(1,.v (I (↑(i+1):Int)))] (ap (wrN i) an)<|zAc 1<|zAa ?_)))) (fun k0=>(zAO 0<|zAd 1<|zAa<|zAn<|E_a [] an (I (-1)) [] ?_ rfl))
 ·rw [zBN (i:=i) (by omega) (fun j hj=>by rw [← zAB (d:=default)];exact ha j hj) (by rw [← zAB (d:=default)];first | assumption | exact decide_eq_true ‹_› | (simp only [Bool.not_eq_true',decide_eq_false_iff_not];assumption))]
 ·refine ⟨i+1,⟨by omega,fun j hj=>?_⟩,by omega,by kernel_rfl,by kernel_rfl⟩
  rcases Nat.lt_succ_iff_lt_or_eq.1 hj with h | rfl
  ·exact ha j h
  ·first | assumption | exact decide_eq_false ‹_› | (simp only [Bool.not_eq_false',decide_eq_true_eq];first | assumption | (apply Decidable.of_not_not;assumption))
 ·rw [zB2 fun j hj=>by rw [← zAB (d:=default)];exact ha j (by omega)]
theorem f24_1 (n:Nw) (M:List (Int×Int)) (F L:List Int) (ho:NwOk n) (l:List (Int×Int)) (hl:l.length<4294967296):FG 24 [.sl (l.map prV),.func 124 [] [.ref (.func 44 [.ref (zCN n (.sl []) (mapM M) F L)] [])]] (.bool (l.any (fun x => !(zIr n x)))):=by
 refine zAe Try.f24 ?_
 refine zAd 1<|zAa<|zAd 2<|S_a [(7,.ret (I (zD4 (fun x => !zIr n x) l)) [])] (ap (f59_1 n M F L (by omega) l (by omega)) an)<|zAc 2<|zAa<|zAn<|E_a [] an (PV.bool (decide (zD4 (fun x => !zIr n x) l≥0))) [] ?_ rfl
 rw [zDB]
theorem f110_1 (n:Nw) (M:List (Int×Int)) (F L:List Int) (ho:NwOk n) (l:List (Int×Int)) (hl:l.length<4294967296):FG 110 [.sl (l.map prV),.func 44 [.ref (zCN n (.sl []) (mapM M) F L)] []] (.bool (l.all (fun x=>zIr n x))):=by
 refine zAe Try.f110 ?_
 refine zAd 2<|zAa<|zAd 2<|S_a [(12,.ret (PV.bool (l.any fun x => !zIr n x)) [])] (ap (f24_1 n M F L (by omega) l (by omega)) an)<|zAc 2<|zAa<|zAn<|E_a [] an (PV.bool !l.any fun x => !zIr n x) [] ?_ rfl
 simp [List.not_any_eq_all_not]
theorem f82_1 (n:Nw) (cs:List (Int×Int)) (ho:CrOk n cs):FG 82 [nwV n,prs cs] (.tup [zDT n cs,I 0]):=by
 have hn:=ho.nw
 have hl:=ho.len
 have ha:(!cs.all fun c=>zIr n c)=false:=by
  simp only [Bool.not_eq_false',List.all_eq_true]
  intro c hc
  have:=ho.cs c hc
  simp only [zIr,inB,Bool.and_eq_true,decide_eq_true_eq];omega
 refine zAe Try.f82 ?_
 refine zAd 3<|zAa<|zAd 1<|S_a [(6,.ret (PV.tup [(zCN n (PV.own 2 []) (zVx (List.map pr2 n.l)) (zAj n) (zAU n)).box,I 0]) [])] (ap (f55_1 n (by omega)) an)<|zAc 5<|zAa<|zAh<|zAk 0<|zAd 3<|zAa<|zAN<|zAd 1<|S_a [(0,.n cs.length)] (ap (lnS prV cs) an)<|zAc 2<|zAa<|zBd ((↑cs.length:Int)>16) (by omega)<|zAd 3<|S_a [(13,.ret (PV.bool (cs.all fun x=>zIr n x)) [])] (ap (f110_1 n (List.map pr2 n.l) (zAj n) (zAU n) (by omega) cs (by omega)) an)<|zAc 2<|zAa<|zED (!cs.all fun x=>zIr n x) (fun k0=>(zAd 2<|zAa<|zAn<|E_a [] an (PV.tup [PV.nilp,I 1]) [] ?_ rfl)) (fun k0=>(zAl<|zAd 5<|zAa<|zAd 1<|zAc 1<|zAc 1<|zAa<|zAn<|E_a [] an (PV.tup [(PV.agg (I n.h::prs n.l::PV.sl (List.map ntV n.n)::PV.sl (List.map zBi n.s)::prs cs::PV.map (List.map zBE (List.map pr2 n.l))::(zAt (zAj n) 8++zAt (zAU n) 8))).ref,I 0]) [] rfl rfl))
 rw [ha] at k0;cases k0
theorem f41_1 (n:Nw) (cs:List (Int×Int)) (e:Int) (ho:EvOk n cs e):FG 41 [nwV n,prs cs,I e] (.tup [zDT n cs,I 0]):=by
 have hc:=ho.cr
 have he:inB e 0 12=true:=by have:=ho.ev;simp only [inB,Bool.and_eq_true,decide_eq_true_eq];omega
 refine zAe Try.f41 ?_
 refine zAd 3<|zAa<|zAd 2<|S_a [(8,.ret (PV.tup [zDT n cs,I 0]) [])] (ap (f82_1 n cs (by omega)) an)<|zAc 5<|zAa<|zAh<|zAd 4<|S_a [(10,.ret (PV.bool (inB e 0 12)) [])] (ap (f63 e (0) (12)) an)<|zAc 2<|zAa<|zED (!inB e 0 12) (fun k0=>(zAg<|zAc 1<|zAa<|zAh<|zAd 2<|zAa<|zEb<|zAd 3<|zAa<|zAn<|E_a [] an (PV.tup [PV.nilp,I 3]) [] ?_ rfl)) (fun k0=>(zAl<|zAh<|zAd 2<|zAa<|zAN<|zAl<|zAd 3<|zAa<|zAn<|E_a [] an (PV.tup [(PV.agg (I n.h::prs n.l::PV.sl (List.map ntV n.n)::PV.sl (List.map zBi n.s)::prs cs::PV.map (List.map zBE (List.map pr2 n.l))::(zAt (zAj n) 8++zAt (zAU n) 8))).ref,I 0]) [] rfl rfl))
 rw [he] at k0;cases k0
theorem f111 (n:Nw) (cp:PV) (M:List (Int×Int)) (F L:List Int) (ho:NwOk n) (h:Int) (s:Int) (hs:0≤s∧s<n.s.length):FG 111 [.ref (zCN n cp (mapM M) F L),I h,I s] (.bool (has (n.s.getD s.toNat []) h)):=by
 have h1:=zCp (d:=[]) ho.rows s.toNat (by omega)
 refine zAe Try.f111 ?_
 refine zAd 1<|zAa<|zAd 6<|S_a [(0,.ob),(1,.v (zBi (n.s.getD s.toNat [])))] (ap ((by exact zAp (by omega)):decide (0≤s)=true)<|ap (zCG [] (by omega):(List.map zBi n.s)[s.toNat]? = some (zBi (n.s.getD s.toNat []))) an)<|zAc 2<|S_a [(8,.ret (PV.bool (has (n.s.getD s.toNat []) h)) [])] (ap (f20 (n.s.getD s.toNat []) h (by omega)) an)<|zAc 1<|zAa<|zAn<|E_a [] an (PV.bool (has (n.s.getD s.toNat []) h)) [] rfl rfl
theorem f87 (n:Nw) (cs:List (Int×Int)) (h:Int):FG 87 [zDT n cs,I h] (.func 112 [] [.ref (zDT n cs),.ref (I h)]):=by
 refine zAe Try.f87 ?_
 refine zAd 3<|zAa<|zAd 2<|zAa<|zAn<|E_a [] an (PV.func 112 [] [(PV.agg (I n.h::prs n.l::PV.sl (List.map ntV n.n)::PV.sl (List.map zBi n.s)::prs cs::PV.map (List.map zBE (List.map pr2 n.l))::(zAt (zAj n) 8++zAt (zAU n) 8))).ref.ref,(I h).ref]) [] rfl rfl
end
def zDP (n:Nw) (a b:Int):Bool:=decide (pr2 (a,b)∈n.l.map pr2)
def zHT (n:Nw) (h:Nat) (o:Nat):List Nat:=(List.range o).filter fun o=>zDP n h o
theorem zMa {n:Nw} {h o:Nat}:zHT n h (o+1)=if zDP n h o=true then zHT n h o++[o] else zHT n h o:=by
 unfold zHT;rw [List.range_succ,List.filter_append]
 by_cases hn:zDP n h o=true
 ·rw [if_pos hn];simp [hn]
 ·rw [if_neg hn];simp [hn]
theorem zSz {n:Nw} {h t m:Nat} (ht:t≤m):zHT n h t <+: zHT n h m:=by
  induction ht with
  | refl=>exact List.prefix_refl _
  | step _ ih => rw [zMa];split
                 · exact ih.trans (List.prefix_append _ _)
                 · exact ih
theorem zSW {α:Type} {x y:List α} (h:x <+: y) {k:Int} (hk:k=x.length):x=y.take k.toNat:=by
 rw [hk,Int.toNat_natCast];exact List.prefix_iff_eq_take.1 h
abbrev zJR (n:Nw) (h o:Nat):List (List PV):=(zHT n h o).map fun (o:Nat)=>[I o]
abbrev zQD (n:Nw) (cs:List (Int×Int)) (h:Nat):List PV:=[.ref (zDT n cs),.ref (I h)]
theorem zVD [Yo] (n:Nw) (cs:List (Int×Int)) (h:Nat) (ho:NwOk n) (hh:(h:Int)<n.h) (k:Int) (hk:k = -1∨1≤k∧k≤(zHT n h n.h.toNat).length) (i:Nat):W Try.prog zBO 112 Try.f112.ntmps (Try.f112.body.getD .ret) (zA3 ([]++PV.yld i::zQD n cs h) []) (some ⟨[],k,i⟩) fun x _ lg=>(x = .norm∨x = .ret)∧lg.map (·.xs)=some (if k = -1 then zJR n h n.h.toNat else (zJR n h n.h.toNat).take k.toNat):=by
 have hb:=ho.h
 refine zAd 6<|zAa<|zAk 0 ?_
 refine zVz (fun (o,xs,kc)=>o≤n.h.toNat∧xs=zJR n h o∧kc=k-xs.length∧(k = -1∨1≤kc)) (fun (o,_,_)=>[(10,I (o:Nat))]) (fun (_,xs,kc)=>some ⟨xs,kc,i⟩) (fun (o,_,_)=>n.h.toNat-o) ((0:Nat),([]:List (List PV)),k) ⟨Nat.zero_le _,rfl,by simp,by omega⟩ fun (o,xs,kc) ⟨hr,jU,hkc,jN⟩=>?_
 by_cases hol:(o:Int)<n.h
 ·have j3:=zMa (n:=n) (h:=h) (o:=o)
  by_cases hI:zDP n h o=true
  ·rw [if_pos hI] at j3
   have gT:pr2 ((h:Int),(o:Int))∈n.l.map pr2:=by simpa [zDP] using hI
   obtain ⟨j,hj,jI⟩:=zRp gT
   have kD:zIL ((n.l.map pr2).map zBE) j=some (.bool true):=by
    have:j<n.l.length:=by simpa using hj
    simp [zIL,this]
   have qL:xs++[[I o]]=zJR n h (o+1):=by rw [zJR,j3,List.map_append,jU];rfl
   have u6:xs++[[I o]] <+: zJR n h n.h.toNat:=by rw [qL];exact (zSz (by omega)).map _
   refine zAd 1<|zAa<|zAh<|zA5 ((↑o:Int)<n.h) (by omega)<|zAl<|zAh<|zAk 1<|zAd 2<|zAa<|zAd 7<|S_a [(6,.ret (prV (pr2 ((↑h:Int),(↑o:Int)))) [])] (ap (f93 (((↑h:Int),(↑o:Int)))) an)<|S_a [(2,.ix (some j)),(0,.v (PV.bool true))] (ap jI<|ap (kD:zIL (List.map zBE (List.map pr2 n.l)) j=some (PV.bool true)) an)<|zAc 3 ?_
   refine zU9 kc xs [I o] i (fun hk3=>?_) (fun hk3=>?_) (by omega)
   ·refine zAc 2<|zAa<|zEb<|zAn ?_
    refine ⟨.inr rfl,?_⟩
    have wO:k=(xs++[[I (o:Int)]]).length:=by simp;omega
    have jN:¬ k = -1:=by omega
    rw [if_neg jN,← zSW u6 wO];show Option.map _ _=_;kernel_rfl
   ·refine zAc 2<|zAa<|zAN<|zAl<|zAg<|S_a [(1,.v (I (↑(o+1):Int)))] (ap (wrN o) an)<|zAc 1<|zAa ?_
    exact ⟨(o+1,xs++[[I o]],kc-1),⟨by omega,qL,by simp;omega,by omega⟩,by simp only;omega,by kernel_rfl,by kernel_rfl⟩
  ·rw [if_neg hI] at j3
   have gT:pr2 ((h:Int),(o:Int))∉n.l.map pr2:=by simpa [zDP] using hI
   have jI:=zLg gT
   refine zAd 1<|zAa<|zAh<|zA5 ((↑o:Int)<n.h) (by omega)<|zAl<|zAh<|zAk 1<|zAd 2<|zAa<|zAd 7<|S_a [(6,.ret (prV (pr2 ((↑h:Int),(↑o:Int)))) [])] (ap (f93 (((↑h:Int),(↑o:Int)))) an)<|S_a [(2,.ix none)] (ap jI an)<|zAc 6<|zAa<|zAN<|zAl<|zAg<|S_a [(1,.v (I (↑(o+1):Int)))] (ap (wrN o) an)<|zAc 1<|zAa ?_
   exact ⟨(o+1,xs,kc),⟨by omega,by rw [zJR,j3];exact jU,hkc,jN⟩,by simp only;omega,by kernel_rfl,by kernel_rfl⟩
 ·have e:o=n.h.toNat:=by omega
  subst e
  have hZ:xs.length=(zHT n h n.h.toNat).length:=by rw [jU];simp
  have jN:k = -1:=by omega
  refine zAd 1<|zAa<|zAh<|zBd ((↑n.h.toNat:Int)<n.h) (by omega)<|zAO 0 ?_
  refine ⟨.inl rfl,?_⟩
  rw [if_pos jN,← jU];show Option.map _ _=_;kernel_rfl
theorem zX1 (n:Nw) (cs:List (Int×Int)) (h:Nat) (ho:NwOk n) (hh:(h:Int)<n.h) (k:Int) (hk:k = -1∨1≤k∧k≤(zHT n h n.h.toNat).length):@zS8 (yo1 Try.prog zBO) 112 [] (zQD n cs h) k (if k = -1 then zJR n h n.h.toNat else (zJR n h n.h.toNat).take k.toNat) :=
 zSG Try.f112 (fun i=>@zVD yo0 n cs h ho hh k hk i) (by omega)
noncomputable instance nwYo:Yo:=yo1 Try.prog zBO
theorem zT7 (n:Nw) (cs:List (Int×Int)) (h:Nat) (ho:NwOk n) (hh:(h:Int)<n.h):zFY 112 [] (zQD n cs h) (zJR n h n.h.toNat):=by
 refine ⟨?_,fun j h1 h2=>?_⟩
 ·have:=zX1 n cs h ho hh (-1) (.inl rfl)
  rwa [if_pos rfl] at this
 ·have:=zX1 n cs h ho hh (j:Int) (.inr ⟨by omega,by simpa using h2⟩)
  rw [if_neg (by omega)] at this
  exact this
end Go.Eng
set_option maxRecDepth 10000
set_option maxHeartbeats 4000000
namespace Go.Eng
open Go Go.Proofs
abbrev hdV (w:List Int):PV := .agg (zAt w 80)
def zP5 (w:List Int) (i:Nat) (x:Int):List Int:=w.set i (max (w.getD i 0) x)
theorem zIo {w:List Int} {i:Nat} {x:Int}:(zP5 w i x).length=w.length:=by simp [zP5]
def begC (n:Nw) (h:Nat) (w:List Int) (c:Int×Int):List Int:=if has (n.s.getD c.2.toNat []) h=true then zP5 w (h*8+((zAj n).getD c.1.toNat 0).toNat) c.1 else w
def begH (n:Nw) (h:Nat) (w:List Int) (cs:List (Int×Int)):List Int:=cs.foldl (begC n h) w
def begN (n:Nw) (cs:List (Int×Int)) (h:Nat):List Int:=(List.range h).foldl (fun w h=>begH n h w cs) (List.replicate 80 (-1))
def nxtR (now:List Int) (h o:Nat) (w:List Int) (k:Nat):List Int:=(List.range k).foldl (fun w i=>zP5 w (h*8+i) (now.getD (o*8+i) 0)) w
def nxtH (now:List Int) (h:Nat) (w:List Int) (l:List Nat):List Int:=l.foldl (fun w o=>nxtR now h o w 8) w
def nxtN (n:Nw) (now:List Int) (h:Nat):List Int:=(List.range h).foldl (fun w h=>nxtH now h w (zHT n h n.h.toNat)) now
def zMF (n:Nw) (cs:List (Int×Int)):List Int:=begN n cs n.h.toNat
def zCz (n:Nw) (now:List Int):List Int:=nxtN n now n.h.toNat
def zBe (n:Nw) (cs:List (Int×Int)):Nat→List Int
 | 0=>zMF n cs
 | k+1=>zCz n (zBe n cs k)
theorem zTc {n:Nw} {h:Nat} {w:List Int} {c:Int×Int}:(begC n h w c).length=w.length:=by unfold begC;split<;>simp [zIo]
theorem zLa {n:Nw} {h:Nat}:∀ {cs:List (Int×Int)} {w:List Int},(begH n h w cs).length=w.length
 | [],w=>rfl
 | c::cs,w=>by
  show (begH n h (begC n h w c) cs).length=_
  rw [zLa,zTc]
theorem zIM {n:Nw} {cs:List (Int×Int)} {h:Nat}:begN n cs (h+1)=begH n h (begN n cs h) cs:=by
 simp only [begN,List.range_succ,List.foldl_append,List.foldl_cons,List.foldl_nil]
theorem zLm {n:Nw} {cs:List (Int×Int)}:∀ h,(begN n cs h).length=80
 | 0=>by simp [begN]
 | h+1=>by rw [zIM,zLa];exact zLm h
theorem zRU {n:Nw} {h:Nat} {w:List Int} {cs:List (Int×Int)} {i:Nat} (hi:i<cs.length):begH n h w (cs.take (i+1))=begC n h (begH n h w (cs.take i)) (cs.getD i default):=zER hi
theorem zJu {now w:List Int} {h o k:Nat}:nxtR now h o w (k+1)=zP5 (nxtR now h o w k) (h*8+k) (now.getD (o*8+k) 0):=by
 simp only [nxtR,List.range_succ,List.foldl_append,List.foldl_cons,List.foldl_nil]
theorem zGV {now w:List Int} {h o:Nat}:∀ k,(nxtR now h o w k).length=w.length
 | 0=>rfl
 | k+1=>by rw [zJu,zIo];exact zGV k
theorem zKX {now:List Int} {h:Nat}:∀ {l:List Nat} {w:List Int},(nxtH now h w l).length=w.length
 | [],_=>rfl
 | o::l,w=>by
  show (nxtH now h (nxtR now h o w 8) l).length=_
  rw [zKX,zGV]
theorem zJz {n:Nw} {now:List Int} {h:Nat}:nxtN n now (h+1)=nxtH now h (nxtN n now h) (zHT n h n.h.toNat):=by
 simp only [nxtN,List.range_succ,List.foldl_append,List.foldl_cons,List.foldl_nil]
theorem zH8 {n:Nw} {now:List Int}:∀ h,(nxtN n now h).length=now.length
 | 0=>rfl
 | h+1=>by rw [zJz,zKX];exact zH8 h
theorem zRZ {now:List Int} {h:Nat} {w:List Int} {l:List Nat} {i:Nat} (hi:i<l.length):nxtH now h w (l.take (i+1))=nxtR now h (l.getD i 0) (nxtH now h w (l.take i)) 8:=zER hi
theorem zOm {n:Nw} {cs:List (Int×Int)}:(zMF n cs).length=80:=zLm _
theorem zRL {n:Nw} {w:List Int} (h:w.length=80):(zCz n w).length=80:=by rw [zCz,zH8,h]
theorem zBI {n:Nw} {cs:List (Int×Int)}:∀ k,(zBe n cs k).length=80
 | 0=>zOm
 | k+1=>zRL (zBI k)
theorem zIC {F:List Int} {i:Nat} {a:Int} (hF:F.length=8) (hi:i<8) (ha : -1≤a∧a<i) (j:Nat):(zMT F i a).getD j 0=if j=i then (if a = -1 then (i:Int) else F.getD a.toNat 0) else F.getD j 0:=by
 unfold zMT
 by_cases hj:j=i
 ·subst hj
  rw [if_pos rfl]
  split
  ·rw [zBZ,if_pos ⟨rfl,by omega⟩]
  ·rw [zBZ,if_pos ⟨rfl,by simp;omega⟩,zBZ,if_neg (by omega)]
 ·rw [if_neg hj]
  split
  ·rw [zBZ,if_neg (fun h=>hj h.1.symm)]
  ·rw [zBZ,if_neg (fun h=>hj h.1.symm),zBZ,if_neg (fun h=>hj h.1.symm)]
theorem zNn {n:Nw} (ho:NwOk n):∀ i,i≤n.n.length→∀ j,j<i→0≤(zOQ n.n i).getD j 0∧(zOQ n.n i).getD j 0≤j
 | 0,_,j,hj=>absurd hj (Nat.not_lt_zero j)
 | i + 1,hi,j,hj=>by
  have h8:=ho.nl.2
  have ha:=ho.na i (by omega)
  rw [zOQ,zIC (zGH i) (by omega) ha]
  split
  ·subst j
   split
   ·omega
   ·have:=zNn ho i (by omega) ((n.n.getD i default).1.toNat) (by omega)
    omega
  ·exact zNn ho i (by omega) j (by omega)
theorem zCA {n:Nw} (ho:NwOk n) (j:Nat) (hj:j<n.n.length):0≤(zAj n).getD j 0∧(zAj n).getD j 0≤j:=zNn ho _ (Nat.le_refl _) j hj
theorem f83 (n:Nw) (cs:List (Int×Int)) (ho:CrW n cs):FG 83 [zDT n cs] (hdV (zMF n cs)):=by
 have hb:=ho.nw.h
 have hn:=ho.nw
 have yO:=ho.len
 refine zAe Try.f83 ?_
 refine zAd 1<|zAa<|zAd 1<|zAa<|zAh<|zAd 1<|zAa<|zAk 0 ?_
 refine zAz (fun (h,w)=>h≤10∧w.length=80∧∀ j,j<h*8→w.getD j 0 = -1) (fun (h,w)=>[(3,.box (hdV w)),(11,I (h:Nat))]) (fun (h,_)=>10-h) ((0:Nat),List.replicate 80 0) ⟨by omega,rfl,fun j h=>by omega⟩ fun (h,w) ⟨hh,hw,ha⟩=>?_
 by_cases gw:h<10
 ·refine zAd 1<|zAa<|zAh<|zA5 ((↑h:Int)<10) (by omega)<|zAl<|zAh<|zAk 1<|zAd 2<|zAa<|zAd 1<|zAa<|zAk 2 ?_
  refine zAz (fun (i,v)=>i≤8∧v.length=80∧∀ j,j<h*8+i→v.getD j 0 = -1) (fun (i,v)=>[(3,.box (hdV v)),(14,I (i:Nat))]) (fun (i,_)=>8-i) ((0:Nat),w) ⟨by omega,hw,fun j h=>ha j (by omega)⟩ fun (i,v) ⟨hi,hv,hav⟩=>?_
  by_cases yR:i<8
  ·refine zAd 1<|zAa<|zAh<|zA5 ((↑i:Int)<8) (by omega)<|zAl<|zAh<|zAk 3<|zAd 2<|zAa<|zAg<|zAc 2<|S_a [(2,.ob)] (ap ((by exact zAp (by omega)):decide (h<10)=true) an)<|S_a [(2,.ob)] (ap ((by exact zAp (by omega)):decide (i<8)=true) an)<|S_a [(7,.root ((PV.agg (zAt (v.set (h*8+i) (-1)) 80)).box) true)] (ap (zPR (zKc (q:=(PV.agg (zAt v 80)).box) (xs:=[PV.agg (zAt v 80)]) (x:=PV.agg (zAt v 80)) (y:=PV.agg (zAt (v.set (h*8+i) (-1)) 80)) (q':=(PV.agg (zAt (v.set (h*8+i) (-1)) 80)).box) rfl (zNb (F:=v) (m:=80) (j:=h*8+i) (u:=-1) (by first | rfl | exact zB1 (by kernel_rfl) | exact zB6 (by kernel_rfl) | exact zB0 (by kernel_rfl) (by kernel_rfl) | exact zB8 (by kernel_rfl) | exact zCa (by kernel_rfl) (by kernel_rfl) | exact zB5 (by kernel_rfl) | (simp;done)) (by omega) (by omega)) rfl (hb:=zNq (F:=v) (m:=80) (j:=h*8+i) (by first | rfl | exact zB1 (by kernel_rfl) | exact zB6 (by kernel_rfl) | exact zB0 (by kernel_rfl) (by kernel_rfl) | exact zB8 (by kernel_rfl) | exact zCa (by kernel_rfl) (by kernel_rfl) | exact zB5 (by kernel_rfl) | (simp;done)) (by omega))) rfl:zBw (PV.agg (zAt v 80)).box [] 0 (0+(↑h:Int).toNat*(fun x=>x.size) Try.prog.types[89]+(↑i:Int).toNat*(fun x=>x.size) Try.prog.types[3]) (I (-1)).cells=some (PV.agg (zAt (v.set (h*8+i) (-1)) 80)).box∧zAF (PV.agg (zAt v 80)).box (PV.agg (zAt (v.set (h*8+i) (-1)) 80)).box []=true) an)<|zAa<|zAg<|S_a [(1,.v (I (↑(i+1):Int)))] (ap (wrN i) an)<|zAc 1<|zAa ?_
   refine ⟨(i+1,v.set (h*8+i) (-1)),⟨by omega,by simpa using hv,fun j hj=>?_⟩,by simp only;omega,by kernel_rfl,by kernel_rfl⟩
   rw [zBZ]
   split
   ·rfl
   ·exact hav j (by omega)
  ·refine zAd 1<|zAa<|zAh<|zBd ((↑i:Int)<8) (by omega)<|zAO 2<|zAg<|S_a [(1,.v (I (↑(h+1):Int)))] (ap (wrN h) an)<|zAc 1<|zAa ?_
   exact ⟨(h+1,v),⟨by omega,hv,fun j hj=>hav j (by omega)⟩,by simp only;omega,by kernel_rfl,by kernel_rfl⟩
 ·have hw0:w=List.replicate 80 (-1):=by
   refine List.ext_getElem (by simp [hw]) fun j h1 h2=>?_
   have:=ha j (by omega)
   rw [zAB h1] at this
   rw [this,List.getElem_replicate]
  clear ha
  have hw0':begN n cs 0=w:=by rw [hw0];rfl
  clear hw0
  refine zAd 1<|zAa<|zAh<|zBd ((↑h:Int)<10) (by omega)<|zAO 0<|zAd 3<|zAa<|zAh<|zAd 6<|zAa<|zAk 4 ?_
  refine zAz (fun (h,v)=>h≤n.h.toNat∧v=begN n cs h) (fun (h,v)=>[(3,.box (hdV v)),(30,I (h:Nat))]) (fun (h,_)=>n.h.toNat-h) ((0:Nat),w) ⟨by omega,hw0'.symm⟩ fun (h,v) ⟨hh,hv⟩=>?_
  have jp:v.length=80:=by rw [hv];exact zLm h
  by_cases gw:(h:Int)<n.h
  ·have yH:=zIM (n:=n) (cs:=cs) (h:=h)
   rw [← hv] at yH
   refine zAd 1<|zAa<|zAh<|zA5 ((↑h:Int)<n.h) (by omega)<|zAl<|zAh<|zAk 5<|zAd 2<|zAa<|zAd 4<|S_a [(0,.n cs.length)] (ap (lnS prV cs) an)<|zAc 1<|zAa<|zAk 6 ?_
   refine zAz (fun (i,q)=>i≤cs.length∧q=begH n h v (cs.take i)) (fun (i,q)=>[(3,.box (hdV q)),(38,I (i:Nat))]) (fun (i,_)=>cs.length-i) ((0:Nat),v) ⟨by omega,rfl⟩ fun (i,q) ⟨hi,hq⟩=>?_
   have qc:q.length=80:=by rw [hq,zLa];exact jp
   by_cases yR:i<cs.length
   ·have hci:=zCp (d:=default) ho.cs i yR
    have yw:=zRU (n:=n) (h:=h) (w:=v) yR
    rw [← hq] at yw
    have hfb:=zCA hn (cs.getD i default).1.toNat (by omega)
    have wB:=hn.nl
    have jE:=hci.2
    have vO:0≤(cs.getD i default).1∧(cs.getD i default).1<8:=by omega
    have gj:((zAj n).getD (cs.getD i default).1.toNat 0).toNat<8:=by have:=hn.nl;omega
    clear yH hv hq
    refine zAd 1<|zAa<|zAh<|zA5 ((↑i:Int)<(↑cs.length:Int)) (by omega)<|zAl<|zAh<|zAk 7<|zAh<|zAg<|S_a [(2,.v (PV.agg [I (cs.getD i default).fst,I (cs.getD i default).snd]))] (ap (zCG default (by omega):(List.map prV cs)[i]? = some (PV.agg [I (cs.getD i default).fst,I (cs.getD i default).snd])) an)<|zAc 3<|zAa<|zAd 4<|S_a [(9,.ret (PV.bool (has (n.s.getD (cs.getD i default).snd.toNat []) (↑h:Int))) [])] (ap (f111 n (prs cs) (List.map pr2 n.l) (zAj n) (zAU n) (by omega) ((↑h:Int)) ((cs.getD i default).snd) (by omega)) an)<|zAa<|zED (has (n.s.getD (cs.getD i default).snd.toNat []) (↑h:Int)) (fun k0=>(zAd 5<|S_a [(0,.ob),(1,.ob),(0,.v ((I ((zAj n).getD (cs.getD i default).fst.toNat 0)).ref))] (ap ((by exact zAp (by omega)):decide (0≤(cs.getD i default).fst)=true)<|ap ((by exact zAp (by omega)):decide ((cs.getD i default).fst.toNat<8)=true)<|ap (zGt (F:=zAj n) (m:=8) (j:=(cs.getD i default).fst.toNat) (by omega):zCl (PV.agg (zAt (zAj n) 8)).ref ((cs.getD i default).fst.toNat*(fun x=>x.size) Try.prog.types[3]) none=some (I ((zAj n).getD (cs.getD i default).fst.toNat 0)).ref) an)<|zAc 2<|zAa<|zAg<|zAc 4<|S_a [(2,.ob)] (ap ((by exact zAp (by omega)):decide (h<10)=true) an)<|S_a [(0,.ob),(1,.ob)] (ap ((by exact zAp (by omega)):decide (0≤(zAj n).getD (cs.getD i default).fst.toNat 0)=true)<|ap ((by exact zAp (by omega)):decide (((zAj n).getD (cs.getD i default).fst.toNat 0).toNat<8)=true) an)<|S_a [(0,.cs true ([I (q.getD (h*8+((zAj n).getD (cs.getD i default).fst.toNat 0).toNat) 0)]))] (ap (zC8 (q:=(PV.agg (zAt q 80)).box) (xs:=[PV.agg (zAt q 80)]) (x:=PV.agg (zAt q 80)) rfl rfl (zEY (F:=q) (m:=80) (j:=h*8+((zAj n).getD (cs.getD i default).fst.toNat 0).toNat) (by first | rfl | exact zB1 (by kernel_rfl) | exact zB6 (by kernel_rfl) | exact zB0 (by kernel_rfl) (by kernel_rfl) | exact zB8 (by kernel_rfl) | exact zCa (by kernel_rfl) (by kernel_rfl) | exact zB5 (by kernel_rfl) | (simp;done)) (by omega)):zAs 3 (PV.agg (zAt q 80)).box [] 0 (0+(↑h:Int).toNat*(fun x=>x.size) Try.prog.types[89]+((zAj n).getD (cs.getD i default).fst.toNat 0).toNat*(fun x=>x.size) Try.prog.types[3]) 1=some (true,[I (q.getD (h*8+((zAj n).getD (cs.getD i default).fst.toNat 0).toNat) 0)])) an)<|zAc 3<|S_a [(9,.ret (I (max (q.getD (h*8+((zAj n).getD (cs.getD i default).fst.toNat 0).toNat) 0) (cs.getD i default).fst)) [])] (ap (f94 (q.getD (h*8+((zAj n).getD (cs.getD i default).fst.toNat 0).toNat) 0) ((cs.getD i default).fst)) an)<|S_a [(2,.ob)] (ap ((by exact zAp (by omega)):decide (h<10)=true) an)<|S_a [(0,.ob),(1,.ob)] (ap ((by exact zAp (by omega)):decide (0≤(zAj n).getD (cs.getD i default).fst.toNat 0)=true)<|ap ((by exact zAp (by omega)):decide (((zAj n).getD (cs.getD i default).fst.toNat 0).toNat<8)=true) an)<|S_a [(8,.root ((PV.agg (zAt (q.set (h*8+((zAj n).getD (cs.getD i default).fst.toNat 0).toNat) (max (q.getD (h*8+((zAj n).getD (cs.getD i default).fst.toNat 0).toNat) 0) (cs.getD i default).fst)) 80)).box) true)] (ap (zPR (zKc (q:=(PV.agg (zAt q 80)).box) (xs:=[PV.agg (zAt q 80)]) (x:=PV.agg (zAt q 80)) (y:=PV.agg (zAt (q.set (h*8+((zAj n).getD (cs.getD i default).fst.toNat 0).toNat) (max (q.getD (h*8+((zAj n).getD (cs.getD i default).fst.toNat 0).toNat) 0) (cs.getD i default).fst)) 80)) (q':=(PV.agg (zAt (q.set (h*8+((zAj n).getD (cs.getD i default).fst.toNat 0).toNat) (max (q.getD (h*8+((zAj n).getD (cs.getD i default).fst.toNat 0).toNat) 0) (cs.getD i default).fst)) 80)).box) rfl (zNb (F:=q) (m:=80) (j:=h*8+((zAj n).getD (cs.getD i default).fst.toNat 0).toNat) (u:=max (q.getD (h*8+((zAj n).getD (cs.getD i default).fst.toNat 0).toNat) 0) (cs.getD i default).fst) (by first | rfl | exact zB1 (by kernel_rfl) | exact zB6 (by kernel_rfl) | exact zB0 (by kernel_rfl) (by kernel_rfl) | exact zB8 (by kernel_rfl) | exact zCa (by kernel_rfl) (by kernel_rfl) | exact zB5 (by kernel_rfl) | (simp;done)) (by omega) (by omega)) rfl (hb:=zNq (F:=q) (m:=80) (j:=h*8+((zAj n).getD (cs.getD i default).fst.toNat 0).toNat) (by first | rfl | exact zB1 (by kernel_rfl) | exact zB6 (by kernel_rfl) | exact zB0 (by kernel_rfl) (by kernel_rfl) | exact zB8 (by kernel_rfl) | exact zCa (by kernel_rfl) (by kernel_rfl) | exact zB5 (by kernel_rfl) | (simp;done)) (by omega))) rfl:zBw (PV.agg (zAt q 80)).box [] 0 (0+(↑h:Int).toNat*(fun x=>x.size) Try.prog.types[89]+((zAj n).getD (cs.getD i default).fst.toNat 0).toNat*(fun x=>x.size) Try.prog.types[3]) (I (max (q.getD (h*8+((zAj n).getD (cs.getD i default).fst.toNat 0).toNat) 0) (cs.getD i default).fst)).cells=some (PV.agg (zAt (q.set (h*8+((zAj n).getD (cs.getD i default).fst.toNat 0).toNat) (max (q.getD (h*8+((zAj n).getD (cs.getD i default).fst.toNat 0).toNat) 0) (cs.getD i default).fst)) 80)).box∧zAF (PV.agg (zAt q 80)).box (PV.agg (zAt (q.set (h*8+((zAj n).getD (cs.getD i default).fst.toNat 0).toNat) (max (q.getD (h*8+((zAj n).getD (cs.getD i default).fst.toNat 0).toNat) 0) (cs.getD i default).fst)) 80)).box []=true) an)<|zAa<|zAg<|S_a [(1,.v (I (↑(i+1):Int)))] (ap (wrN i) an)<|zAc 1<|zAa ?_)) (fun k0=>(zAl<|zAg<|S_a [(1,.v (I (↑(i+1):Int)))] (ap (wrN i) an)<|zAc 1<|zAa ?_))
    ·rw [begC,if_pos k0] at yw
     exact ⟨(i+1,zP5 q (h*8+((zAj n).getD (cs.getD i default).1.toNat 0).toNat) (cs.getD i default).1),⟨by omega,yw.symm⟩,by simp only;omega,by kernel_rfl,by kernel_rfl⟩
    ·rw [begC,if_neg (by rw [k0];simp)] at yw
     exact ⟨(i+1,q),⟨by omega,yw.symm⟩,by simp only;omega,by kernel_rfl,by kernel_rfl⟩
   ·refine zAd 1<|zAa<|zAh<|zBd ((↑i:Int)<(↑cs.length:Int)) (by omega)<|zAO 6<|zAg<|S_a [(1,.v (I (↑(h+1):Int)))] (ap (wrN h) an)<|zAc 1<|zAa ?_
    rw [List.take_of_length_le (by omega)] at hq
    exact ⟨(h+1,q),⟨by omega,by rw [yH,hq]⟩,by simp only;omega,by kernel_rfl,by kernel_rfl⟩
  ·have e:h=n.h.toNat:=by omega
   subst e
   refine zAd 1<|zAa<|zAh<|zBd ((↑n.h.toNat:Int)<n.h) (by omega)<|zAO 4<|zAd 2<|zAa<|zAn<|E_a [] an (PV.agg (zAt v 80)) [] ?_ rfl
   rw [hv];rfl
theorem zQ7 {n:Nw} {h o m:Nat} (ho:o∈zHT n h m):o<m:=by
 simp only [zHT,List.mem_filter,List.mem_range] at ho;exact ho.1
theorem zTR {w:List Int} {o i:Nat} (hi:i<8):((w.drop o).take 8).getD i 0=w.getD (o+i) 0:=by
 simp [List.getD_eq_getElem?_getD,List.getElem?_take,hi]
theorem f84 (n:Nw) (cs:List (Int×Int)) (now:List Int) (ho:NwOk n) (hw:now.length=80):FG 84 [zDT n cs,hdV now] (hdV (zCz n now)):=by
 have hb:=ho.h
 refine zAe Try.f84 ?_
 refine zAd 2<|zAa<|zAd 3<|zAa<|zAh<|zAd 6<|zAa<|zAk 0 ?_
 refine zAz (fun (h,v)=>h≤n.h.toNat∧v=nxtN n now h) (fun (h,v)=>[(5,.box (hdV v)),(16,I (h:Nat))]) (fun (h,_)=>n.h.toNat-h) ((0:Nat),now) ⟨by omega,rfl⟩ fun (h,v) ⟨hh,hv⟩=>?_
 have jp:v.length=80:=by rw [hv,zH8];exact hw
 by_cases gw:(h:Int)<n.h
 ·have yH:=zJz (n:=n) (now:=now) (h:=h)
  rw [← hv] at yH
  have hA:=zT7 n cs h ho gw
  refine zAd 1<|zAa<|zAh<|zA5 ((↑h:Int)<n.h) (by omega)<|zAl<|zAh<|zAk 1<|zAd 3<|zAa<|zAd 2<|S_a [(7,.ret (PV.func 112 [] [(zDT n cs).ref,(I (↑h:Int)).ref]) [])] (ap (f87 n cs ((↑h:Int))) an)<|zAa<|zAk 2 ?_
  refine zOI (t:=21) hA (fun j q=>q=nxtH now h v ((zHT n h n.h.toNat).take j)) (fun q=>[(5,.box (hdV q))]) v rfl (fun j x q hx hq=>?_) (fun q hq=>?_)
  ·rw [List.getElem?_map] at hx
   obtain ⟨o,hm,rfl⟩:=Option.map_eq_some_iff.1 hx
   have hj:j<(zHT n h n.h.toNat).length:=(List.getElem?_eq_some_iff.1 hm).1
   have hol:o<n.h.toNat:=zQ7 (List.mem_of_getElem? hm)
   have qc:q.length=80:=by rw [hq,zKX];exact jp
   have yw:=zRZ (now:=now) (h:=h) (w:=v) hj
   rw [← hq,show (zHT n h n.h.toNat).getD j 0=o by simp [List.getD_eq_getElem?_getD,hm]] at yw
   clear yH hv hA hq hm hj
   refine zOE ?_
   refine zAg<|zAc 1<|zAa ?_
   refine ⟨rfl,by kernel_rfl,?_⟩
   refine zAk 3<|zAd 1<|S_a [(2,.ob)] (ap ((by exact zAp (by omega)):decide (o<10)=true) an)<|S_a [(0,.cs true (zAt (List.take 8 (List.drop (o*8) now)) 8))] (ap (zC8 (q:=(PV.agg (zAt now 80)).box) (xs:=[PV.agg (zAt now 80)]) (x:=PV.agg (zAt now 80)) rfl rfl (zUO (K:=8) (c:=o*8) (by omega) (by first | rfl | exact zB1 (by kernel_rfl) | exact zB6 (by kernel_rfl) | exact zB5 (by kernel_rfl) | (simp;done)) (by omega) (by kernel_rfl)):zAs 3 (PV.agg (zAt now 80)).box [] 0 (0+(↑o:Int).toNat*(fun x=>x.size) Try.prog.types[89]) Try.prog.types[89].size=some (true,zAt (List.take 8 (List.drop (o*8) now)) 8)) an)<|zAc 1<|zAa<|zAk 4 ?_
   refine zAz (fun (i,p)=>i≤8∧p=nxtR now h o q i) (fun (i,p)=>[(5,.box (hdV p)),(26,I (i:Nat))]) (fun (i,_)=>8-i) ((0:Nat),q) ⟨by omega,rfl⟩ fun (i,p) ⟨hi,hp⟩=>?_
   have uH:p.length=80:=by rw [hp,zGV];exact qc
   by_cases yR:i<8
   ·have j3:=zJu (now:=now) (w:=q) (h:=h) (o:=o) (k:=i)
    rw [← hp,← zTR yR] at j3
    refine zAd 1<|zAa<|zAh<|zA5 ((↑i:Int)<8) (by omega)<|zAl<|zAh<|zAk 5<|zAd 1<|S_a [(2,.ob),(0,.v (I ((List.take 8 (List.drop (o*8) now)).getD i 0)))] (ap ((by exact zAp (by omega)):decide (i<8)=true)<|ap (zTz (F:=List.take 8 (List.drop (o*8) now)) (m:=8) (j:=i) (by omega):sub (PV.agg (zAt (List.take 8 (List.drop (o*8) now)) 8)) (i*(fun x=>x.size) Try.prog.types[3]) none=some (I ((List.take 8 (List.drop (o*8) now)).getD i 0))) an)<|zAc 2<|zAa<|zAg<|zAc 4<|S_a [(2,.ob)] (ap ((by exact zAp (by omega)):decide (h<10)=true) an)<|S_a [(2,.ob)] (ap ((by exact zAp (by omega)):decide (i<8)=true) an)<|S_a [(0,.cs true ([I (p.getD (h*8+i) 0)]))] (ap (zC8 (q:=(PV.agg (zAt p 80)).box) (xs:=[PV.agg (zAt p 80)]) (x:=PV.agg (zAt p 80)) rfl rfl (zEY (F:=p) (m:=80) (j:=h*8+i) (by first | rfl | exact zB1 (by kernel_rfl) | exact zB6 (by kernel_rfl) | exact zB0 (by kernel_rfl) (by kernel_rfl) | exact zB8 (by kernel_rfl) | exact zCa (by kernel_rfl) (by kernel_rfl) | exact zB5 (by kernel_rfl) | (simp;done)) (by omega)):zAs 5 (PV.agg (zAt p 80)).box [] 0 (0+(↑h:Int).toNat*(fun x=>x.size) Try.prog.types[89]+(↑i:Int).toNat*(fun x=>x.size) Try.prog.types[3]) 1=some (true,[I (p.getD (h*8+i) 0)])) an)<|zAc 2<|S_a [(9,.ret (I (max (p.getD (h*8+i) 0) ((List.take 8 (List.drop (o*8) now)).getD i 0))) [])] (ap (f94 (p.getD (h*8+i) 0) ((List.take 8 (List.drop (o*8) now)).getD i 0)) an)<|S_a [(2,.ob)] (ap ((by exact zAp (by omega)):decide (h<10)=true) an)<|S_a [(2,.ob)] (ap ((by exact zAp (by omega)):decide (i<8)=true) an)<|S_a [(8,.root ((PV.agg (zAt (p.set (h*8+i) (max (p.getD (h*8+i) 0) ((List.take 8 (List.drop (o*8) now)).getD i 0))) 80)).box) true)] (ap (zPR (zKc (q:=(PV.agg (zAt p 80)).box) (xs:=[PV.agg (zAt p 80)]) (x:=PV.agg (zAt p 80)) (y:=PV.agg (zAt (p.set (h*8+i) (max (p.getD (h*8+i) 0) ((List.take 8 (List.drop (o*8) now)).getD i 0))) 80)) (q':=(PV.agg (zAt (p.set (h*8+i) (max (p.getD (h*8+i) 0) ((List.take 8 (List.drop (o*8) now)).getD i 0))) 80)).box) rfl (zNb (F:=p) (m:=80) (j:=h*8+i) (u:=max (p.getD (h*8+i) 0) ((List.take 8 (List.drop (o*8) now)).getD i 0)) (by first | rfl | exact zB1 (by kernel_rfl) | exact zB6 (by kernel_rfl) | exact zB0 (by kernel_rfl) (by kernel_rfl) | exact zB8 (by kernel_rfl) | exact zCa (by kernel_rfl) (by kernel_rfl) | exact zB5 (by kernel_rfl) | (simp;done)) (by omega) (by omega)) rfl (hb:=zNq (F:=p) (m:=80) (j:=h*8+i) (by first | rfl | exact zB1 (by kernel_rfl) | exact zB6 (by kernel_rfl) | exact zB0 (by kernel_rfl) (by kernel_rfl) | exact zB8 (by kernel_rfl) | exact zCa (by kernel_rfl) (by kernel_rfl) | exact zB5 (by kernel_rfl) | (simp;done)) (by omega))) rfl:zBw (PV.agg (zAt p 80)).box [] 0 (0+(↑h:Int).toNat*(fun x=>x.size) Try.prog.types[89]+(↑i:Int).toNat*(fun x=>x.size) Try.prog.types[3]) (I (max (p.getD (h*8+i) 0) ((List.take 8 (List.drop (o*8) now)).getD i 0))).cells=some (PV.agg (zAt (p.set (h*8+i) (max (p.getD (h*8+i) 0) ((List.take 8 (List.drop (o*8) now)).getD i 0))) 80)).box∧zAF (PV.agg (zAt p 80)).box (PV.agg (zAt (p.set (h*8+i) (max (p.getD (h*8+i) 0) ((List.take 8 (List.drop (o*8) now)).getD i 0))) 80)).box []=true) an)<|zAa<|zAg<|S_a [(1,.v (I (↑(i+1):Int)))] (ap (wrN i) an)<|zAc 1<|zAa ?_
    exact ⟨(i+1,_),⟨by omega,j3.symm⟩,by simp only;omega,by kernel_rfl,by kernel_rfl⟩
   ·refine zAd 1<|zAa<|zAh<|zBd ((↑i:Int)<8) (by omega)<|zAO 4 ?_
    rw [show i=8 by omega] at hp
    exact ⟨by kernel_rfl,p,by rw [yw,hp],by kernel_rfl⟩
  ·rw [List.length_map,List.take_length] at hq
   show W _ _ _ _ _ _ _ _
   refine zAg<|S_a [(1,.v (I (↑(h+1):Int)))] (ap (wrN h) an)<|zAc 1<|zAa ?_
   exact ⟨(h+1,q),⟨by omega,by rw [yH,hq]⟩,by simp only;omega,by kernel_rfl,by kernel_rfl⟩
 ·have e:h=n.h.toNat:=by omega
  subst e
  refine zAd 1<|zAa<|zAh<|zBd ((↑n.h.toNat:Int)<n.h) (by omega)<|zAO 0<|zAd 2<|zAa<|zAn<|E_a [] an (PV.agg (zAt v 80)) [] ?_ rfl
  rw [hv];rfl
end Go.Eng
