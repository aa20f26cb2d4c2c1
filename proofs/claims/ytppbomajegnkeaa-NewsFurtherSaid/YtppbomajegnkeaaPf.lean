/- For whatever bytes, the law NewsFurther returns true and changes no argument: with a zEP cry of the last notice of a chain no j9 is left that was not, and the gaps that any cry mends are those that are there no more with it. -/
import Derived.Test.YtppbomajegnkeaaPe
import Derived.Test.YtppbomajegnkeaaPd
set_option linter.unusedVariables false
set_option linter.unusedSimpArgs false
set_option linter.unusedSectionVars false
set_option maxRecDepth 10000
set_option maxHeartbeats 4000000
namespace Go.Eng
open Go Go.Proofs
def zJo (h:Int) (x:Int×Int):Bool:=inB x.1 0 (h-1)&&inB x.2 0 (h-1)
def zJQ (x:Int×Int):Bool:=decide (x.1≠x.2)
def zCJ (h:Int) (l:List (Int×Int)):Int:=if (l.all fun x=>zJo h x)=true then if (l.all fun x=>zJQ x)=true then if (l.map pr2).Nodup then 0 else 5 else 8 else 1
def zRY (l:List (Int×Bool)):Bool:=(List.range l.length).all fun i=>inB (l.getD i default).1 (-1) ((i:Int)-1)
def zLL (l:List (Int×Bool)) (i:Nat):Bool:=decide ((l.getD i default).1≠-1)&&(l.take i).any fun y=>decide (y.1=(l.getD i default).1)
def zDR (l:List (Int×Bool)):Int:=if zRY l=true then if (List.range l.length).any (zLL l)=true then 5 else 0 else 1
def zDW (l:List Int):Bool:=zFC l&&decide ((zGK l).length=l.length)
def zKv (h:Int) (l:List Int):Bool:=l.all fun x=>inB x 0 (h-1)
def zGE (n:Nw):Int :=
 if (!inB n.h 1 10)=true then 2 else if (n.l.length:Int)>15 then 2 else if (!inB n.n.length 1 8)=true then 2 else if (!inB n.s.length 1 6)=true then 2
 else if zCJ n.h n.l=0 then
  if zDR n.n=0 then
   if (!n.s.all fun x=>zKv n.h x)=true then 1 else if (!n.s.all fun x=>zDW x)=true then 4 else 0
  else zDR n.n
 else zCJ n.h n.l
theorem zVM {n lo hi:Int} (h:(!inB n lo hi)=false):lo≤n∧n≤hi:=by simpa [inB] using h
abbrev zBE (x:Int×Int):PV×PV:=(prV x,.bool true)
theorem zOn {M:List (Int×Int)} (x:Int×Int):zC8 Try.prog 79 (prV x) (M.map zBE) 0=some (M.findIdx? fun y=>decide (x=y)):=by
 rw [zMG (kx:=Prod.fst) (ky:=Prod.snd) (fun _=>rfl) (zR7) x.1 x.2 M 0]
 simp [zPU]
theorem zRS {M:List (Int×Int)} {x:Int×Int} (h:x∈M):∃ j,j<M.length∧zC8 Try.prog 79 (prV x) (M.map zBE) 0=some (some j):=by
 rw [zOn]
 cases hf:M.findIdx? fun y=>decide (x=y) with
 | none =>
  rw [List.findIdx?_eq_none_iff] at hf
  have:=hf x h;simp at this
 | some j=>exact ⟨j,(List.findIdx?_eq_some_iff_getElem.1 hf).1,rfl⟩
theorem zKR {M:List (Int×Int)} {x:Int×Int} (h:x∉M):zC8 Try.prog 79 (prV x) (M.map zBE) 0=some none:=by
 rw [zOn,List.findIdx?_eq_none_iff.2]
 intro y hy
 simp only [decide_eq_false_iff_not]
 intro e;subst e;exact h hy
structure Small (n:Nw):Prop where
 hl:n.l.length<1000000
 hn:n.n.length<1000000
 hs:n.s.length<1000000
 hr:∀ x∈n.s,x.length<1000000
section
variable [Yo]
theorem f98 (n:Nw) (x:Int×Int) (hb:1≤n.h∧n.h≤10):FG 98 [prV x,.ref (nwV n)] (.bool (zJo n.h x)):=by
 refine zAf Try.f98 ?_
 refine zAd 2<|zAa<|zAd 1<|zAc 1<|zAc 1<|S_a [(8,.ret (PV.bool (inB x.fst 0 (n.h-1))) [])] (ap (f69 n x.fst (by omega)) an)<|zAc 1<|zGl 8 (inB x.fst 0 (n.h-1)) (fun k0=>(zAc 1<|zAc 1<|zAc 1<|S_a [(8,.ret (PV.bool (inB x.snd 0 (n.h-1))) [])] (ap (f69 n x.snd (by omega)) an)<|zAc 2<|zAa<|zAn<|E_a [] an (PV.bool (inB x.snd 0 (n.h-1))) [] ?_ rfl)) (fun k0=>(zAc 6<|zAa<|zAn<|E_a [] an (PV.bool false) [] ?_ rfl))
 ·simp only [zJo,k0,Bool.true_and]
 ·simp only [zJo,k0,Bool.false_and]
theorem f99 (x:Int×Int):FG 99 [prV x] (.bool (zJQ x)):=by
 refine zAf Try.f99 ?_
 refine zAd 2<|zAa<|zAd 1<|zAc 1<|zAc 1<|zAc 3<|zAa<|zAn<|E_a [] an (PV.bool (x.fst != x.snd)) [] ?_ rfl
 congr 1;rw [Bool.eq_iff_iff];simp [zJQ]
theorem f101 (x y:Int×Bool):FG 101 [ntV y,.ref (ntV x)] (.bool (decide (y.1=x.1))):=by
 refine zAf Try.f101 ?_
 refine zAd 2<|zAa<|zAd 6<|zAa<|zAn<|E_a [] an (PV.bool (y.fst==x.fst)) [] rfl rfl
theorem f105_1 (n:Nw) (hb:1≤n.h∧n.h≤10) (x:Int):FG 105 [I x,.ref (.func 69 [nwV n] [])] (.bool (!(inB x 0 (n.h-1)))):=by
 refine zAf Try.f105 ?_
 refine zAd 1<|zAa<|zAd 2<|S_a [(8,.ret (PV.bool (inB x 0 (n.h-1))) [])] (ap (f69 n x (by omega)) an)<|zAc 2<|zAa<|zAn<|E_a [] an (PV.bool !inB x 0 (n.h-1)) [] rfl rfl
theorem f123_1 (n:Nw) (hb:1≤n.h∧n.h≤10) (l:List (Int)) (hl:l.length<4294967296):FG 123 [.sl (l.map I),.func 105 [] [.ref (.func 69 [nwV n] [])]] (I (zEg (fun x => !(inB x 0 (n.h-1))) l)):=by
 refine zAf Try.f123 ?_
 refine zAd 1<|zAa<|zAh<|zAd 1<|S_a [(0,.n l.length)] (ap (lnS I l) an)<|zAc 1<|zAa<|zAk 0 ?_
 refine zAD (fun i=>i≤l.length∧∀ j,j<i→(fun x => !(inB x 0 (n.h-1))) (l.getD j 0)=false) (fun i=>[(8,I (i:Nat))]) (fun i=>l.length-i) (0:Nat) (by simp) fun i ⟨hi,ha⟩=>?_
 refine zAd 1<|zAa<|zAh<|zDo ((↑i:Int)<(↑l.length:Int)) (fun k0=>(zAl<|zAh<|zAk 1<|zAd 2<|zAa<|zAd 3<|S_a [(2,.v (I (l.getD i 0)))] (ap (zDn (0) (by omega):(List.map I l)[i]? = some (I (l.getD i 0))) an)<|zAc 1<|S_a [(7,.ret (PV.bool !inB (l.getD i 0) 0 (n.h-1)) [])] (ap (f105_1 n (by omega) (l.getD i 0)) an)<|zAa<|zFh (!inB (l.getD i 0) 0 (n.h-1)) (fun k1=>(zAd 2<|zAa<|zAn<|E_a [] an (I (↑i:Int)) [] ?_ rfl)) (fun k1=>(zAl<|zAg<|S_a [(1,.v (I (↑(i+1):Int)))] (ap (wrN i) an)<|zAc 1<|zAa ?_)))) (fun k0=>(zAS 0<|zAd 1<|zAa<|zAn<|E_a [] an (I (-1)) [] ?_ rfl))
 ·rw [zBS (i:=i) (by omega) (fun j hj=>by rw [← zAH (d:=0)];exact ha j hj) (by rw [← zAH (d:=0)];first | assumption | exact decide_eq_true ‹_› | (simp only [Bool.not_eq_true',decide_eq_false_iff_not];assumption))]
 ·refine ⟨i+1,⟨by omega,fun j hj=>?_⟩,by omega,by kernel_rfl,by kernel_rfl⟩
  rcases Nat.lt_succ_iff_lt_or_eq.1 hj with h | rfl
  ·exact ha j h
  ·first | assumption | exact decide_eq_false ‹_› | (simp only [Bool.not_eq_false',decide_eq_true_eq];first | assumption | (apply Decidable.of_not_not;assumption))
 ·rw [zCc fun j hj=>by rw [← zAH (d:=0)];exact ha j (by omega)]
theorem f104_1 (n:Nw) (hb:1≤n.h∧n.h≤10) (l:List (Int)) (hl:l.length<4294967296):FG 104 [.sl (l.map I),.func 105 [] [.ref (.func 69 [nwV n] [])]] (.bool (l.any (fun x => !(inB x 0 (n.h-1))))):=by
 refine zAf Try.f104 ?_
 refine zAd 1<|zAa<|zAd 2<|S_a [(7,.ret (I (zEg (fun x => !inB x 0 (n.h-1)) l)) [])] (ap (f123_1 n (by omega) l (by omega)) an)<|zAc 2<|zAa<|zAn<|E_a [] an (PV.bool (decide (zEg (fun x => !inB x 0 (n.h-1)) l≥0))) [] ?_ rfl
 rw [zDP]
theorem f68_1 (n:Nw) (hb:1≤n.h∧n.h≤10) (l:List (Int)) (hl:l.length<4294967296):FG 68 [.sl (l.map I),.func 69 [nwV n] []] (.bool (l.all (fun x=>inB x 0 (n.h-1)))):=by
 refine zAf Try.f68 ?_
 refine zAd 2<|zAa<|zAd 2<|S_a [(12,.ret (PV.bool (l.any fun x => !inB x 0 (n.h-1))) [])] (ap (f104_1 n (by omega) l (by omega)) an)<|zAc 2<|zAa<|zAn<|E_a [] an (PV.bool !l.any fun x => !inB x 0 (n.h-1)) [] ?_ rfl
 simp [List.not_any_eq_all_not]
theorem f120_1 (n:Nw) (hb:1≤n.h∧n.h≤10) (x:Int×Int):FG 120 [prV x,.ref (.func 98 [] [.ref (nwV n)])] (.bool (!(zJo n.h x))):=by
 refine zAf Try.f120 ?_
 refine zAd 2<|zAa<|zAd 2<|S_a [(7,.ret (PV.bool (zJo n.h x)) [])] (ap (f98 n x (by omega)) an)<|zAc 2<|zAa<|zAn<|E_a [] an (PV.bool !zJo n.h x) [] rfl rfl
theorem f109_1 (n:Nw) (hb:1≤n.h∧n.h≤10) (l:List (Int×Int)) (hl:l.length<4294967296):FG 109 [.sl (l.map prV),.func 120 [] [.ref (.func 98 [] [.ref (nwV n)])]] (I (zEg (fun x => !(zJo n.h x)) l)):=by
 refine zAf Try.f109 ?_
 refine zAd 1<|zAa<|zAh<|zAd 1<|S_a [(0,.n l.length)] (ap (lnS prV l) an)<|zAc 1<|zAa<|zAk 0 ?_
 refine zAD (fun i=>i≤l.length∧∀ j,j<i→(fun x => !(zJo n.h x)) (l.getD j default)=false) (fun i=>[(8,I (i:Nat))]) (fun i=>l.length-i) (0:Nat) (by simp) fun i ⟨hi,ha⟩=>?_
 refine zAd 1<|zAa<|zAh<|zDo ((↑i:Int)<(↑l.length:Int)) (fun k0=>(zAl<|zAh<|zAk 1<|zAd 2<|zAa<|zAd 3<|S_a [(2,.v (PV.agg [I (l.getD i default).fst,I (l.getD i default).snd]))] (ap (zDn default (by omega):(List.map prV l)[i]? = some (PV.agg [I (l.getD i default).fst,I (l.getD i default).snd])) an)<|zAc 1<|S_a [(7,.ret (PV.bool !zJo n.h (l.getD i default)) [])] (ap (f120_1 n (by omega) (l.getD i default)) an)<|zAa<|zFh (!zJo n.h (l.getD i default)) (fun k1=>(zAd 2<|zAa<|zAn<|E_a [] an (I (↑i:Int)) [] ?_ rfl)) (fun k1=>(zAl<|zAg<|S_a [(1,.v (I (↑(i+1):Int)))] (ap (wrN i) an)<|zAc 1<|zAa ?_)))) (fun k0=>(zAS 0<|zAd 1<|zAa<|zAn<|E_a [] an (I (-1)) [] ?_ rfl))
 ·rw [zBS (i:=i) (by omega) (fun j hj=>by rw [← zAH (d:=default)];exact ha j hj) (by rw [← zAH (d:=default)];first | assumption | exact decide_eq_true ‹_› | (simp only [Bool.not_eq_true',decide_eq_false_iff_not];assumption))]
 ·refine ⟨i+1,⟨by omega,fun j hj=>?_⟩,by omega,by kernel_rfl,by kernel_rfl⟩
  rcases Nat.lt_succ_iff_lt_or_eq.1 hj with h | rfl
  ·exact ha j h
  ·first | assumption | exact decide_eq_false ‹_› | (simp only [Bool.not_eq_false',decide_eq_true_eq];first | assumption | (apply Decidable.of_not_not;assumption))
 ·rw [zCc fun j hj=>by rw [← zAH (d:=default)];exact ha j (by omega)]
theorem f80_1 (n:Nw) (hb:1≤n.h∧n.h≤10) (l:List (Int×Int)) (hl:l.length<4294967296):FG 80 [.sl (l.map prV),.func 120 [] [.ref (.func 98 [] [.ref (nwV n)])]] (.bool (l.any (fun x => !(zJo n.h x)))):=by
 refine zAf Try.f80 ?_
 refine zAd 1<|zAa<|zAd 2<|S_a [(7,.ret (I (zEg (fun x => !zJo n.h x) l)) [])] (ap (f109_1 n (by omega) l (by omega)) an)<|zAc 2<|zAa<|zAn<|E_a [] an (PV.bool (decide (zEg (fun x => !zJo n.h x) l≥0))) [] ?_ rfl
 rw [zDP]
theorem f97_1 (n:Nw) (hb:1≤n.h∧n.h≤10) (l:List (Int×Int)) (hl:l.length<4294967296):FG 97 [.sl (l.map prV),.func 98 [] [.ref (nwV n)]] (.bool (l.all (fun x=>zJo n.h x))):=by
 refine zAf Try.f97 ?_
 refine zAd 2<|zAa<|zAd 2<|S_a [(12,.ret (PV.bool (l.any fun x => !zJo n.h x)) [])] (ap (f80_1 n (by omega) l (by omega)) an)<|zAc 2<|zAa<|zAn<|E_a [] an (PV.bool !l.any fun x => !zJo n.h x) [] ?_ rfl
 simp [List.not_any_eq_all_not]
theorem f120_2  (x:Int×Int):FG 120 [prV x,.ref (.func 99 [] [])] (.bool (!(zJQ x))):=by
 refine zAf Try.f120 ?_
 refine zAd 2<|zAa<|zAd 2<|S_a [(6,.ret (PV.bool (zJQ x)) [])] (ap (f99 x) an)<|zAc 2<|zAa<|zAn<|E_a [] an (PV.bool !zJQ x) [] rfl rfl
theorem f109_2  (l:List (Int×Int)) (hl:l.length<4294967296):FG 109 [.sl (l.map prV),.func 120 [] [.ref (.func 99 [] [])]] (I (zEg (fun x => !(zJQ x)) l)):=by
 refine zAf Try.f109 ?_
 refine zAd 1<|zAa<|zAh<|zAd 1<|S_a [(0,.n l.length)] (ap (lnS prV l) an)<|zAc 1<|zAa<|zAk 0 ?_
 refine zAD (fun i=>i≤l.length∧∀ j,j<i→(fun x => !(zJQ x)) (l.getD j default)=false) (fun i=>[(8,I (i:Nat))]) (fun i=>l.length-i) (0:Nat) (by simp) fun i ⟨hi,ha⟩=>?_
 refine zAd 1<|zAa<|zAh<|zDo ((↑i:Int)<(↑l.length:Int)) (fun k0=>(zAl<|zAh<|zAk 1<|zAd 2<|zAa<|zAd 3<|S_a [(2,.v (PV.agg [I (l.getD i default).fst,I (l.getD i default).snd]))] (ap (zDn default (by omega):(List.map prV l)[i]? = some (PV.agg [I (l.getD i default).fst,I (l.getD i default).snd])) an)<|zAc 1<|S_a [(7,.ret (PV.bool !zJQ (l.getD i default)) [])] (ap (f120_2 (l.getD i default)) an)<|zAa<|zFh (!zJQ (l.getD i default)) (fun k1=>(zAd 2<|zAa<|zAn<|E_a [] an (I (↑i:Int)) [] ?_ rfl)) (fun k1=>(zAl<|zAg<|S_a [(1,.v (I (↑(i+1):Int)))] (ap (wrN i) an)<|zAc 1<|zAa ?_)))) (fun k0=>(zAS 0<|zAd 1<|zAa<|zAn<|E_a [] an (I (-1)) [] ?_ rfl))
 ·rw [zBS (i:=i) (by omega) (fun j hj=>by rw [← zAH (d:=default)];exact ha j hj) (by rw [← zAH (d:=default)];first | assumption | exact decide_eq_true ‹_› | (simp only [Bool.not_eq_true',decide_eq_false_iff_not];assumption))]
 ·refine ⟨i+1,⟨by omega,fun j hj=>?_⟩,by omega,by kernel_rfl,by kernel_rfl⟩
  rcases Nat.lt_succ_iff_lt_or_eq.1 hj with h | rfl
  ·exact ha j h
  ·first | assumption | exact decide_eq_false ‹_› | (simp only [Bool.not_eq_false',decide_eq_true_eq];first | assumption | (apply Decidable.of_not_not;assumption))
 ·rw [zCc fun j hj=>by rw [← zAH (d:=default)];exact ha j (by omega)]
theorem f80_2  (l:List (Int×Int)) (hl:l.length<4294967296):FG 80 [.sl (l.map prV),.func 120 [] [.ref (.func 99 [] [])]] (.bool (l.any (fun x => !(zJQ x)))):=by
 refine zAf Try.f80 ?_
 refine zAd 1<|zAa<|zAd 2<|S_a [(7,.ret (I (zEg (fun x => !zJQ x) l)) [])] (ap (f109_2 l (by omega)) an)<|zAc 2<|zAa<|zAn<|E_a [] an (PV.bool (decide (zEg (fun x => !zJQ x) l≥0))) [] ?_ rfl
 rw [zDP]
theorem f97_2  (l:List (Int×Int)) (hl:l.length<4294967296):FG 97 [.sl (l.map prV),.func 99 [] []] (.bool (l.all (fun x=>zJQ x))):=by
 refine zAf Try.f97 ?_
 refine zAd 2<|zAa<|zAd 2<|S_a [(12,.ret (PV.bool (l.any fun x => !zJQ x)) [])] (ap (f80_2 l (by omega)) an)<|zAc 2<|zAa<|zAn<|E_a [] an (PV.bool !l.any fun x => !zJQ x) [] ?_ rfl
 simp [List.not_any_eq_all_not]
theorem f121_1 (y:Int) (yb:Bool) (l:List (Int×Bool)) (hl:l.length<4294967296):FG 121 [.sl (l.map ntV),.func 101 [] [.ref (.agg [I y,.bool yb])]] (I (zEg (fun x=>decide (x.1=y)) l)):=by
 refine zAf Try.f121 ?_
 refine zAd 1<|zAa<|zAh<|zAd 1<|S_a [(0,.n l.length)] (ap (lnS ntV l) an)<|zAc 1<|zAa<|zAk 0 ?_
 refine zAD (fun i=>i≤l.length∧∀ j,j<i→(fun x=>decide (x.1=y)) (l.getD j default)=false) (fun i=>[(8,I (i:Nat))]) (fun i=>l.length-i) (0:Nat) (by simp) fun i ⟨hi,ha⟩=>?_
 refine zAd 1<|zAa<|zAh<|zDo ((↑i:Int)<(↑l.length:Int)) (fun k0=>(zAl<|zAh<|zAk 1<|zAd 2<|zAa<|zAd 3<|S_a [(2,.v (PV.agg [I (l.getD i default).fst,PV.bool (l.getD i default).snd]))] (ap (zDn default (by omega):(List.map ntV l)[i]? = some (PV.agg [I (l.getD i default).fst,PV.bool (l.getD i default).snd])) an)<|zAc 1<|S_a [(7,.ret (PV.bool (decide ((l.getD i default).fst=(y,yb).fst))) [])] (ap (f101 ((y,yb)) (l.getD i default)) an)<|zAa<|zDo ((l.getD i default).fst=(y,yb).fst) (fun k1=>(zAd 2<|zAa<|zAn<|E_a [] an (I (↑i:Int)) [] ?_ rfl)) (fun k1=>(zAl<|zAg<|S_a [(1,.v (I (↑(i+1):Int)))] (ap (wrN i) an)<|zAc 1<|zAa ?_)))) (fun k0=>(zAS 0<|zAd 1<|zAa<|zAn<|E_a [] an (I (-1)) [] ?_ rfl))
 ·rw [zBS (i:=i) (by omega) (fun j hj=>by rw [← zAH (d:=default)];exact ha j hj) (by rw [← zAH (d:=default)];first | assumption | exact decide_eq_true ‹_› | (simp only [Bool.not_eq_true',decide_eq_false_iff_not];assumption))]
 ·refine ⟨i+1,⟨by omega,fun j hj=>?_⟩,by omega,by kernel_rfl,by kernel_rfl⟩
  rcases Nat.lt_succ_iff_lt_or_eq.1 hj with h | rfl
  ·exact ha j h
  ·first | assumption | exact decide_eq_false ‹_› | (simp only [Bool.not_eq_false',decide_eq_true_eq];first | assumption | (apply Decidable.of_not_not;assumption))
 ·rw [zCc fun j hj=>by rw [← zAH (d:=default)];exact ha j (by omega)]
theorem f100_1 (y:Int) (yb:Bool) (l:List (Int×Bool)) (hl:l.length<4294967296):FG 100 [.sl (l.map ntV),.func 101 [] [.ref (.agg [I y,.bool yb])]] (.bool (l.any (fun x=>decide (x.1=y)))):=by
 refine zAf Try.f100 ?_
 refine zAd 1<|zAa<|zAd 2<|S_a [(7,.ret (I (zEg (fun x=>decide (x.fst=y)) l)) [])] (ap (f121_1 y yb l (by omega)) an)<|zAc 2<|zAa<|zAn<|E_a [] an (PV.bool (decide (zEg (fun x=>decide (x.fst=y)) l≥0))) [] ?_ rfl
 rw [zDP]
theorem f64 (n:Nw) (hb:1≤n.h∧n.h≤10) (hl:n.l.length≤15):FG 64 [nwV n] (I (zCJ n.h n.l)):=by
 refine zAf Try.f64 ?_
 refine zAd 2<|zAa<|zAh<|zAk 0<|zAd 3<|S_a [(13,.ret (PV.bool (n.l.all fun x=>zJo n.h x)) [])] (ap (f97_1 n (by omega) n.l (by omega)) an)<|zAc 2<|zAa<|zFh (!n.l.all fun x=>zJo n.h x) (fun k0=>(zAd 1<|zAa<|zAn<|E_a [] an (I 1) [] ?_ rfl)) (fun k0=>(zAd 2<|S_a [(7,.ret (PV.bool (n.l.all fun x=>zJQ x)) [])] (ap (f97_2 n.l (by omega)) an)<|zAc 2<|zAa<|zFh (!n.l.all fun x=>zJQ x) (fun k1=>(zAd 1<|zAa<|zAn<|E_a [] an (I 8) [] ?_ rfl)) (fun k1=>(zAl<|zAd 2<|zAa<|zAh<|zAd 2<|S_a [(0,.n n.l.length)] (ap (lnS prV n.l) an)<|zAc 1<|zAa<|zAk 1 ?_))))
 ·rw [Bool.not_eq_true'] at k0
  simp [zCJ,k0]
 ·rw [Bool.not_eq_false'] at k0
  rw [Bool.not_eq_true'] at k1
  simp [zCJ,k0,k1]
 ·refine zAD (fun (i,M)=>i≤n.l.length∧M=(n.l.take i).map pr2∧M.Nodup) (fun (i,M)=>[(3,.omap (M.map zBE)),(21,I (i:Nat))]) (fun (i,_)=>n.l.length-i) ((0:Nat),([]:List (Int×Int))) ⟨Nat.zero_le _,rfl,List.nodup_nil⟩ fun (i,M) ⟨hi,hM,hN⟩=>?_
  by_cases yW:i<n.l.length
  ·have jC:(n.l.take (i+1)).map pr2=M++[pr2 (n.l.getD i default)]:=by rw [zDk (d:=default) yW,List.map_append,← hM];rfl
   by_cases hin:pr2 (n.l.getD i default)∈M
   ·obtain ⟨j,hj,jG⟩:=zRS hin
    have kC:zJB (M.map zBE) j=some (.bool true):=by simp [zJB,hj]
    refine zAd 1<|zAa<|zAh<|zBj ((↑i:Int)<(↑n.l.length:Int)) (by omega)<|zAl<|zAh<|zAk 2<|zAh<|zAg<|S_a [(2,.v (PV.agg [I (n.l.getD i default).fst,I (n.l.getD i default).snd]))] (ap (zDn default (by omega):(List.map prV n.l)[i]? = some (PV.agg [I (n.l.getD i default).fst,I (n.l.getD i default).snd])) an)<|zAc 3<|zAa<|zAh<|zAd 2<|S_a [(6,.ret (prV (pr2 (n.l.getD i default))) [])] (ap (f93 (n.l.getD i default)) an)<|S_a [(3,.ix (some j)),(0,.v (PV.bool true))] (ap jG<|ap (kC:zJB (List.map zBE M) j=some (PV.bool true)) an)<|zAa<|zEb<|zAd 1<|zAa<|zAn<|E_a [] an (I 5) [] ?_ rfl
    rw [Bool.not_eq_false'] at k0 k1
    have yV:¬ (n.l.map pr2).Nodup:=fun h=>by
     rw [← List.take_append_drop (i+1) n.l,List.map_append,jC] at h
     have h2:=(List.nodup_append.1 h).1
     have h3:=(List.nodup_append.1 h2).2.2
     exact h3 _ hin _ (List.mem_singleton.2 rfl) rfl
    simp only [zCJ,k0,k1,yV,if_true,if_false]
   ·have jG:=zKR hin
    refine zAd 1<|zAa<|zAh<|zBj ((↑i:Int)<(↑n.l.length:Int)) (by omega)<|zAl<|zAh<|zAk 2<|zAh<|zAg<|S_a [(2,.v (PV.agg [I (n.l.getD i default).fst,I (n.l.getD i default).snd]))] (ap (zDn default (by omega):(List.map prV n.l)[i]? = some (PV.agg [I (n.l.getD i default).fst,I (n.l.getD i default).snd])) an)<|zAc 3<|zAa<|zAh<|zAd 2<|S_a [(6,.ret (prV (pr2 (n.l.getD i default))) [])] (ap (f93 (n.l.getD i default)) an)<|S_a [(3,.ix none)] (ap jG an)<|zAa<|zAK<|zAl<|zAg<|zAc 2<|S_a [(6,.ret (prV (pr2 (n.l.getD i default))) [])] (ap (f93 (n.l.getD i default)) an)<|S_a [(4,.ix none),(0,.v (PV.omap (List.map zBE (M++[pr2 (n.l.getD i default)]))))] (ap jG<|ap ((by simp):PV.omap (List.map zBE M++[(PV.agg [I (pr2 (n.l.getD i default)).fst,I (pr2 (n.l.getD i default)).snd],PV.bool true)])=PV.omap (List.map zBE (M++[pr2 (n.l.getD i default)]))) an)<|zAa<|zAg<|S_a [(1,.v (I (↑(i+1):Int)))] (ap (wrN i) an)<|zAc 1<|zAa ?_
    refine ⟨(i+1,M++[pr2 (n.l.getD i default)]),⟨by omega,jC.symm,?_⟩,by simp only;omega,by kernel_rfl,by kernel_rfl⟩
    rw [List.nodup_append]
    refine ⟨hN,by simp,fun a ha b hb=>?_⟩
    rw [List.mem_singleton] at hb;subst hb
    intro e;subst e;exact hin ha
  ·refine zAd 1<|zAa<|zAh<|zBv ((↑i:Int)<(↑n.l.length:Int)) (by omega)<|zAS 1<|zAd 1<|zAa<|zAn<|E_a [] an (I 0) [] ?_ rfl
   rw [Bool.not_eq_false'] at k0 k1
   rw [List.take_of_length_le (by omega)] at hM
   rw [hM] at hN
   simp only [zCJ,k0,k1,hN,if_true]
theorem f65 (n:Nw) (hl:n.n.length≤8):FG 65 [nwV n] (I (zDR n.n)):=by
 refine zAf Try.f65 ?_
 refine zAd 2<|zAa<|zAh<|zAd 2<|S_a [(0,.n n.n.length)] (ap (lnS ntV n.n) an)<|zAc 1<|zAa<|zAk 0 ?_
 refine zAD (fun i=>i≤n.n.length∧∀ j,j<i→inB (n.n.getD j default).1 (-1) ((j:Int)-1)=true) (fun i=>[(10,I (i:Nat))]) (fun i=>n.n.length-i) (0:Nat) ⟨Nat.zero_le _,fun j h=>absurd h (Nat.not_lt_zero _)⟩ fun i ⟨hi,ha⟩=>?_
 refine zAd 1<|zAa<|zAh<|zDo ((↑i:Int)<(↑n.n.length:Int)) (fun k0=>(zAl<|zAh<|zAk 1<|zAd 1<|S_a [(2,.v (PV.agg [I (n.n.getD i default).fst,PV.bool (n.n.getD i default).snd]))] (ap (zDn default (by omega):(List.map ntV n.n)[i]? = some (PV.agg [I (n.n.getD i default).fst,PV.bool (n.n.getD i default).snd])) an)<|zAc 4<|zAa<|zAd 3<|S_a [(1,.v (I ((↑i:Int)-1)))] (ap ((zCo rfl (by omega)):I (IntKind.i64.wrap ((↑i:Int)-1))=I ((↑i:Int)-1)) an)<|S_a [(10,.ret (PV.bool (inB (n.n.getD i default).fst (-1) ((↑i:Int)-1))) [])] (ap (f63 ((n.n.getD i default).fst) (-1) ((↑i:Int)-1)) an)<|zAc 1<|zAa<|zFh (!inB (n.n.getD i default).fst (-1) ((↑i:Int)-1)) (fun k1=>(zAd 1<|zAa<|zAn<|E_a [] an (I 1) [] ?_ rfl)) (fun k1=>(zAl<|zAg<|S_a [(1,.v (I (↑(i+1):Int)))] (ap (wrN i) an)<|zAc 1<|zAa ?_)))) (fun k0=>(zAS 0<|zAh<|zAd 2<|S_a [(0,.n n.n.length)] (ap (lnS ntV n.n) an)<|zAc 1<|zAa<|zAk 2 ?_))
 ·rw [Bool.not_eq_true'] at k1
  have:zRY n.n=false:=by
   simp only [zRY,List.all_eq_false]
   exact ⟨i,List.mem_range.2 (by omega),by simpa using k1⟩
  simp [zDR,this]
 ·rw [Bool.not_eq_false'] at k1
  refine ⟨i+1,⟨by omega,fun j hj=>?_⟩,by omega,by kernel_rfl,by kernel_rfl⟩
  rcases Nat.lt_succ_iff_lt_or_eq.1 hj with h | rfl
  ·exact ha j h
  ·exact k1
 ·have hin:zRY n.n=true:=by
   simp only [zRY,List.all_eq_true,List.mem_range]
   exact fun j hj=>ha j (by omega)
  clear ha
  refine zAD (fun i=>i≤n.n.length∧∀ j,j<i→zLL n.n j=false) (fun i=>[(25,I (i:Nat))]) (fun i=>n.n.length-i) (0:Nat) ⟨Nat.zero_le _,fun j h=>absurd h (Nat.not_lt_zero _)⟩ fun k ⟨hk,hb⟩=>?_
  have jC:zLL n.n k=false→∀ j,j<k+1→zLL n.n j=false:=fun h j hj=>by
   rcases Nat.lt_succ_iff_lt_or_eq.1 hj with h2 | rfl
   ·exact hb j h2
   ·exact h
  refine zAd 1<|zAa<|zAh<|zDo ((↑k:Int)<(↑n.n.length:Int)) (fun k2=>(zAl<|zAh<|zAk 3<|zAd 1<|S_a [(2,.v (PV.agg [I (n.n.getD k default).fst,PV.bool (n.n.getD k default).snd]))] (ap (zDn default (by omega):(List.map ntV n.n)[k]? = some (PV.agg [I (n.n.getD k default).fst,PV.bool (n.n.getD k default).snd])) an)<|zAc 4<|zAa<|zAd 4<|zWk 33 ((n.n.getD k default).fst = -1) (fun k3=>(zAc 3<|S_a [(3,.ob),(0,.ob),(0,.v (PV.sl (List.map ntV (List.take k n.n))))] (ap ((by exact zA8 (by simp only [List.length_map,zzLn,zAY]<;>omega)):k.ble (List.map ntV n.n).length=true)<|ap ((by exact all_map _):((List.map ntV n.n).all fun x=>x.cells.length.beq ((fun x=>x.size) Try.prog.types[54]))=true)<|ap ((by simp):PV.sl (List.take k (List.drop 0 (List.map ntV n.n)))=PV.sl (List.map ntV (List.take k n.n))) an)<|zAc 1<|S_a [(13,.ret (PV.bool ((List.take k n.n).any fun x=>decide (x.fst=(n.n.getD k default).fst))) [])] (ap (f100_1 ((n.n.getD k default).fst) ((n.n.getD k default).snd) (List.take k n.n) (by first | omega | (simp<;>omega))) an)<|zAc 1<|zAa<|zFh ((List.take k n.n).any fun x=>decide (x.fst=(n.n.getD k default).fst)) (fun k4=>(zAd 1<|zAa<|zAn<|E_a [] an (I 5) [] ?_ rfl)) (fun k4=>(zAl<|zAg<|S_a [(1,.v (I (↑(k+1):Int)))] (ap (wrN k) an)<|zAc 1<|zAa ?_)))) (fun k3=>(zAc 7<|zAa<|zAK<|zAl<|zAg<|S_a [(1,.v (I (↑(k+1):Int)))] (ap (wrN k) an)<|zAc 1<|zAa ?_)))) (fun k2=>(zAS 2<|zAd 1<|zAa<|zAn<|E_a [] an (I 0) [] ?_ rfl))
  ·have h1:zLL n.n k=true:=by
    have k4:((n.n.take k).any fun y=>decide (y.1=(n.n.getD k default).1))=true:=k4
    simp only [zLL,k4,Bool.and_true,decide_eq_true_eq];assumption
   have:(List.range n.n.length).any (zLL n.n)=true:=List.any_eq_true.2 ⟨k,List.mem_range.2 (by omega),h1⟩
   simp only [zDR,hin,this,if_true]
  ·have h1:zLL n.n k=false:=by
    have k4:((n.n.take k).any fun y=>decide (y.1=(n.n.getD k default).1))=false:=k4
    simp only [zLL,k4,Bool.and_false]
   exact ⟨k+1,⟨by omega,jC h1⟩,by omega,by kernel_rfl,by kernel_rfl⟩
  ·have h1:zLL n.n k=false:=by
    simp only [zLL,Bool.and_eq_false_iff,decide_eq_false_iff_not]
    exact .inl (by simpa using k3)
   exact ⟨k+1,⟨by omega,jC h1⟩,by omega,by kernel_rfl,by kernel_rfl⟩
  ·have:(List.range n.n.length).any (zLL n.n)=false:=by
    simp only [List.any_eq_false,List.mem_range,Bool.not_eq_true]
    exact fun j hj=>hb j (by omega)
   simp only [zDR,hin,this,if_true];rfl
theorem f67 (n:Nw) (l:List Int) (hb:1≤n.h∧n.h≤10) (hl:l.length<1000000):FG 67 [zBp l,.ref (nwV n)] (.bool (zKv n.h l)):=by
 refine zAf Try.f67 ?_
 refine zAd 1<|zAa<|zAd 3<|S_a [(7,.ret (PV.bool (l.all fun x=>inB x 0 (n.h-1))) [])] (ap (f68_1 n (by omega) l (by omega)) an)<|zAc 1<|zAa<|zAn<|E_a [] an (PV.bool (l.all fun x=>inB x 0 (n.h-1))) [] rfl rfl
theorem f70 (l:List Int) (hl:l.length<1000000):FG 70 [zBp l] (.bool (zDW l)):=by
 refine zAf Try.f70 ?_
 refine zAd 1<|zAa<|zAd 1<|S_a [(6,.ret (PV.bool (zFC l)) [])] (ap (f17 l (by omega)) an)<|zAc 1<|zGl 5 (zFC l) (fun k0=>(zAc 1<|S_a [(6,.ret (PV.own 1 (List.map I l)) [])] (ap (f71 l (by omega)) an)<|S_a [(3,.ob),(1,.v (PV.own 1 (List.map I l))),(2,.ret (PV.own 1 (List.map I (zGK l))) [])] (ap ((by exact zA8 (by simp only [List.length_map,zzLn,zAY]<;>omega)):(List.map I l).length.ble (List.map I l).length=true)<|ap ((zA6 zBt):PV.own 1 (List.take (List.map I l).length (List.drop 0 (List.map I l)))=PV.own 1 (List.map I l))<|ap (f54 l (by omega)) an)<|S_a [(0,.n ((zGK l).length))] (ap (lnS I (zGK l)) an)<|zAc 1<|S_a [(0,.n l.length)] (ap (lnS I l) an)<|zAc 3<|zAa<|zAn<|E_a [] an (PV.bool ((↑(zGK l).length:Int)==(↑l.length:Int))) [] ?_ rfl)) (fun k0=>(zAc 9<|zAa<|zAn<|E_a [] an (PV.bool false) [] ?_ rfl))
 ·simp only [zDW,k0,Bool.true_and];congr 1;rw [Bool.eq_iff_iff];simp;omega
 ·simp only [zDW,k0,Bool.false_and]
theorem f103_1 (n:Nw) (hb:1≤n.h∧n.h≤10) (x:List Int) (hx:x.length<1000000):FG 103 [zBp x,.ref (.func 67 [] [.ref (nwV n)])] (.bool (!(zKv n.h x))):=by
 refine zAf Try.f103 ?_
 refine zAd 1<|zAa<|zAd 2<|S_a [(7,.ret (PV.bool (zKv n.h x)) [])] (ap (f67 n x (by omega) (by omega)) an)<|zAc 2<|zAa<|zAn<|E_a [] an (PV.bool !zKv n.h x) [] rfl rfl
theorem f122_1 (n:Nw) (hb:1≤n.h∧n.h≤10) (l:List (List Int)) (hl:l.length<4294967296) (hr:∀ x∈l,x.length<1000000):FG 122 [.sl (l.map zBp),.func 103 [] [.ref (.func 67 [] [.ref (nwV n)])]] (I (zEg (fun x => !(zKv n.h x)) l)):=by
 refine zAf Try.f122 ?_
 refine zAd 1<|zAa<|zAh<|zAd 1<|S_a [(0,.n l.length)] (ap (lnS zBp l) an)<|zAc 1<|zAa<|zAk 0 ?_
 refine zAD (fun i=>i≤l.length∧∀ j,j<i→(fun x => !(zKv n.h x)) (l.getD j [])=false) (fun i=>[(8,I (i:Nat))]) (fun i=>l.length-i) (0:Nat) (by simp) fun i ⟨hi,ha⟩=>?_
 by_cases yW:i<l.length
 ·have hri:=zCu (d:=[]) hr i yW
  refine zAd 1<|zAa<|zAh<|zBj ((↑i:Int)<(↑l.length:Int)) (by omega)<|zAl<|zAh<|zAk 1<|zAd 2<|zAa<|zAd 3<|S_a [(2,.v (zBp (l.getD i [])))] (ap (zDn [] (by omega):(List.map zBp l)[i]? = some (zBp (l.getD i []))) an)<|zAc 1<|S_a [(7,.ret (PV.bool !zKv n.h (l.getD i [])) [])] (ap (f103_1 n (by omega) (l.getD i []) (by omega)) an)<|zAa<|zFh (!zKv n.h (l.getD i [])) (fun k0=>(zAd 2<|zAa<|zAn<|E_a [] an (I (↑i:Int)) [] ?_ rfl)) (fun k0=>(zAl<|zAg<|S_a [(1,.v (I (↑(i+1):Int)))] (ap (wrN i) an)<|zAc 1<|zAa ?_))
  ·rw [zBS (i:=i) yW (fun j hj=>by rw [← zAH (d:=[])];exact ha j hj) (by rw [← zAH (d:=[])];first | assumption | exact decide_eq_true ‹_›)]
  ·refine ⟨i+1,⟨by omega,fun j hj=>?_⟩,by omega,by kernel_rfl,by kernel_rfl⟩
   rcases Nat.lt_succ_iff_lt_or_eq.1 hj with h | rfl
   ·exact ha j h
   ·first | assumption | exact decide_eq_false ‹_› | (simp only [Bool.not_eq_false',decide_eq_true_eq];assumption)
 ·refine zAd 1<|zAa<|zAh<|zBv ((↑i:Int)<(↑l.length:Int)) (by omega)<|zAS 0<|zAd 1<|zAa<|zAn<|E_a [] an (I (-1)) [] ?_ rfl
  rw [zCc fun j hj=>by rw [← zAH (d:=[])];exact ha j (by omega)]
theorem f102_1 (n:Nw) (hb:1≤n.h∧n.h≤10) (l:List (List Int)) (hl:l.length<4294967296) (hr:∀ x∈l,x.length<1000000):FG 102 [.sl (l.map zBp),.func 103 [] [.ref (.func 67 [] [.ref (nwV n)])]] (.bool (l.any (fun x => !(zKv n.h x)))):=by
 refine zAf Try.f102 ?_
 refine zAd 1<|zAa<|zAd 2<|S_a [(7,.ret (I (zEg (fun x => !zKv n.h x) l)) [])] (ap (f122_1 n (by omega) l (by omega) (by omega)) an)<|zAc 2<|zAa<|zAn<|E_a [] an (PV.bool (decide (zEg (fun x => !zKv n.h x) l≥0))) [] ?_ rfl
 rw [zDP]
theorem f66_1 (n:Nw) (hb:1≤n.h∧n.h≤10) (l:List (List Int)) (hl:l.length<4294967296) (hr:∀ x∈l,x.length<1000000):FG 66 [.sl (l.map zBp),.func 67 [] [.ref (nwV n)]] (.bool (l.all (fun x=>zKv n.h x))):=by
 refine zAf Try.f66 ?_
 refine zAd 2<|zAa<|zAd 2<|S_a [(12,.ret (PV.bool (l.any fun x => !zKv n.h x)) [])] (ap (f102_1 n (by omega) l (by omega) (by omega)) an)<|zAc 2<|zAa<|zAn<|E_a [] an (PV.bool !l.any fun x => !zKv n.h x) [] ?_ rfl
 simp [List.not_any_eq_all_not]
theorem f103_2  (x:List Int) (hx:x.length<1000000):FG 103 [zBp x,.ref (.func 70 [] [])] (.bool (!(zDW x))):=by
 refine zAf Try.f103 ?_
 refine zAd 1<|zAa<|zAd 2<|S_a [(6,.ret (PV.bool (zDW x)) [])] (ap (f70 x (by omega)) an)<|zAc 2<|zAa<|zAn<|E_a [] an (PV.bool !zDW x) [] rfl rfl
theorem f122_2  (l:List (List Int)) (hl:l.length<4294967296) (hr:∀ x∈l,x.length<1000000):FG 122 [.sl (l.map zBp),.func 103 [] [.ref (.func 70 [] [])]] (I (zEg (fun x => !(zDW x)) l)):=by
 refine zAf Try.f122 ?_
 refine zAd 1<|zAa<|zAh<|zAd 1<|S_a [(0,.n l.length)] (ap (lnS zBp l) an)<|zAc 1<|zAa<|zAk 0 ?_
 refine zAD (fun i=>i≤l.length∧∀ j,j<i→(fun x => !(zDW x)) (l.getD j [])=false) (fun i=>[(8,I (i:Nat))]) (fun i=>l.length-i) (0:Nat) (by simp) fun i ⟨hi,ha⟩=>?_
 by_cases yW:i<l.length
 ·have hri:=zCu (d:=[]) hr i yW
  refine zAd 1<|zAa<|zAh<|zBj ((↑i:Int)<(↑l.length:Int)) (by omega)<|zAl<|zAh<|zAk 1<|zAd 2<|zAa<|zAd 3<|S_a [(2,.v (zBp (l.getD i [])))] (ap (zDn [] (by omega):(List.map zBp l)[i]? = some (zBp (l.getD i []))) an)<|zAc 1<|S_a [(7,.ret (PV.bool !zDW (l.getD i [])) [])] (ap (f103_2 (l.getD i []) (by omega)) an)<|zAa<|zFh (!zDW (l.getD i [])) (fun k0=>(zAd 2<|zAa<|zAn<|E_a [] an (I (↑i:Int)) [] ?_ rfl)) (fun k0=>(zAl<|zAg<|S_a [(1,.v (I (↑(i+1):Int)))] (ap (wrN i) an)<|zAc 1<|zAa ?_))
  ·rw [zBS (i:=i) yW (fun j hj=>by rw [← zAH (d:=[])];exact ha j hj) (by rw [← zAH (d:=[])];first | assumption | exact decide_eq_true ‹_›)]
  ·refine ⟨i+1,⟨by omega,fun j hj=>?_⟩,by omega,by kernel_rfl,by kernel_rfl⟩
   rcases Nat.lt_succ_iff_lt_or_eq.1 hj with h | rfl
   ·exact ha j h
   ·first | assumption | exact decide_eq_false ‹_› | (simp only [Bool.not_eq_false',decide_eq_true_eq];assumption)
 ·refine zAd 1<|zAa<|zAh<|zBv ((↑i:Int)<(↑l.length:Int)) (by omega)<|zAS 0<|zAd 1<|zAa<|zAn<|E_a [] an (I (-1)) [] ?_ rfl
  rw [zCc fun j hj=>by rw [← zAH (d:=[])];exact ha j (by omega)]
theorem f102_2  (l:List (List Int)) (hl:l.length<4294967296) (hr:∀ x∈l,x.length<1000000):FG 102 [.sl (l.map zBp),.func 103 [] [.ref (.func 70 [] [])]] (.bool (l.any (fun x => !(zDW x)))):=by
 refine zAf Try.f102 ?_
 refine zAd 1<|zAa<|zAd 2<|S_a [(7,.ret (I (zEg (fun x => !zDW x) l)) [])] (ap (f122_2 l (by omega) (by omega)) an)<|zAc 2<|zAa<|zAn<|E_a [] an (PV.bool (decide (zEg (fun x => !zDW x) l≥0))) [] ?_ rfl
 rw [zDP]
theorem f66_2  (l:List (List Int)) (hl:l.length<4294967296) (hr:∀ x∈l,x.length<1000000):FG 66 [.sl (l.map zBp),.func 70 [] []] (.bool (l.all (fun x=>zDW x))):=by
 refine zAf Try.f66 ?_
 refine zAd 2<|zAa<|zAd 2<|S_a [(12,.ret (PV.bool (l.any fun x => !zDW x)) [])] (ap (f102_2 l (by omega) (by omega)) an)<|zAc 2<|zAa<|zAn<|E_a [] an (PV.bool !l.any fun x => !zDW x) [] ?_ rfl
 simp [List.not_any_eq_all_not]
theorem f29 (n:Nw) (hs:Small n):FG 29 [nwV n] (I (zGE n)):=by
 refine zAf Try.f29 ?_
 have h1:=hs.hl
 have h2:=hs.hn
 have h3:=hs.hs
 have h4:=hs.hr
 refine zAd 2<|zAa<|zAh<|zAd 2<|S_a [(10,.ret (PV.bool (inB n.h 1 10)) [])] (ap (f63 n.h (1) (10)) an)<|zAc 2<|zGl 9 (!inB n.h 1 10) (fun k0=>(zAc 19<|zAa<|zEb<|zAd 1<|zAa<|zAn<|E_a [] an (I 2) [] ?_ rfl)) (fun k0=>(zAc 2<|S_a [(0,.n n.l.length)] (ap (lnS prV n.l) an)<|zAc 3<|zLr 15 ((↑n.l.length:Int)>15) (fun k1=>(zAc 13<|zAa<|zEb<|zAd 1<|zAa<|zAn<|E_a [] an (I 2) [] ?_ rfl)) (fun k1=>(zAc 2<|S_a [(0,.n n.n.length)] (ap (lnS ntV n.n) an)<|S_a [(10,.ret (PV.bool (inB (↑n.n.length:Int) 1 8)) [])] (ap (f63 ((↑n.n.length:Int)) (1) (8)) an)<|zAc 3<|zGl 22 (!inB (↑n.n.length:Int) 1 8) (fun k2=>(zAc 6<|zAa<|zEb<|zAd 1<|zAa<|zAn<|E_a [] an (I 2) [] ?_ rfl)) (fun k2=>(zAc 2<|S_a [(0,.n n.s.length)] (ap (lnS zBp n.s) an)<|S_a [(10,.ret (PV.bool (inB (↑n.s.length:Int) 1 6)) [])] (ap (f63 ((↑n.s.length:Int)) (1) (6)) an)<|zAc 2<|zAa<|zFh (!inB (↑n.s.length:Int) 1 6) (fun k3=>(zAd 1<|zAa<|zAn<|E_a [] an (I 2) [] ?_ rfl)) (fun k3=>(zAl<|zAh<|zAd 1<|S_a [(6,.ret (I (zCJ n.h n.l)) [])] (ap (f64 n ?_ (by first | omega | (simp<;>omega))) an)<|zAc 1<|zAa<|zAd 2<|zAa<|zEc (zCJ n.h n.l=0) (fun k4=>(zAd 2<|zAa<|zAn<|E_a [] an (I (zCJ n.h n.l)) [] ?_ rfl)) (fun k4=>(zAl<|zAh<|zAd 1<|S_a [(6,.ret (I (zDR n.n)) [])] (ap (f65 n ?_) an)<|zAc 1<|zAa<|zAd 2<|zAa<|zEc (zDR n.n=0) (fun k5=>(zAd 2<|zAa<|zAn<|E_a [] an (I (zDR n.n)) [] ?_ rfl)) (fun k5=>(zAl<|zAh<|zAk 0<|zAd 3<|S_a [(13,.ret (PV.bool (n.s.all fun x=>zKv n.h x)) [])] (ap (f66_1 n ?_ n.s (by omega) (by omega)) an)<|zAc 2<|zAa<|zFh (!n.s.all fun x=>zKv n.h x) (fun k6=>(zAd 1<|zAa<|zAn<|E_a [] an (I 1) [] ?_ rfl)) (fun k6=>(zAd 2<|S_a [(7,.ret (PV.bool (n.s.all fun x=>zDW x)) [])] (ap (f66_2 n.s (by omega) (by omega)) an)<|zAc 2<|zAa<|zFh (!n.s.all fun x=>zDW x) (fun k7=>(zAd 1<|zAa<|zAn<|E_a [] an (I 4) [] ?_ rfl)) (fun k7=>(zAl<|zAd 1<|zAa<|zAn<|E_a [] an (I 0) [] ?_ rfl))))))))))))))))
 all_goals first | exact zVM k0 | (have:=zVM k2;omega) | (simp [zGE, *];done)
end
end Go.Eng
set_option maxRecDepth 10000
set_option maxHeartbeats 4000000
namespace Go.Eng
open Go Go.Proofs
theorem zRr {l:List Int}:∀ k,k≤l.length→(zGK (l.take k)).length≤k∧((∃ j,1≤j∧j<k∧l.getD j 0=l.getD (j-1) 0)→(zGK (l.take k)).length<k)
 | 0,_=>⟨by simp [zGK],fun ⟨j,h1,h2,_⟩=>by omega⟩
 | k + 1,hk=>by
  obtain ⟨h1,h2⟩:=zRr (l:=l) k (by omega)
  cases k with
  | zero =>
   rw [zGU (show 0<l.length by omega)]
   exact ⟨by simp [zGK,zUd],fun ⟨j,h1,h2,_⟩=>by omega⟩
  | succ k =>
   rw [zGV (by omega) (by omega)]
   split
   ·exact ⟨by omega,fun _=>by omega⟩
   ·rename_i hI
    refine ⟨by rw [List.length_append];simp;omega,fun ⟨j,g1,g2,g3⟩=>?_⟩
    have hj:j<k+1:=by
     by_cases h:j=k+1
     ·subst h;exact absurd g3 hI
     ·omega
    have:=h2 ⟨j,g1,hj,g3⟩
    rw [List.length_append];simp;omega
theorem zRt {l:List Int} (h:zFC l=true) (j:Nat) (hj:j+1<l.length):l.getD j 0≤l.getD (j+1) 0:=by
 simp only [zFC,List.all_eq_true,List.mem_range,decide_eq_true_eq] at h
 exact h j (by omega)
theorem zJ7 {l:List Int}:zDW l=zQp l:=by
 rw [Bool.eq_iff_iff]
 constructor
 ·intro h
  simp only [zDW,Bool.and_eq_true,decide_eq_true_eq] at h
  simp only [zQp,List.all_eq_true,List.mem_range,decide_eq_true_eq]
  intro j hj
  have h1:=zRt h.1 j (by omega)
  have h2:=(zRr (l:=l) l.length (Nat.le_refl _)).2
  rw [List.take_length] at h2
  by_cases he:l.getD (j+1) 0=l.getD j 0
  ·have:=h2 ⟨j+1,by omega,by omega,by simpa using he⟩
   omega
  ·omega
 ·intro h
  simp only [zQp,List.all_eq_true,List.mem_range,decide_eq_true_eq] at h
  simp only [zDW,zFC,Bool.and_eq_true,decide_eq_true_eq,List.all_eq_true,List.mem_range]
  refine ⟨fun j hj=>by have:=h j hj;omega,?_⟩
  have:=zHh (l:=l) l.length (Nat.le_refl _) fun j h1 h2=>by
   have:=h (j-1) (by omega)
   rw [show j-1+1=j by omega] at this
   omega
  rw [List.take_length] at this
  rw [this]
structure NwOk (n:Nw):Prop where
 err:zGE n=0
 h:1≤n.h∧n.h≤10
 ll:n.l.length≤15
 nl:1≤n.n.length∧n.n.length≤8
 sl:1≤n.s.length∧n.s.length≤6
 lr:∀ x∈n.l,(0≤x.1∧x.1<n.h)∧(0≤x.2∧x.2<n.h)
 lne:∀ x∈n.l,x.1≠x.2
 ld:(n.l.map pr2).Nodup
 na:∀ i,i<n.n.length→-1≤(n.n.getD i default).1∧(n.n.getD i default).1<i
 nd:∀ i k,k<i→i<n.n.length→(n.n.getD i default).1≠-1→(n.n.getD k default).1≠(n.n.getD i default).1
 sr:∀ l∈n.s,∀ x∈l,0≤x∧x<n.h
 ss:∀ l∈n.s,zQp l=true
theorem zRm {l:List Int} (h:zQp l=true):∀ i j,i<j→j<l.length→l.getD i 0<l.getD j 0:=by
 simp only [zQp,List.all_eq_true,List.mem_range,decide_eq_true_eq] at h
 intro i j hij hj
 induction j with
 | zero=>omega
 | succ j ih =>
  have h1:=h j (by omega)
  by_cases he:i=j
  ·subst he;exact h1
  ·have:=ih (by omega) (by omega);omega
theorem zSX {l:List Int} (h:zQp l=true) {B:Int} (hb:∀ x∈l,0≤x∧x<B):(l.length:Int)≤B∨l.length=0:=by
 by_cases h0:l.length=0
 ·exact .inr h0
 ·left
  have key:∀ j,j<l.length→(j:Int)≤l.getD j 0:=by
   intro j
   induction j with
   | zero=>intro hj;exact (zCu hb 0 hj).1
   | succ j ih =>
    intro hj
    have h1:=ih (by omega)
    have h2:=zRm h j (j+1) (by omega) hj
    omega
  have h1:=key (l.length-1) (by omega)
  have h2:=(zCu (d:=(0:Int)) hb (l.length-1) (by omega)).2
  omega
theorem NwOk.rows {n:Nw} (ho:NwOk n):∀ l∈n.s,l.length≤10:=fun l hl=>by
 have h1:=zSX (ho.ss l hl) (ho.sr l hl)
 have:=ho.h
 omega
theorem NwOk.small {n:Nw} (ho:NwOk n):Small n:=⟨by have:=ho.ll;omega,by have:=ho.nl;omega,by have:=ho.sl;omega,fun l hl=>by have:=ho.rows l hl;omega⟩
theorem zEx {n lo hi:Int} (h:inB n lo hi=true):lo≤n∧n≤hi:=by simpa [inB] using h
theorem zOW {h:Int} {l:List (Int×Int)} (he:zCJ h l=0):(l.all fun x=>zJo h x)=true∧(l.all fun x=>zJQ x)=true∧(l.map pr2).Nodup:=by
 unfold zCJ at he
 split at he
 ·split at he
  ·split at he
   ·exact ⟨by assumption,by assumption,by assumption⟩
   ·cases he
  ·cases he
 ·cases he
theorem zQA {l:List (Int×Bool)} (he:zDR l=0):zRY l=true∧(List.range l.length).any (zLL l)=false:=by
 unfold zDR at he
 split at he
 ·split at he
  ·cases he
  ·rename_i h1 h2;exact ⟨h1,by rw [Bool.not_eq_true] at h2;exact h2⟩
 ·cases he
theorem zUa {n:Nw} (he:zGE n=0):NwOk n:=by
 have he0:=he
 unfold zGE at he
 split at he
 ·cases he
 split at he
 ·cases he
 split at he
 ·cases he
 split at he
 ·cases he
 rename_i c1 c2 c3 c4
 split at he
 case isFalse h=>exact absurd he h
 rename_i c5
 split at he
 case isFalse h=>exact absurd he h
 rename_i c6
 split at he
 ·cases he
 split at he
 ·cases he
 rename_i c7 c8
 simp only [Bool.not_eq_true,Bool.not_eq_false'] at c1 c3 c4 c7 c8
 obtain ⟨d1,d2,d3⟩:=zOW c5
 obtain ⟨e1,e2⟩:=zQA c6
 rw [List.all_eq_true] at c7 c8 d1 d2
 simp only [zRY,List.all_eq_true,List.mem_range] at e1
 simp only [List.any_eq_false,List.mem_range] at e2
 have a3:=zEx c3
 have a4:=zEx c4
 refine ⟨he0,zEx c1,by omega,by omega,by omega,fun x hx=>?_,fun x hx=>by have:=d2 x hx;simpa [zJQ] using this,d3,fun i hi=>?_,fun i k hk hi hI hx=>?_,fun l hl x hx=>?_,fun l hl=>by rw [← zJ7];exact c8 l hl⟩
 ·have:=d1 x hx
  simp only [zJo,Bool.and_eq_true] at this
  have b1:=zEx this.1
  have b2:=zEx this.2
  omega
 ·have:=zEx (e1 i hi);omega
 ·refine e2 i hi ?_
  simp only [zLL,Bool.and_eq_true,decide_eq_true_eq,List.any_eq_true]
  refine ⟨hI,n.n.getD k default,?_,hx⟩
  rw [zAH (by omega)]
  exact List.mem_take_iff_getElem.2 ⟨k,by omega,rfl⟩
 ·have:=c7 l hl
  simp only [zKv,List.all_eq_true] at this
  have:=zEx (this x hx);omega
def zL1 (F:List Int) (i:Nat) (a:Int):List Int:=if a = -1 then F.set i i else (F.set i i).set i ((F.set i i).getD a.toNat 0)
def zOR (l:List (Int×Bool)):Nat→List Int
 | 0=>List.replicate 8 0
 | i+1=>zL1 (zOR l i) i (l.getD i default).1
def zLY (F:List Int) (L:List Int) (i k:Nat):List Int:=if F.getD k 0=F.getD i 0 then L.set i (max (L.getD i 0) k) else L
def zSC (F:List Int) (i:Nat) (L:List Int) (k:Nat):List Int:=(List.range k).foldl (fun L k=>zLY F L i k) L
def zPP (F:List Int) (m i:Nat):List Int:=(List.range i).foldl (fun L i=>zSC F i L m) (List.replicate 8 0)
theorem zP1 {F:List Int} {i:Nat} {a:Int}:(zL1 F i a).length=F.length:=by unfold zL1;split<;>simp
theorem zHg {l:List (Int×Bool)}:∀ i,(zOR l i).length=8
 | 0=>by simp [zOR]
 | i+1=>by rw [zOR,zP1];exact zHg i
theorem zQq {F L:List Int} {i k:Nat}:(zLY F L i k).length=L.length:=by unfold zLY;split<;>simp
theorem zG4 {F L:List Int} {i k:Nat}:zSC F i L (k+1)=zLY F (zSC F i L k) i k:=by
 simp only [zSC,List.range_succ,List.foldl_append,List.foldl_cons,List.foldl_nil]
theorem zIs {F L:List Int} {i:Nat}:∀ k,(zSC F i L k).length=L.length
 | 0=>rfl
 | k+1=>by rw [zG4,zQq];exact zIs k
theorem zFp {F:List Int} {m i:Nat}:zPP F m (i+1)=zSC F i (zPP F m i) m:=by
 simp only [zPP,List.range_succ,List.foldl_append,List.foldl_cons,List.foldl_nil]
theorem zK5 {F:List Int} {m:Nat}:∀ i,(zPP F m i).length=8
 | 0=>by simp [zPP]
 | i+1=>by rw [zFp,zIs];exact zK5 i
def zAj (n:Nw):List Int:=zOR n.n n.n.length
def zAZ (n:Nw):List Int:=zPP (zAj n) n.n.length n.n.length
abbrev zCI (n:Nw) (cs ms:PV) (F L:List Int):PV := .agg [I n.h,.sl (n.l.map prV),.sl (n.n.map ntV),.sl (n.s.map zBp),cs,ms,I (F.getD 0 0),I (F.getD 1 0),I (F.getD 2 0),I (F.getD 3 0),I (F.getD 4 0),I (F.getD 5 0),I (F.getD 6 0),I (F.getD 7 0),I (L.getD 0 0),I (L.getD 1 0),I (L.getD 2 0),I (L.getD 3 0),I (L.getD 4 0),I (L.getD 5 0),I (L.getD 6 0),I (L.getD 7 0)]
abbrev zU4 (M:List (Int×Int)):PV := .omap (M.map zBE)
section
variable [Yo]
theorem f55_1 (n:Nw) (ho:NwOk n):FG 55 [nwV n] (.tup [.box (zCI n (.own 2 []) (zU4 (n.l.map pr2)) (zAj n) (zAZ n)),I 0]):=by
 have hs:=ho.small
 have he:=ho.err
 have h1:=ho.nl.2
 have h2:=ho.ll
 have h3:=ho.ld
 have h4:=ho.na
 refine zAf Try.f55 ?_
 refine zAd 3<|zAa<|zAh<|zAd 1<|S_a [(6,.ret (I (zGE n)) [])] (ap (f29 n (by omega)) an)<|zAc 1<|zAa<|zAd 2<|zAa<|zNM (zGE n=0) (by omega)<|zAl<|zAd 5<|zAa<|zAh<|zAd 2<|S_a [(0,.n n.l.length)] (ap (lnS prV n.l) an)<|zAc 1<|zAa<|zAk 0 ?_
 refine zAD (fun (i,M)=>i≤n.l.length∧M=(n.l.take i).map pr2) (fun (i,M)=>[(5,.box (zCI n (.own 2 []) (zU4 M) (List.replicate 8 0) (List.replicate 8 0))),(24,I (i:Nat))]) (fun (i,_)=>n.l.length-i) ((0:Nat),([]:List (Int×Int))) ⟨Nat.zero_le _,rfl⟩ fun (i,M) ⟨hi,hM⟩=>?_
 by_cases yW:i<n.l.length
 ·have jC:(n.l.take (i+1)).map pr2=M++[pr2 (n.l.getD i default)]:=by rw [zDk (d:=default) yW,List.map_append,← hM];rfl
  have hin:pr2 (n.l.getD i default)∉M:=fun hm=>by
   rw [← List.take_append_drop (i+1) n.l,List.map_append,jC] at h3
   have h2:=(List.nodup_append.1 h3).1
   have h3:=(List.nodup_append.1 h2).2.2
   exact h3 _ hm _ (List.mem_singleton.2 rfl) rfl
  have jG:=zKR hin
  refine zAd 1<|zAa<|zAh<|zBj ((↑i:Int)<(↑n.l.length:Int)) (by omega)<|zAl<|zAh<|zAk 1<|zAh<|zAg<|S_a [(2,.v (PV.agg [I (n.l.getD i default).fst,I (n.l.getD i default).snd]))] (ap (zDn default (by omega):(List.map prV n.l)[i]? = some (PV.agg [I (n.l.getD i default).fst,I (n.l.getD i default).snd])) an)<|zAc 3<|zAa<|zAg<|zAc 5<|S_a [(6,.ret (prV (pr2 (n.l.getD i default))) [])] (ap (f93 (n.l.getD i default)) an)<|S_a [(4,.ix none),(0,.v (PV.omap (List.map zBE (M++[pr2 (n.l.getD i default)]))))] (ap jG<|ap ((by simp):PV.omap (List.map zBE M++[(PV.agg [I (pr2 (n.l.getD i default)).fst,I (pr2 (n.l.getD i default)).snd],PV.bool true)])=PV.omap (List.map zBE (M++[pr2 (n.l.getD i default)]))) an)<|zAa<|zAg<|S_a [(1,.v (I (↑(i+1):Int)))] (ap (wrN i) an)<|zAc 1<|zAa ?_
  exact ⟨(i+1,M++[pr2 (n.l.getD i default)]),⟨by omega,jC.symm⟩,by simp only;omega,by kernel_rfl,by kernel_rfl⟩
 ·refine zAd 1<|zAa<|zAh<|zBv ((↑i:Int)<(↑n.l.length:Int)) (by omega)<|zAS 0<|zAh<|zAd 2<|S_a [(0,.n n.n.length)] (ap (lnS ntV n.n) an)<|zAc 1<|zAa<|zAk 2 ?_
  rw [List.take_of_length_le (by omega)] at hM
  subst hM
  clear h3
  generalize hMM:n.l.map pr2=MM
  refine zAD (fun (i,F)=>i≤n.n.length∧F=zOR n.n i) (fun (i,F)=>[(5,.box (zCI n (.own 2 []) (zU4 MM) F (List.replicate 8 0))),(38,I (i:Nat))]) (fun (i,_)=>n.n.length-i) ((0:Nat),List.replicate 8 0) ⟨Nat.zero_le _,rfl⟩ fun (i,F) ⟨hi,hF⟩=>?_
  have hFl:F.length=8:=by rw [hF];exact zHg i
  by_cases yW:i<n.n.length
  ·have h4i:=h4 i yW
   have yM:zOR n.n (i+1)=zL1 F i (n.n.getD i default).1:=by rw [hF];rfl
   refine zAd 1<|zAa<|zAh<|zBj ((↑i:Int)<(↑n.n.length:Int)) (by omega)<|zAl<|zAh<|zAk 3<|zAd 1<|S_a [(2,.v (PV.agg [I (n.n.getD i default).fst,PV.bool (n.n.getD i default).snd]))] (ap (zDn default (by omega):(List.map ntV n.n)[i]? = some (PV.agg [I (n.n.getD i default).fst,PV.bool (n.n.getD i default).snd])) an)<|zAc 4<|zAa<|zAd 5<|S_a [(2,.ob),(1,.v (PV.addr 5 [] 0 (6+i) none))] (ap ((by exact zAv (by omega)):decide (i<8)=true)<|ap ((zFP (by kernel_rfl)):PV.addr 5 [] 0 (6+i*(fun x=>x.size) Try.prog.types[3]) none=PV.addr 5 [] 0 (6+i) none) an)<|S_a [(8,.root ((PV.agg (I n.h::prs n.l::PV.sl (List.map ntV n.n)::PV.sl (List.map zBp n.s)::PV.own 2 []::PV.omap (List.map zBE MM)::(zAt (F.set i (↑i:Int)) 8++zAt (List.replicate 8 0) 8))).box) true)] (ap (zO9 (zKk (q:=(PV.agg (I n.h::prs n.l::PV.sl (List.map ntV n.n)::PV.sl (List.map zBp n.s)::PV.own 2 []::PV.omap (List.map zBE MM)::(zAt F 8++zAt (List.replicate 8 0) 8))).box) (xs:=[PV.agg (I n.h::prs n.l::PV.sl (List.map ntV n.n)::PV.sl (List.map zBp n.s)::PV.own 2 []::PV.omap (List.map zBE MM)::(zAt F 8++zAt (List.replicate 8 0) 8))]) (x:=PV.agg (I n.h::prs n.l::PV.sl (List.map ntV n.n)::PV.sl (List.map zBp n.s)::PV.own 2 []::PV.omap (List.map zBE MM)::(zAt F 8++zAt (List.replicate 8 0) 8))) (y:=PV.agg (I n.h::prs n.l::PV.sl (List.map ntV n.n)::PV.sl (List.map zBp n.s)::PV.own 2 []::PV.omap (List.map zBE MM)::(zAt (F.set i (↑i:Int)) 8++zAt (List.replicate 8 0) 8))) (q':=(PV.agg (I n.h::prs n.l::PV.sl (List.map ntV n.n)::PV.sl (List.map zBp n.s)::PV.own 2 []::PV.omap (List.map zBE MM)::(zAt (F.set i (↑i:Int)) 8++zAt (List.replicate 8 0) 8))).box) rfl (zOy (A:=[I n.h,prs n.l,PV.sl (List.map ntV n.n),PV.sl (List.map zBp n.s),PV.own 2 [],PV.omap (List.map zBE MM)]) (B:=zAt (List.replicate 8 0) 8) (F:=F) (m:=8) (j:=i) (u:=(↑i:Int)) (by first | rfl | exact zB5 (by kernel_rfl) | exact zB1 (by kernel_rfl) | exact zBZ (by kernel_rfl) (by kernel_rfl) | exact zB6 (by kernel_rfl) | exact zB8 (by kernel_rfl) (by kernel_rfl) | exact zB2 (by kernel_rfl) | (simp;done)) (by omega) (by omega)) rfl (hb:=zNP (A:=[I n.h,prs n.l,PV.sl (List.map ntV n.n),PV.sl (List.map zBp n.s),PV.own 2 [],PV.omap (List.map zBE MM)]) (B:=zAt (List.replicate 8 0) 8) (F:=F) (m:=8) (j:=i) (by first | rfl | exact zB5 (by kernel_rfl) | exact zB1 (by kernel_rfl) | exact zBZ (by kernel_rfl) (by kernel_rfl) | exact zB6 (by kernel_rfl) | exact zB8 (by kernel_rfl) (by kernel_rfl) | exact zB2 (by kernel_rfl) | (simp;done)) (by omega))) rfl:zBQ (PV.agg (I n.h::prs n.l::PV.sl (List.map ntV n.n)::PV.sl (List.map zBp n.s)::PV.own 2 []::PV.omap (List.map zBE MM)::(zAt F 8++zAt (List.replicate 8 0) 8))).box [] 0 (6+i) (I (↑i:Int)).cells=some (PV.agg (I n.h::prs n.l::PV.sl (List.map ntV n.n)::PV.sl (List.map zBp n.s)::PV.own 2 []::PV.omap (List.map zBE MM)::(zAt (F.set i (↑i:Int)) 8++zAt (List.replicate 8 0) 8))).box∧zAN (PV.agg (I n.h::prs n.l::PV.sl (List.map ntV n.n)::PV.sl (List.map zBp n.s)::PV.own 2 []::PV.omap (List.map zBE MM)::(zAt F 8++zAt (List.replicate 8 0) 8))).box (PV.agg (I n.h::prs n.l::PV.sl (List.map ntV n.n)::PV.sl (List.map zBp n.s)::PV.own 2 []::PV.omap (List.map zBE MM)::(zAt (F.set i (↑i:Int)) 8++zAt (List.replicate 8 0) 8))).box []=true) an)<|zAa<|zAd 3<|zAa<|zEc ((n.n.getD i default).fst = -1) (fun k0=>(zAg<|zAc 7<|S_a [(0,.ob),(1,.ob),(1,.v (PV.addr 5 [] 0 (6+(n.n.getD i default).fst.toNat) none))] (ap ((by exact zAv (by omega)):decide (0≤(n.n.getD i default).fst)=true)<|ap ((by exact zAv (by omega)):decide ((n.n.getD i default).fst.toNat<8)=true)<|ap ((zFP (by kernel_rfl)):PV.addr 5 [] 0 (6+(n.n.getD i default).fst.toNat*(fun x=>x.size) Try.prog.types[3]) none=PV.addr 5 [] 0 (6+(n.n.getD i default).fst.toNat) none) an)<|S_a [(0,.cs true ([I ((F.set i (↑i:Int)).getD (n.n.getD i default).fst.toNat 0)]))] (ap (zDd (q:=(PV.agg (I n.h::prs n.l::PV.sl (List.map ntV n.n)::PV.sl (List.map zBp n.s)::PV.own 2 []::PV.omap (List.map zBE MM)::(zAt (F.set i (↑i:Int)) 8++zAt (List.replicate 8 0) 8))).box) (xs:=[PV.agg (I n.h::prs n.l::PV.sl (List.map ntV n.n)::PV.sl (List.map zBp n.s)::PV.own 2 []::PV.omap (List.map zBE MM)::(zAt (F.set i (↑i:Int)) 8++zAt (List.replicate 8 0) 8))]) (x:=PV.agg (I n.h::prs n.l::PV.sl (List.map ntV n.n)::PV.sl (List.map zBp n.s)::PV.own 2 []::PV.omap (List.map zBE MM)::(zAt (F.set i (↑i:Int)) 8++zAt (List.replicate 8 0) 8))) rfl rfl (zKA (A:=[I n.h,prs n.l,PV.sl (List.map ntV n.n),PV.sl (List.map zBp n.s),PV.own 2 [],PV.omap (List.map zBE MM)]) (B:=zAt (List.replicate 8 0) 8) (F:=F.set i (↑i:Int)) (m:=8) (j:=(n.n.getD i default).fst.toNat) (by first | rfl | exact zB5 (by kernel_rfl) | exact zB1 (by kernel_rfl) | exact zBZ (by kernel_rfl) (by kernel_rfl) | exact zB6 (by kernel_rfl) | exact zB8 (by kernel_rfl) (by kernel_rfl) | exact zB2 (by kernel_rfl) | (simp;done)) (by omega)):zAr 5 (PV.agg (I n.h::prs n.l::PV.sl (List.map ntV n.n)::PV.sl (List.map zBp n.s)::PV.own 2 []::PV.omap (List.map zBE MM)::(zAt (F.set i (↑i:Int)) 8++zAt (List.replicate 8 0) 8))).box [] 0 (6+(n.n.getD i default).fst.toNat) 1=some (true,[I ((F.set i (↑i:Int)).getD (n.n.getD i default).fst.toNat 0)])) an)<|zAc 2<|S_a [(2,.ob),(1,.v (PV.addr 5 [] 0 (6+i) none))] (ap ((by exact zAv (by omega)):decide (i<8)=true)<|ap ((zFP (by kernel_rfl)):PV.addr 5 [] 0 (6+i*(fun x=>x.size) Try.prog.types[3]) none=PV.addr 5 [] 0 (6+i) none) an)<|S_a [(8,.root ((PV.agg (I n.h::prs n.l::PV.sl (List.map ntV n.n)::PV.sl (List.map zBp n.s)::PV.own 2 []::PV.omap (List.map zBE MM)::(zAt ((F.set i (↑i:Int)).set i ((F.set i (↑i:Int)).getD (n.n.getD i default).fst.toNat 0)) 8++zAt (List.replicate 8 0) 8))).box) true)] (ap (zO9 (zKk (q:=(PV.agg (I n.h::prs n.l::PV.sl (List.map ntV n.n)::PV.sl (List.map zBp n.s)::PV.own 2 []::PV.omap (List.map zBE MM)::(zAt (F.set i (↑i:Int)) 8++zAt (List.replicate 8 0) 8))).box) (xs:=[PV.agg (I n.h::prs n.l::PV.sl (List.map ntV n.n)::PV.sl (List.map zBp n.s)::PV.own 2 []::PV.omap (List.map zBE MM)::(zAt (F.set i (↑i:Int)) 8++zAt (List.replicate 8 0) 8))]) (x:=PV.agg (I n.h::prs n.l::PV.sl (List.map ntV n.n)::PV.sl (List.map zBp n.s)::PV.own 2 []::PV.omap (List.map zBE MM)::(zAt (F.set i (↑i:Int)) 8++zAt (List.replicate 8 0) 8))) (y:=PV.agg (I n.h::prs n.l::PV.sl (List.map ntV n.n)::PV.sl (List.map zBp n.s)::PV.own 2 []::PV.omap (List.map zBE MM)::(zAt ((F.set i (↑i:Int)).set i ((F.set i (↑i:Int)).getD (n.n.getD i default).fst.toNat 0)) 8++zAt (List.replicate 8 0) 8))) (q':=(PV.agg (I n.h::prs n.l::PV.sl (List.map ntV n.n)::PV.sl (List.map zBp n.s)::PV.own 2 []::PV.omap (List.map zBE MM)::(zAt ((F.set i (↑i:Int)).set i ((F.set i (↑i:Int)).getD (n.n.getD i default).fst.toNat 0)) 8++zAt (List.replicate 8 0) 8))).box) rfl (zOy (A:=[I n.h,prs n.l,PV.sl (List.map ntV n.n),PV.sl (List.map zBp n.s),PV.own 2 [],PV.omap (List.map zBE MM)]) (B:=zAt (List.replicate 8 0) 8) (F:=F.set i (↑i:Int)) (m:=8) (j:=i) (u:=(F.set i (↑i:Int)).getD (n.n.getD i default).fst.toNat 0) (by first | rfl | exact zB5 (by kernel_rfl) | exact zB1 (by kernel_rfl) | exact zBZ (by kernel_rfl) (by kernel_rfl) | exact zB6 (by kernel_rfl) | exact zB8 (by kernel_rfl) (by kernel_rfl) | exact zB2 (by kernel_rfl) | (simp;done)) (by omega) (by first | omega | (simp<;>omega))) rfl (hb:=zNP (A:=[I n.h,prs n.l,PV.sl (List.map ntV n.n),PV.sl (List.map zBp n.s),PV.own 2 [],PV.omap (List.map zBE MM)]) (B:=zAt (List.replicate 8 0) 8) (F:=F.set i (↑i:Int)) (m:=8) (j:=i) (by first | rfl | exact zB5 (by kernel_rfl) | exact zB1 (by kernel_rfl) | exact zBZ (by kernel_rfl) (by kernel_rfl) | exact zB6 (by kernel_rfl) | exact zB8 (by kernel_rfl) (by kernel_rfl) | exact zB2 (by kernel_rfl) | (simp;done)) (by omega))) rfl:zBQ (PV.agg (I n.h::prs n.l::PV.sl (List.map ntV n.n)::PV.sl (List.map zBp n.s)::PV.own 2 []::PV.omap (List.map zBE MM)::(zAt (F.set i (↑i:Int)) 8++zAt (List.replicate 8 0) 8))).box [] 0 (6+i) (I ((F.set i (↑i:Int)).getD (n.n.getD i default).fst.toNat 0)).cells=some (PV.agg (I n.h::prs n.l::PV.sl (List.map ntV n.n)::PV.sl (List.map zBp n.s)::PV.own 2 []::PV.omap (List.map zBE MM)::(zAt ((F.set i (↑i:Int)).set i ((F.set i (↑i:Int)).getD (n.n.getD i default).fst.toNat 0)) 8++zAt (List.replicate 8 0) 8))).box∧zAN (PV.agg (I n.h::prs n.l::PV.sl (List.map ntV n.n)::PV.sl (List.map zBp n.s)::PV.own 2 []::PV.omap (List.map zBE MM)::(zAt (F.set i (↑i:Int)) 8++zAt (List.replicate 8 0) 8))).box (PV.agg (I n.h::prs n.l::PV.sl (List.map ntV n.n)::PV.sl (List.map zBp n.s)::PV.own 2 []::PV.omap (List.map zBE MM)::(zAt ((F.set i (↑i:Int)).set i ((F.set i (↑i:Int)).getD (n.n.getD i default).fst.toNat 0)) 8++zAt (List.replicate 8 0) 8))).box []=true) an)<|zAa<|zAg<|S_a [(1,.v (I (↑(i+1):Int)))] (ap (wrN i) an)<|zAc 1<|zAa ?_)) (fun k0=>(zAl<|zAg<|S_a [(1,.v (I (↑(i+1):Int)))] (ap (wrN i) an)<|zAc 1<|zAa ?_))
   ·rw [zL1,if_neg k0] at yM
    exact ⟨(i+1,(F.set i i).set i ((F.set i i).getD (n.n.getD i default).1.toNat 0)),⟨by omega,yM.symm⟩,by simp only;omega,by kernel_rfl,by kernel_rfl⟩
   ·rw [zL1,if_pos k0] at yM
    exact ⟨(i+1,F.set i i),⟨by omega,yM.symm⟩,by simp only;omega,by kernel_rfl,by kernel_rfl⟩
  ·have hFF:F=zAj n:=by rw [hF,zAj,show i=n.n.length by omega]
   subst hFF
   clear hF
   have gW:zAZ n=zPP (zAj n) n.n.length n.n.length:=rfl
   rw [gW]
   generalize hG:zAj n=F at *
   clear gW h4
   refine zAd 1<|zAa<|zAh<|zBv ((↑i:Int)<(↑n.n.length:Int)) (by omega)<|zAS 2<|zAh<|zAd 2<|S_a [(0,.n n.n.length)] (ap (lnS ntV n.n) an)<|zAc 1<|zAa<|zAk 4 ?_
   refine zAD (fun (i,L)=>i≤n.n.length∧L=zPP F n.n.length i) (fun (i,L)=>[(5,.box (zCI n (.own 2 []) (zU4 MM) F L)),(68,I (i:Nat))]) (fun (i,_)=>n.n.length-i) ((0:Nat),List.replicate 8 0) ⟨Nat.zero_le _,rfl⟩ fun (i,L) ⟨hi,hL⟩=>?_
   have hLl:L.length=8:=by rw [hL];exact zK5 i
   by_cases yW:i<n.n.length
   ·have yM:=zFp (F:=F) (m:=n.n.length) (i:=i)
    rw [← hL] at yM
    refine zAd 1<|zAa<|zAh<|zBj ((↑i:Int)<(↑n.n.length:Int)) (by omega)<|zAl<|zAh<|zAk 5<|zAd 2<|zAa<|zAd 2<|S_a [(0,.n n.n.length)] (ap (lnS ntV n.n) an)<|zAc 1<|zAa<|zAk 6 ?_
    refine zAD (fun (k,Q)=>k≤n.n.length∧Q=zSC F i L k) (fun (k,Q)=>[(5,.box (zCI n (.own 2 []) (zU4 MM) F Q)),(74,I (k:Nat))]) (fun (k,_)=>n.n.length-k) ((0:Nat),L) ⟨Nat.zero_le _,rfl⟩ fun (k,Q) ⟨hk,hQ⟩=>?_
    have hQl:Q.length=8:=by rw [hQ,zIs];exact hLl
    by_cases vW:k<n.n.length
    ·have jR:=zG4 (F:=F) (L:=L) (i:=i) (k:=k)
     rw [← hQ] at jR
     clear yM hL hQ
     refine zAd 1<|zAa<|zAh<|zBj ((↑k:Int)<(↑n.n.length:Int)) (by omega)<|zAl<|zAh<|zAk 7<|zAd 2<|zAa<|zAd 4<|S_a [(2,.ob),(1,.v (PV.addr 5 [] 0 (6+k) none))] (ap ((by exact zAv (by omega)):decide (k<8)=true)<|ap ((zFP (by kernel_rfl)):PV.addr 5 [] 0 (6+k*(fun x=>x.size) Try.prog.types[3]) none=PV.addr 5 [] 0 (6+k) none) an)<|S_a [(0,.cs true ([I (F.getD k 0)]))] (ap (zDd (q:=(PV.agg (I n.h::prs n.l::PV.sl (List.map ntV n.n)::PV.sl (List.map zBp n.s)::PV.own 2 []::PV.omap (List.map zBE MM)::(zAt F 8++zAt Q 8))).box) (xs:=[PV.agg (I n.h::prs n.l::PV.sl (List.map ntV n.n)::PV.sl (List.map zBp n.s)::PV.own 2 []::PV.omap (List.map zBE MM)::(zAt F 8++zAt Q 8))]) (x:=PV.agg (I n.h::prs n.l::PV.sl (List.map ntV n.n)::PV.sl (List.map zBp n.s)::PV.own 2 []::PV.omap (List.map zBE MM)::(zAt F 8++zAt Q 8))) rfl rfl (zKA (A:=[I n.h,prs n.l,PV.sl (List.map ntV n.n),PV.sl (List.map zBp n.s),PV.own 2 [],PV.omap (List.map zBE MM)]) (B:=zAt Q 8) (F:=F) (m:=8) (j:=k) (by first | rfl | exact zB5 (by kernel_rfl) | exact zB1 (by kernel_rfl) | exact zBZ (by kernel_rfl) (by kernel_rfl) | exact zB6 (by kernel_rfl) | exact zB8 (by kernel_rfl) (by kernel_rfl) | exact zB2 (by kernel_rfl) | (simp;done)) (by omega)):zAr 5 (PV.agg (I n.h::prs n.l::PV.sl (List.map ntV n.n)::PV.sl (List.map zBp n.s)::PV.own 2 []::PV.omap (List.map zBE MM)::(zAt F 8++zAt Q 8))).box [] 0 (6+k) 1=some (true,[I (F.getD k 0)])) an)<|zAc 4<|S_a [(2,.ob),(1,.v (PV.addr 5 [] 0 (6+i) none))] (ap ((by exact zAv (by omega)):decide (i<8)=true)<|ap ((zFP (by kernel_rfl)):PV.addr 5 [] 0 (6+i*(fun x=>x.size) Try.prog.types[3]) none=PV.addr 5 [] 0 (6+i) none) an)<|S_a [(0,.cs true ([I (F.getD i 0)]))] (ap (zDd (q:=(PV.agg (I n.h::prs n.l::PV.sl (List.map ntV n.n)::PV.sl (List.map zBp n.s)::PV.own 2 []::PV.omap (List.map zBE MM)::(zAt F 8++zAt Q 8))).box) (xs:=[PV.agg (I n.h::prs n.l::PV.sl (List.map ntV n.n)::PV.sl (List.map zBp n.s)::PV.own 2 []::PV.omap (List.map zBE MM)::(zAt F 8++zAt Q 8))]) (x:=PV.agg (I n.h::prs n.l::PV.sl (List.map ntV n.n)::PV.sl (List.map zBp n.s)::PV.own 2 []::PV.omap (List.map zBE MM)::(zAt F 8++zAt Q 8))) rfl rfl (zKA (A:=[I n.h,prs n.l,PV.sl (List.map ntV n.n),PV.sl (List.map zBp n.s),PV.own 2 [],PV.omap (List.map zBE MM)]) (B:=zAt Q 8) (F:=F) (m:=8) (j:=i) (by first | rfl | exact zB5 (by kernel_rfl) | exact zB1 (by kernel_rfl) | exact zBZ (by kernel_rfl) (by kernel_rfl) | exact zB6 (by kernel_rfl) | exact zB8 (by kernel_rfl) (by kernel_rfl) | exact zB2 (by kernel_rfl) | (simp;done)) (by omega)):zAr 5 (PV.agg (I n.h::prs n.l::PV.sl (List.map ntV n.n)::PV.sl (List.map zBp n.s)::PV.own 2 []::PV.omap (List.map zBE MM)::(zAt F 8++zAt Q 8))).box [] 0 (6+i) 1=some (true,[I (F.getD i 0)])) an)<|zAc 1<|zAa<|zDo (F.getD k 0=F.getD i 0) (fun k1=>(zAg<|zAc 6<|S_a [(2,.ob),(1,.v (PV.addr 5 [] 0 (14+i) none))] (ap ((by exact zAv (by omega)):decide (i<8)=true)<|ap ((zFP (by kernel_rfl)):PV.addr 5 [] 0 (14+i*(fun x=>x.size) Try.prog.types[3]) none=PV.addr 5 [] 0 (14+i) none) an)<|S_a [(0,.cs true ([I (Q.getD i 0)]))] (ap (zDd (q:=(PV.agg (I n.h::prs n.l::PV.sl (List.map ntV n.n)::PV.sl (List.map zBp n.s)::PV.own 2 []::PV.omap (List.map zBE MM)::(zAt F 8++zAt Q 8))).box) (xs:=[PV.agg (I n.h::prs n.l::PV.sl (List.map ntV n.n)::PV.sl (List.map zBp n.s)::PV.own 2 []::PV.omap (List.map zBE MM)::(zAt F 8++zAt Q 8))]) (x:=PV.agg (I n.h::prs n.l::PV.sl (List.map ntV n.n)::PV.sl (List.map zBp n.s)::PV.own 2 []::PV.omap (List.map zBE MM)::(zAt F 8++zAt Q 8))) rfl rfl (zKA (A:=I n.h::prs n.l::PV.sl (List.map ntV n.n)::PV.sl (List.map zBp n.s)::PV.own 2 []::PV.omap (List.map zBE MM)::zAt F 8) (B:=[]) (F:=Q) (m:=8) (j:=i) (by first | rfl | exact zB5 (by kernel_rfl) | exact zB1 (by kernel_rfl) | exact zBZ (by kernel_rfl) (by kernel_rfl) | exact zB6 (by kernel_rfl) | exact zB8 (by kernel_rfl) (by kernel_rfl) | exact zB2 (by kernel_rfl) | (simp;done)) (by omega)):zAr 5 (PV.agg (I n.h::prs n.l::PV.sl (List.map ntV n.n)::PV.sl (List.map zBp n.s)::PV.own 2 []::PV.omap (List.map zBE MM)::(zAt F 8++zAt Q 8))).box [] 0 (14+i) 1=some (true,[I (Q.getD i 0)])) an)<|zAc 2<|S_a [(9,.ret (I (max (Q.getD i 0) (↑k:Int))) [])] (ap (f94 (Q.getD i 0) ((↑k:Int))) an)<|zAc 2<|S_a [(2,.ob),(1,.v (PV.addr 5 [] 0 (14+i) none))] (ap ((by exact zAv (by omega)):decide (i<8)=true)<|ap ((zFP (by kernel_rfl)):PV.addr 5 [] 0 (14+i*(fun x=>x.size) Try.prog.types[3]) none=PV.addr 5 [] 0 (14+i) none) an)<|S_a [(8,.root ((PV.agg (I n.h::prs n.l::PV.sl (List.map ntV n.n)::PV.sl (List.map zBp n.s)::PV.own 2 []::PV.omap (List.map zBE MM)::(zAt F 8++zAt (Q.set i (max (Q.getD i 0) (↑k:Int))) 8))).box) true)] (ap (zO9 (zKk (q:=(PV.agg (I n.h::prs n.l::PV.sl (List.map ntV n.n)::PV.sl (List.map zBp n.s)::PV.own 2 []::PV.omap (List.map zBE MM)::(zAt F 8++zAt Q 8))).box) (xs:=[PV.agg (I n.h::prs n.l::PV.sl (List.map ntV n.n)::PV.sl (List.map zBp n.s)::PV.own 2 []::PV.omap (List.map zBE MM)::(zAt F 8++zAt Q 8))]) (x:=PV.agg (I n.h::prs n.l::PV.sl (List.map ntV n.n)::PV.sl (List.map zBp n.s)::PV.own 2 []::PV.omap (List.map zBE MM)::(zAt F 8++zAt Q 8))) (y:=PV.agg (I n.h::prs n.l::PV.sl (List.map ntV n.n)::PV.sl (List.map zBp n.s)::PV.own 2 []::PV.omap (List.map zBE MM)::(zAt F 8++zAt (Q.set i (max (Q.getD i 0) (↑k:Int))) 8))) (q':=(PV.agg (I n.h::prs n.l::PV.sl (List.map ntV n.n)::PV.sl (List.map zBp n.s)::PV.own 2 []::PV.omap (List.map zBE MM)::(zAt F 8++zAt (Q.set i (max (Q.getD i 0) (↑k:Int))) 8))).box) rfl (zOy (A:=I n.h::prs n.l::PV.sl (List.map ntV n.n)::PV.sl (List.map zBp n.s)::PV.own 2 []::PV.omap (List.map zBE MM)::zAt F 8) (B:=[]) (F:=Q) (m:=8) (j:=i) (u:=max (Q.getD i 0) (↑k:Int)) (by first | rfl | exact zB5 (by kernel_rfl) | exact zB1 (by kernel_rfl) | exact zBZ (by kernel_rfl) (by kernel_rfl) | exact zB6 (by kernel_rfl) | exact zB8 (by kernel_rfl) (by kernel_rfl) | exact zB2 (by kernel_rfl) | (simp;done)) (by omega) (by omega)) rfl (hb:=zNP (A:=I n.h::prs n.l::PV.sl (List.map ntV n.n)::PV.sl (List.map zBp n.s)::PV.own 2 []::PV.omap (List.map zBE MM)::zAt F 8) (B:=[]) (F:=Q) (m:=8) (j:=i) (by first | rfl | exact zB5 (by kernel_rfl) | exact zB1 (by kernel_rfl) | exact zBZ (by kernel_rfl) (by kernel_rfl) | exact zB6 (by kernel_rfl) | exact zB8 (by kernel_rfl) (by kernel_rfl) | exact zB2 (by kernel_rfl) | (simp;done)) (by omega))) rfl:zBQ (PV.agg (I n.h::prs n.l::PV.sl (List.map ntV n.n)::PV.sl (List.map zBp n.s)::PV.own 2 []::PV.omap (List.map zBE MM)::(zAt F 8++zAt Q 8))).box [] 0 (14+i) (I (max (Q.getD i 0) (↑k:Int))).cells=some (PV.agg (I n.h::prs n.l::PV.sl (List.map ntV n.n)::PV.sl (List.map zBp n.s)::PV.own 2 []::PV.omap (List.map zBE MM)::(zAt F 8++zAt (Q.set i (max (Q.getD i 0) (↑k:Int))) 8))).box∧zAN (PV.agg (I n.h::prs n.l::PV.sl (List.map ntV n.n)::PV.sl (List.map zBp n.s)::PV.own 2 []::PV.omap (List.map zBE MM)::(zAt F 8++zAt Q 8))).box (PV.agg (I n.h::prs n.l::PV.sl (List.map ntV n.n)::PV.sl (List.map zBp n.s)::PV.own 2 []::PV.omap (List.map zBE MM)::(zAt F 8++zAt (Q.set i (max (Q.getD i 0) (↑k:Int))) 8))).box []=true) an)<|zAa<|zAg<|S_a [(1,.v (I (↑(k+1):Int)))] (ap (wrN k) an)<|zAc 1<|zAa ?_)) (fun k1=>(zAl<|zAg<|S_a [(1,.v (I (↑(k+1):Int)))] (ap (wrN k) an)<|zAc 1<|zAa ?_))
     ·rw [zLY,if_pos (by assumption)] at jR
      exact ⟨(k+1,Q.set i (max (Q.getD i 0) k)),⟨by omega,jR.symm⟩,by simp only;omega,by kernel_rfl,by kernel_rfl⟩
     ·rw [zLY,if_neg (by assumption)] at jR
      exact ⟨(k+1,Q),⟨by omega,jR.symm⟩,by simp only;omega,by kernel_rfl,by kernel_rfl⟩
    ·refine zAd 1<|zAa<|zAh<|zBv ((↑k:Int)<(↑n.n.length:Int)) (by omega)<|zAS 6<|zAg<|S_a [(1,.v (I (↑(i+1):Int)))] (ap (wrN i) an)<|zAc 1<|zAa ?_
     exact ⟨(i+1,Q),⟨by omega,by rw [yM,hQ,show k=n.n.length by omega]⟩,by simp only;omega,by kernel_rfl,by kernel_rfl⟩
   ·refine zAd 1<|zAa<|zAh<|zBv ((↑i:Int)<(↑n.n.length:Int)) (by omega)<|zAS 4<|zAd 1<|zAc 1<|zAc 1<|zAa<|zAn<|E_a [] an (PV.tup [(PV.agg (I n.h::prs n.l::PV.sl (List.map ntV n.n)::PV.sl (List.map zBp n.s)::PV.own 2 []::PV.omap (List.map zBE MM)::(zAt F 8++zAt L 8))).box,I 0]) [] ?_ rfl
    rw [hL,show i=n.n.length by omega]
    all_goals rfl
end
end Go.Eng
set_option maxRecDepth 10000
set_option maxHeartbeats 4000000
namespace Go.Eng
open Go Go.Proofs
abbrev mapM (M:List (Int×Int)):PV := .map (M.map zBE)
abbrev zDO (n:Nw) (cs:List (Int×Int)):PV := .ref (zCI n (prs cs) (mapM (n.l.map pr2)) (zAj n) (zAZ n))
def zGJ (n:Nw) (c:Int×Int):Bool:=inB c.1 0 (n.n.length-1)&&inB c.2 0 (n.s.length-1)
def zPx (n:Nw) (cs:List (Int×Int)):Int:=if zGE n=0 then if (cs.length:Int)>16 then 2 else if (!cs.all fun c=>zGJ n c)=true then 1 else 0 else zGE n
def zPn (n:Nw) (cs:List (Int×Int)) (e:Int):Int:=if zPx n cs=0 then if inB e 0 12=true then 0 else 3 else zPx n cs
structure CrOk (n:Nw) (cs:List (Int×Int)):Prop where
 err:zPx n cs=0
 nw:NwOk n
 len:cs.length≤16
 cs:∀ c∈cs,(0≤c.1∧c.1<n.n.length)∧(0≤c.2∧c.2<n.s.length)
structure CrW (n:Nw) (cs:List (Int×Int)):Prop where
 nw:NwOk n
 len:cs.length≤1000
 cs:∀ c∈cs,(0≤c.1∧c.1<n.n.length)∧(0≤c.2∧c.2<n.s.length)
theorem CrOk.w {n:Nw} {cs:List (Int×Int)} (h:CrOk n cs):CrW n cs:=⟨h.nw,by have:=h.len;omega,h.cs⟩
theorem zUC {n:Nw} {cs:List (Int×Int)} (he:zPx n cs=0):CrOk n cs:=by
 have he0:=he
 unfold zPx at he
 split at he
 case isFalse h=>exact absurd he h
 rename_i c1
 split at he
 ·cases he
 split at he
 ·cases he
 rename_i c2 c3
 simp only [Bool.not_eq_true,Bool.not_eq_false',List.all_eq_true] at c3
 refine ⟨he0,zUa c1,by omega,fun c hc=>?_⟩
 have:=c3 c hc
 simp only [zGJ,Bool.and_eq_true] at this
 have b1:=zEx this.1
 have b2:=zEx this.2
 omega
structure EvOk (n:Nw) (cs:List (Int×Int)) (e:Int):Prop where
 err:zPn n cs e=0
 cr:CrOk n cs
 ev:0≤e∧e≤12
theorem zTw {n:Nw} {cs:List (Int×Int)} {e:Int} (he:zPn n cs e=0):EvOk n cs e:=by
 have he0:=he
 unfold zPn at he
 split at he
 case isFalse h=>exact absurd he h
 rename_i c1
 split at he
 ·rename_i h;exact ⟨he0,zUC c1,zEx h⟩
 ·cases he
section
variable [Yo]
theorem f85 (n:Nw) (x:Int) (hb:n.s.length≤6):FG 85 [nwV n,I x] (.bool (inB x 0 (n.s.length-1))):=by
 refine zAf Try.f85 ?_
 refine zAd 2<|zAa<|zAd 3<|S_a [(0,.n n.s.length)] (ap (lnS zBp n.s) an)<|S_a [(1,.v (I ((↑n.s.length:Int)-1)))] (ap ((zCo rfl (by omega)):I (IntKind.i64.wrap ((↑n.s.length:Int)-1))=I ((↑n.s.length:Int)-1)) an)<|S_a [(10,.ret (PV.bool (inB x 0 ((↑n.s.length:Int)-1))) [])] (ap (f63 x (0) ((↑n.s.length:Int)-1)) an)<|zAc 1<|zAa<|zAn<|E_a [] an (PV.bool (inB x 0 ((↑n.s.length:Int)-1))) [] rfl rfl
theorem f44 (n:Nw) (c:Int×Int) (cp:PV) (M:List (Int×Int)) (F L:List Int) (ho:NwOk n):FG 44 [.ref (zCI n cp (mapM M) F L),prV c] (.bool (zGJ n c)):=by
 have h1:=ho.nl.2
 have h2:=ho.sl.2
 refine zAf Try.f44 ?_
 refine zAd 2<|zAa<|zAd 6<|S_a [(8,.ret (PV.bool (inB c.fst 0 ((↑n.n.length:Int)-1))) [])] (ap (f73 n c.fst (by omega)) an)<|zAc 1<|zGl 12 (inB c.fst 0 ((↑n.n.length:Int)-1)) (fun k0=>(zAc 6<|S_a [(8,.ret (PV.bool (inB c.snd 0 ((↑n.s.length:Int)-1))) [])] (ap (f85 n c.snd (by omega)) an)<|zAc 2<|zAa<|zAn<|E_a [] an (PV.bool (inB c.snd 0 ((↑n.s.length:Int)-1))) [] ?_ rfl)) (fun k0=>(zAc 9<|zAa<|zAn<|E_a [] an (PV.bool false) [] ?_ rfl))
 ·simp only [zGJ,k0,Bool.true_and]
 ·simp only [zGJ,k0,Bool.false_and]
theorem f124_1 (n:Nw) (M:List (Int×Int)) (F L:List Int) (ho:NwOk n) (x:Int×Int):FG 124 [prV x,.ref (.func 44 [.ref (zCI n (.sl []) (mapM M) F L)] [])] (.bool (!(zGJ n x))):=by
 refine zAf Try.f124 ?_
 refine zAd 2<|zAa<|zAd 2<|S_a [(7,.ret (PV.bool (zGJ n x)) [])] (ap (f44 n x (PV.sl []) M F L (by omega)) an)<|zAc 2<|zAa<|zAn<|E_a [] an (PV.bool !zGJ n x) [] rfl rfl
theorem f59_1 (n:Nw) (M:List (Int×Int)) (F L:List Int) (ho:NwOk n) (l:List (Int×Int)) (hl:l.length<4294967296):FG 59 [.sl (l.map prV),.func 124 [] [.ref (.func 44 [.ref (zCI n (.sl []) (mapM M) F L)] [])]] (I (zEg (fun x => !(zGJ n x)) l)):=by
 refine zAf Try.f59 ?_
 refine zAd 1<|zAa<|zAh<|zAd 1<|S_a [(0,.n l.length)] (ap (lnS prV l) an)<|zAc 1<|zAa<|zAk 0 ?_
 refine zAD (fun i=>i≤l.length∧∀ j,j<i→(fun x => !(zGJ n x)) (l.getD j default)=false) (fun i=>[(8,I (i:Nat))]) (fun i=>l.length-i) (0:Nat) (by simp) fun i ⟨hi,ha⟩=>?_
 refine zAd 1<|zAa<|zAh<|zDo ((↑i:Int)<(↑l.length:Int)) (fun k0=>(zAl<|zAh<|zAk 1<|zAd 2<|zAa<|zAd 3<|S_a [(2,.v (PV.agg [I (l.getD i default).fst,I (l.getD i default).snd]))] (ap (zDn default (by omega):(List.map prV l)[i]? = some (PV.agg [I (l.getD i default).fst,I (l.getD i default).snd])) an)<|zAc 1<|S_a [(7,.ret (PV.bool !zGJ n (l.getD i default)) [])] (ap (f124_1 n M F L (by omega) (l.getD i default)) an)<|zAa<|zFh (!zGJ n (l.getD i default)) (fun k1=>(zAd 2<|zAa<|zAn<|E_a [] an (I (↑i:Int)) [] ?_ rfl)) (fun k1=>(zAl<|zAg<|S_a [(1,.v (I (↑(i+1):Int)))] (ap (wrN i) an)<|zAc 1<|zAa ?_)))) (fun k0=>(zAS 0<|zAd 1<|zAa<|zAn<|E_a [] an (I (-1)) [] ?_ rfl))
 ·rw [zBS (i:=i) (by omega) (fun j hj=>by rw [← zAH (d:=default)];exact ha j hj) (by rw [← zAH (d:=default)];first | assumption | exact decide_eq_true ‹_› | (simp only [Bool.not_eq_true',decide_eq_false_iff_not];assumption))]
 ·refine ⟨i+1,⟨by omega,fun j hj=>?_⟩,by omega,by kernel_rfl,by kernel_rfl⟩
  rcases Nat.lt_succ_iff_lt_or_eq.1 hj with h | rfl
  ·exact ha j h
  ·first | assumption | exact decide_eq_false ‹_› | (simp only [Bool.not_eq_false',decide_eq_true_eq];first | assumption | (apply Decidable.of_not_not;assumption))
 ·rw [zCc fun j hj=>by rw [← zAH (d:=default)];exact ha j (by omega)]
theorem f24_1 (n:Nw) (M:List (Int×Int)) (F L:List Int) (ho:NwOk n) (l:List (Int×Int)) (hl:l.length<4294967296):FG 24 [.sl (l.map prV),.func 124 [] [.ref (.func 44 [.ref (zCI n (.sl []) (mapM M) F L)] [])]] (.bool (l.any (fun x => !(zGJ n x)))):=by
 refine zAf Try.f24 ?_
 refine zAd 1<|zAa<|zAd 2<|S_a [(7,.ret (I (zEg (fun x => !zGJ n x) l)) [])] (ap (f59_1 n M F L (by omega) l (by omega)) an)<|zAc 2<|zAa<|zAn<|E_a [] an (PV.bool (decide (zEg (fun x => !zGJ n x) l≥0))) [] ?_ rfl
 rw [zDP]
theorem f110_1 (n:Nw) (M:List (Int×Int)) (F L:List Int) (ho:NwOk n) (l:List (Int×Int)) (hl:l.length<4294967296):FG 110 [.sl (l.map prV),.func 44 [.ref (zCI n (.sl []) (mapM M) F L)] []] (.bool (l.all (fun x=>zGJ n x))):=by
 refine zAf Try.f110 ?_
 refine zAd 2<|zAa<|zAd 2<|S_a [(12,.ret (PV.bool (l.any fun x => !zGJ n x)) [])] (ap (f24_1 n M F L (by omega) l (by omega)) an)<|zAc 2<|zAa<|zAn<|E_a [] an (PV.bool !l.any fun x => !zGJ n x) [] ?_ rfl
 simp [List.not_any_eq_all_not]
theorem f82_1 (n:Nw) (cs:List (Int×Int)) (ho:CrOk n cs):FG 82 [nwV n,prs cs] (.tup [zDO n cs,I 0]):=by
 have hn:=ho.nw
 have hl:=ho.len
 have ha:(!cs.all fun c=>zGJ n c)=false:=by
  simp only [Bool.not_eq_false',List.all_eq_true]
  intro c hc
  have:=ho.cs c hc
  simp only [zGJ,inB,Bool.and_eq_true,decide_eq_true_eq];omega
 refine zAf Try.f82 ?_
 refine zAd 3<|zAa<|zAd 1<|S_a [(6,.ret (PV.tup [(zCI n (PV.own 2 []) (zU4 (List.map pr2 n.l)) (zAj n) (zAZ n)).box,I 0]) [])] (ap (f55_1 n (by omega)) an)<|zAc 5<|zAa<|zAh<|zAk 0<|zAd 3<|zAa<|zAK<|zAd 1<|S_a [(0,.n cs.length)] (ap (lnS prV cs) an)<|zAc 2<|zAa<|zBv ((↑cs.length:Int)>16) (by omega)<|zAd 3<|S_a [(13,.ret (PV.bool (cs.all fun x=>zGJ n x)) [])] (ap (f110_1 n (List.map pr2 n.l) (zAj n) (zAZ n) (by omega) cs (by omega)) an)<|zAc 2<|zAa<|zFh (!cs.all fun x=>zGJ n x) (fun k0=>(zAd 2<|zAa<|zAn<|E_a [] an (PV.tup [PV.nilp,I 1]) [] ?_ rfl)) (fun k0=>(zAl<|zAd 5<|zAa<|zAd 1<|zAc 1<|zAc 1<|zAa<|zAn<|E_a [] an (PV.tup [(PV.agg (I n.h::prs n.l::PV.sl (List.map ntV n.n)::PV.sl (List.map zBp n.s)::prs cs::PV.map (List.map zBE (List.map pr2 n.l))::(zAt (zAj n) 8++zAt (zAZ n) 8))).ref,I 0]) [] rfl rfl))
 rw [ha] at k0;cases k0
theorem f41_1 (n:Nw) (cs:List (Int×Int)) (e:Int) (ho:EvOk n cs e):FG 41 [nwV n,prs cs,I e] (.tup [zDO n cs,I 0]):=by
 have hc:=ho.cr
 have he:inB e 0 12=true:=by have:=ho.ev;simp only [inB,Bool.and_eq_true,decide_eq_true_eq];omega
 refine zAf Try.f41 ?_
 refine zAd 3<|zAa<|zAd 2<|S_a [(8,.ret (PV.tup [zDO n cs,I 0]) [])] (ap (f82_1 n cs (by omega)) an)<|zAc 5<|zAa<|zAh<|zAd 4<|S_a [(10,.ret (PV.bool (inB e 0 12)) [])] (ap (f63 e (0) (12)) an)<|zAc 2<|zAa<|zFh (!inB e 0 12) (fun k0=>(zAg<|zAc 1<|zAa<|zAh<|zAd 2<|zAa<|zEb<|zAd 3<|zAa<|zAn<|E_a [] an (PV.tup [PV.nilp,I 3]) [] ?_ rfl)) (fun k0=>(zAl<|zAh<|zAd 2<|zAa<|zAK<|zAl<|zAd 3<|zAa<|zAn<|E_a [] an (PV.tup [(PV.agg (I n.h::prs n.l::PV.sl (List.map ntV n.n)::PV.sl (List.map zBp n.s)::prs cs::PV.map (List.map zBE (List.map pr2 n.l))::(zAt (zAj n) 8++zAt (zAZ n) 8))).ref,I 0]) [] rfl rfl))
 rw [he] at k0;cases k0
theorem f111 (n:Nw) (cp:PV) (M:List (Int×Int)) (F L:List Int) (ho:NwOk n) (h:Int) (s:Int) (hs:0≤s∧s<n.s.length):FG 111 [.ref (zCI n cp (mapM M) F L),I h,I s] (.bool (has (n.s.getD s.toNat []) h)):=by
 have h1:=zCu (d:=[]) ho.rows s.toNat (by omega)
 refine zAf Try.f111 ?_
 refine zAd 1<|zAa<|zAd 6<|S_a [(0,.ob),(1,.v (zBp (n.s.getD s.toNat [])))] (ap ((by exact zAv (by omega)):decide (0≤s)=true)<|ap (zDn [] (by omega):(List.map zBp n.s)[s.toNat]? = some (zBp (n.s.getD s.toNat []))) an)<|zAc 2<|S_a [(8,.ret (PV.bool (has (n.s.getD s.toNat []) h)) [])] (ap (f20 (n.s.getD s.toNat []) h (by omega)) an)<|zAc 1<|zAa<|zAn<|E_a [] an (PV.bool (has (n.s.getD s.toNat []) h)) [] rfl rfl
theorem f87 (n:Nw) (cs:List (Int×Int)) (h:Int):FG 87 [zDO n cs,I h] (.func 112 [] [.ref (zDO n cs),.ref (I h)]):=by
 refine zAf Try.f87 ?_
 refine zAd 3<|zAa<|zAd 2<|zAa<|zAn<|E_a [] an (PV.func 112 [] [(PV.agg (I n.h::prs n.l::PV.sl (List.map ntV n.n)::PV.sl (List.map zBp n.s)::prs cs::PV.map (List.map zBE (List.map pr2 n.l))::(zAt (zAj n) 8++zAt (zAZ n) 8))).ref.ref,(I h).ref]) [] rfl rfl
end
def zGc (n:Nw) (a b:Int):Bool:=decide (pr2 (a,b)∈n.l.map pr2)
def zHG (n:Nw) (h:Nat) (o:Nat):List Nat:=(List.range o).filter fun o=>zGc n h o
theorem zLO {n:Nw} {h o:Nat}:zHG n h (o+1)=if zGc n h o=true then zHG n h o++[o] else zHG n h o:=by
 unfold zHG;rw [List.range_succ,List.filter_append]
 by_cases hn:zGc n h o=true
 ·rw [if_pos hn];simp [hn]
 ·rw [if_neg hn];simp [hn]
theorem zTa {n:Nw} {h t m:Nat} (ht:t≤m):zHG n h t <+: zHG n h m:=by
  induction ht with
  | refl=>exact List.prefix_refl _
  | step _ ih => rw [zLO];split
                 · exact ih.trans (List.prefix_append _ _)
                 · exact ih
theorem zSR {α:Type} {x y:List α} (h:x <+: y) {k:Int} (hk:k=x.length):x=y.take k.toNat:=by
 rw [hk,Int.toNat_natCast];exact List.prefix_iff_eq_take.1 h
abbrev zIW (n:Nw) (h o:Nat):List (List PV):=(zHG n h o).map fun (o:Nat)=>[I o]
abbrev zPR (n:Nw) (cs:List (Int×Int)) (h:Nat):List PV:=[.ref (zDO n cs),.ref (I h)]
theorem zUk [Yo] (n:Nw) (cs:List (Int×Int)) (h:Nat) (ho:NwOk n) (hh:(h:Int)<n.h) (k:Int) (hk:k = -1∨1≤k∧k≤(zHG n h n.h.toNat).length) (i:Nat):W Try.prog zBN 112 Try.f112.ntmps (Try.f112.body.getD .ret) (zA5 ([]++PV.yld i::zPR n cs h) []) (some ⟨[],k,i⟩) fun x _ lg=>(x = .norm∨x = .ret)∧lg.map (·.xs)=some (if k = -1 then zIW n h n.h.toNat else (zIW n h n.h.toNat).take k.toNat):=by
 have hb:=ho.h
 refine zAd 6<|zAa<|zAk 0 ?_
 refine zUu (fun (o,xs,kc)=>o≤n.h.toNat∧xs=zIW n h o∧kc=k-xs.length∧(k = -1∨1≤kc)) (fun (o,_,_)=>[(10,I (o:Nat))]) (fun (_,xs,kc)=>some ⟨xs,kc,i⟩) (fun (o,_,_)=>n.h.toNat-o) ((0:Nat),([]:List (List PV)),k) ⟨Nat.zero_le _,rfl,by simp,by omega⟩ fun (o,xs,kc) ⟨hr,jS,hkc,jM⟩=>?_
 by_cases hol:(o:Int)<n.h
 ·have uI:=zLO (n:=n) (h:=h) (o:=o)
  by_cases hI:zGc n h o=true
  ·rw [if_pos hI] at uI
   have gX:pr2 ((h:Int),(o:Int))∈n.l.map pr2:=by simpa [zGc] using hI
   obtain ⟨j,hj,jG⟩:=zRS gX
   have kC:zJB ((n.l.map pr2).map zBE) j=some (.bool true):=by
    have:j<n.l.length:=by simpa using hj
    simp [zJB,this]
   have qN:xs++[[I o]]=zIW n h (o+1):=by rw [zIW,uI,List.map_append,jS];rfl
   have u7:xs++[[I o]] <+: zIW n h n.h.toNat:=by rw [qN];exact (zTa (by omega)).map _
   refine zAd 1<|zAa<|zAh<|zBj ((↑o:Int)<n.h) (by omega)<|zAl<|zAh<|zAk 1<|zAd 2<|zAa<|zAd 7<|S_a [(6,.ret (prV (pr2 ((↑h:Int),(↑o:Int)))) [])] (ap (f93 (((↑h:Int),(↑o:Int)))) an)<|S_a [(2,.ix (some j)),(0,.v (PV.bool true))] (ap jG<|ap (kC:zJB (List.map zBE (List.map pr2 n.l)) j=some (PV.bool true)) an)<|zAc 3 ?_
   refine zUo kc xs [I o] i (fun hk3=>?_) (fun hk3=>?_) (by omega)
   ·refine zAc 2<|zAa<|zEb<|zAn ?_
    refine ⟨.inr rfl,?_⟩
    have wO:k=(xs++[[I (o:Int)]]).length:=by simp;omega
    have jM:¬ k = -1:=by omega
    rw [if_neg jM,← zSR u7 wO];show Option.map _ _=_;kernel_rfl
   ·refine zAc 2<|zAa<|zAK<|zAl<|zAg<|S_a [(1,.v (I (↑(o+1):Int)))] (ap (wrN o) an)<|zAc 1<|zAa ?_
    exact ⟨(o+1,xs++[[I o]],kc-1),⟨by omega,qN,by simp;omega,by omega⟩,by simp only;omega,by kernel_rfl,by kernel_rfl⟩
  ·rw [if_neg hI] at uI
   have gX:pr2 ((h:Int),(o:Int))∉n.l.map pr2:=by simpa [zGc] using hI
   have jG:=zKR gX
   refine zAd 1<|zAa<|zAh<|zBj ((↑o:Int)<n.h) (by omega)<|zAl<|zAh<|zAk 1<|zAd 2<|zAa<|zAd 7<|S_a [(6,.ret (prV (pr2 ((↑h:Int),(↑o:Int)))) [])] (ap (f93 (((↑h:Int),(↑o:Int)))) an)<|S_a [(2,.ix none)] (ap jG an)<|zAc 6<|zAa<|zAK<|zAl<|zAg<|S_a [(1,.v (I (↑(o+1):Int)))] (ap (wrN o) an)<|zAc 1<|zAa ?_
   exact ⟨(o+1,xs,kc),⟨by omega,by rw [zIW,uI];exact jS,hkc,jM⟩,by simp only;omega,by kernel_rfl,by kernel_rfl⟩
 ·have e:o=n.h.toNat:=by omega
  subst e
  have hZ:xs.length=(zHG n h n.h.toNat).length:=by rw [jS];simp
  have jM:k = -1:=by omega
  refine zAd 1<|zAa<|zAh<|zBv ((↑n.h.toNat:Int)<n.h) (by omega)<|zAS 0 ?_
  refine ⟨.inl rfl,?_⟩
  rw [if_pos jM,← jS];show Option.map _ _=_;kernel_rfl
theorem zXF (n:Nw) (cs:List (Int×Int)) (h:Nat) (ho:NwOk n) (hh:(h:Int)<n.h) (k:Int) (hk:k = -1∨1≤k∧k≤(zHG n h n.h.toNat).length):@zSW (yo1 Try.prog zBN) 112 [] (zPR n cs h) k (if k = -1 then zIW n h n.h.toNat else (zIW n h n.h.toNat).take k.toNat) :=
 zSr Try.f112 (fun i=>@zUk yo0 n cs h ho hh k hk i) (by omega)
noncomputable instance nwYo:Yo:=yo1 Try.prog zBN
theorem zT3 (n:Nw) (cs:List (Int×Int)) (h:Nat) (ho:NwOk n) (hh:(h:Int)<n.h):zFZ 112 [] (zPR n cs h) (zIW n h n.h.toNat):=by
 refine ⟨?_,fun j h1 h2=>?_⟩
 ·have:=zXF n cs h ho hh (-1) (.inl rfl)
  rwa [if_pos rfl] at this
 ·have:=zXF n cs h ho hh (j:Int) (.inr ⟨by omega,by simpa using h2⟩)
  rw [if_neg (by omega)] at this
  exact this
end Go.Eng
set_option maxRecDepth 10000
set_option maxHeartbeats 4000000
namespace Go.Eng
open Go Go.Proofs
abbrev hdV (w:List Int):PV := .agg (zAt w 80)
def zPO (w:List Int) (i:Nat) (x:Int):List Int:=w.set i (max (w.getD i 0) x)
theorem zH8 {w:List Int} {i:Nat} {x:Int}:(zPO w i x).length=w.length:=by simp [zPO]
def begC (n:Nw) (h:Nat) (w:List Int) (c:Int×Int):List Int:=if has (n.s.getD c.2.toNat []) h=true then zPO w (h*8+((zAj n).getD c.1.toNat 0).toNat) c.1 else w
def begH (n:Nw) (h:Nat) (w:List Int) (cs:List (Int×Int)):List Int:=cs.foldl (begC n h) w
def begN (n:Nw) (cs:List (Int×Int)) (h:Nat):List Int:=(List.range h).foldl (fun w h=>begH n h w cs) (List.replicate 80 (-1))
def nxtR (now:List Int) (h o:Nat) (w:List Int) (k:Nat):List Int:=(List.range k).foldl (fun w i=>zPO w (h*8+i) (now.getD (o*8+i) 0)) w
def nxtH (now:List Int) (h:Nat) (w:List Int) (l:List Nat):List Int:=l.foldl (fun w o=>nxtR now h o w 8) w
def nxtN (n:Nw) (now:List Int) (h:Nat):List Int:=(List.range h).foldl (fun w h=>nxtH now h w (zHG n h n.h.toNat)) now
def zK9 (n:Nw) (cs:List (Int×Int)):List Int:=begN n cs n.h.toNat
def zCU (n:Nw) (now:List Int):List Int:=nxtN n now n.h.toNat
def zAU (n:Nw) (cs:List (Int×Int)):Nat→List Int
 | 0=>zK9 n cs
 | k+1=>zCU n (zAU n cs k)
theorem zSD {n:Nw} {h:Nat} {w:List Int} {c:Int×Int}:(begC n h w c).length=w.length:=by unfold begC;split<;>simp [zH8]
theorem zLw {n:Nw} {h:Nat}:∀ {cs:List (Int×Int)} {w:List Int},(begH n h w cs).length=w.length
 | [],w=>rfl
 | c::cs,w=>by
  show (begH n h (begC n h w c) cs).length=_
  rw [zLw,zSD]
theorem zI6 {n:Nw} {cs:List (Int×Int)} {h:Nat}:begN n cs (h+1)=begH n h (begN n cs h) cs:=by
 simp only [begN,List.range_succ,List.foldl_append,List.foldl_cons,List.foldl_nil]
theorem zLs {n:Nw} {cs:List (Int×Int)}:∀ h,(begN n cs h).length=80
 | 0=>by simp [begN]
 | h+1=>by rw [zI6,zLw];exact zLs h
theorem zQz {n:Nw} {h:Nat} {w:List Int} {cs:List (Int×Int)} {i:Nat} (hi:i<cs.length):begH n h w (cs.take (i+1))=begC n h (begH n h w (cs.take i)) (cs.getD i default):=zGz hi
theorem zI1 {now w:List Int} {h o k:Nat}:nxtR now h o w (k+1)=zPO (nxtR now h o w k) (h*8+k) (now.getD (o*8+k) 0):=by
 simp only [nxtR,List.range_succ,List.foldl_append,List.foldl_cons,List.foldl_nil]
theorem zHi {now w:List Int} {h o:Nat}:∀ k,(nxtR now h o w k).length=w.length
 | 0=>rfl
 | k+1=>by rw [zI1,zH8];exact zHi k
theorem zKF {now:List Int} {h:Nat}:∀ {l:List Nat} {w:List Int},(nxtH now h w l).length=w.length
 | [],_=>rfl
 | o::l,w=>by
  show (nxtH now h (nxtR now h o w 8) l).length=_
  rw [zKF,zHi]
theorem zIE {n:Nw} {now:List Int} {h:Nat}:nxtN n now (h+1)=nxtH now h (nxtN n now h) (zHG n h n.h.toNat):=by
 simp only [nxtN,List.range_succ,List.foldl_append,List.foldl_cons,List.foldl_nil]
theorem zH5 {n:Nw} {now:List Int}:∀ h,(nxtN n now h).length=now.length
 | 0=>rfl
 | h+1=>by rw [zIE,zKF];exact zH5 h
theorem zRC {now:List Int} {h:Nat} {w:List Int} {l:List Nat} {i:Nat} (hi:i<l.length):nxtH now h w (l.take (i+1))=nxtR now h (l.getD i 0) (nxtH now h w (l.take i)) 8:=zGz hi
theorem zOQ {n:Nw} {cs:List (Int×Int)}:(zK9 n cs).length=80:=zLs _
theorem zRW {n:Nw} {w:List Int} (h:w.length=80):(zCU n w).length=80:=by rw [zCU,zH5,h]
theorem zBT {n:Nw} {cs:List (Int×Int)}:∀ k,(zAU n cs k).length=80
 | 0=>zOQ
 | k+1=>zRW (zBT k)
theorem zJr {F:List Int} {i:Nat} {a:Int} (hF:F.length=8) (hi:i<8) (ha : -1≤a∧a<i) (j:Nat):(zL1 F i a).getD j 0=if j=i then (if a = -1 then (i:Int) else F.getD a.toNat 0) else F.getD j 0:=by
 unfold zL1
 by_cases hj:j=i
 ·subst hj
  rw [if_pos rfl]
  split
  ·rw [zCS,if_pos ⟨rfl,by omega⟩]
  ·rw [zCS,if_pos ⟨rfl,by simp;omega⟩,zCS,if_neg (by omega)]
 ·rw [if_neg hj]
  split
  ·rw [zCS,if_neg (fun h=>hj h.1.symm)]
  ·rw [zCS,if_neg (fun h=>hj h.1.symm),zCS,if_neg (fun h=>hj h.1.symm)]
theorem zNz {n:Nw} (ho:NwOk n):∀ i,i≤n.n.length→∀ j,j<i→0≤(zOR n.n i).getD j 0∧(zOR n.n i).getD j 0≤j
 | 0,_,j,hj=>absurd hj (Nat.not_lt_zero j)
 | i + 1,hi,j,hj=>by
  have h8:=ho.nl.2
  have ha:=ho.na i (by omega)
  rw [zOR,zJr (zHg i) (by omega) ha]
  split
  ·subst j
   split
   ·omega
   ·have:=zNz ho i (by omega) ((n.n.getD i default).1.toNat) (by omega)
    omega
  ·exact zNz ho i (by omega) j (by omega)
theorem zCA {n:Nw} (ho:NwOk n) (j:Nat) (hj:j<n.n.length):0≤(zAj n).getD j 0∧(zAj n).getD j 0≤j:=zNz ho _ (Nat.le_refl _) j hj
theorem f83 (n:Nw) (cs:List (Int×Int)) (ho:CrW n cs):FG 83 [zDO n cs] (hdV (zK9 n cs)):=by
 have hb:=ho.nw.h
 have hn:=ho.nw
 have yO:=ho.len
 refine zAf Try.f83 ?_
 refine zAd 1<|zAa<|zAd 1<|zAa<|zAh<|zAd 1<|zAa<|zAk 0 ?_
 refine zAD (fun (h,w)=>h≤10∧w.length=80∧∀ j,j<h*8→w.getD j 0 = -1) (fun (h,w)=>[(3,.box (hdV w)),(11,I (h:Nat))]) (fun (h,_)=>10-h) ((0:Nat),List.replicate 80 0) ⟨by omega,rfl,fun j h=>by omega⟩ fun (h,w) ⟨hh,hw,ha⟩=>?_
 by_cases hhl:h<10
 ·refine zAd 1<|zAa<|zAh<|zBj ((↑h:Int)<10) (by omega)<|zAl<|zAh<|zAk 1<|zAd 2<|zAa<|zAd 1<|zAa<|zAk 2 ?_
  refine zAD (fun (i,v)=>i≤8∧v.length=80∧∀ j,j<h*8+i→v.getD j 0 = -1) (fun (i,v)=>[(3,.box (hdV v)),(14,I (i:Nat))]) (fun (i,_)=>8-i) ((0:Nat),w) ⟨by omega,hw,fun j h=>ha j (by omega)⟩ fun (i,v) ⟨hi,hv,hav⟩=>?_
  by_cases yW:i<8
  ·refine zAd 1<|zAa<|zAh<|zBj ((↑i:Int)<8) (by omega)<|zAl<|zAh<|zAk 3<|zAd 2<|zAa<|zAg<|zAc 2<|S_a [(2,.ob)] (ap ((by exact zAv (by omega)):decide (h<10)=true) an)<|S_a [(2,.ob)] (ap ((by exact zAv (by omega)):decide (i<8)=true) an)<|S_a [(7,.root ((PV.agg (zAt (v.set (h*8+i) (-1)) 80)).box) true)] (ap (zO9 (zKk (q:=(PV.agg (zAt v 80)).box) (xs:=[PV.agg (zAt v 80)]) (x:=PV.agg (zAt v 80)) (y:=PV.agg (zAt (v.set (h*8+i) (-1)) 80)) (q':=(PV.agg (zAt (v.set (h*8+i) (-1)) 80)).box) rfl (zNf (F:=v) (m:=80) (j:=h*8+i) (u:=-1) (by first | rfl | exact zB5 (by kernel_rfl) | exact zB1 (by kernel_rfl) | exact zBZ (by kernel_rfl) (by kernel_rfl) | exact zB6 (by kernel_rfl) | exact zB8 (by kernel_rfl) (by kernel_rfl) | exact zB2 (by kernel_rfl) | (simp;done)) (by omega) (by omega)) rfl (hb:=zNh (F:=v) (m:=80) (j:=h*8+i) (by first | rfl | exact zB5 (by kernel_rfl) | exact zB1 (by kernel_rfl) | exact zBZ (by kernel_rfl) (by kernel_rfl) | exact zB6 (by kernel_rfl) | exact zB8 (by kernel_rfl) (by kernel_rfl) | exact zB2 (by kernel_rfl) | (simp;done)) (by omega))) rfl:zBQ (PV.agg (zAt v 80)).box [] 0 (0+(↑h:Int).toNat*(fun x=>x.size) Try.prog.types[89]+(↑i:Int).toNat*(fun x=>x.size) Try.prog.types[3]) (I (-1)).cells=some (PV.agg (zAt (v.set (h*8+i) (-1)) 80)).box∧zAN (PV.agg (zAt v 80)).box (PV.agg (zAt (v.set (h*8+i) (-1)) 80)).box []=true) an)<|zAa<|zAg<|S_a [(1,.v (I (↑(i+1):Int)))] (ap (wrN i) an)<|zAc 1<|zAa ?_
   refine ⟨(i+1,v.set (h*8+i) (-1)),⟨by omega,by simpa using hv,fun j hj=>?_⟩,by simp only;omega,by kernel_rfl,by kernel_rfl⟩
   rw [zCS]
   split
   ·rfl
   ·exact hav j (by omega)
  ·refine zAd 1<|zAa<|zAh<|zBv ((↑i:Int)<8) (by omega)<|zAS 2<|zAg<|S_a [(1,.v (I (↑(h+1):Int)))] (ap (wrN h) an)<|zAc 1<|zAa ?_
   exact ⟨(h+1,v),⟨by omega,hv,fun j hj=>hav j (by omega)⟩,by simp only;omega,by kernel_rfl,by kernel_rfl⟩
 ·have hw0:w=List.replicate 80 (-1):=by
   refine List.ext_getElem (by simp [hw]) fun j h1 h2=>?_
   have:=ha j (by omega)
   rw [zAH h1] at this
   rw [this,List.getElem_replicate]
  clear ha
  have hw0':begN n cs 0=w:=by rw [hw0];rfl
  clear hw0
  refine zAd 1<|zAa<|zAh<|zBv ((↑h:Int)<10) (by omega)<|zAS 0<|zAd 3<|zAa<|zAh<|zAd 6<|zAa<|zAk 4 ?_
  refine zAD (fun (h,v)=>h≤n.h.toNat∧v=begN n cs h) (fun (h,v)=>[(3,.box (hdV v)),(30,I (h:Nat))]) (fun (h,_)=>n.h.toNat-h) ((0:Nat),w) ⟨by omega,hw0'.symm⟩ fun (h,v) ⟨hh,hv⟩=>?_
  have jq:v.length=80:=by rw [hv];exact zLs h
  by_cases hhl:(h:Int)<n.h
  ·have yM:=zI6 (n:=n) (cs:=cs) (h:=h)
   rw [← hv] at yM
   refine zAd 1<|zAa<|zAh<|zBj ((↑h:Int)<n.h) (by omega)<|zAl<|zAh<|zAk 5<|zAd 2<|zAa<|zAd 4<|S_a [(0,.n cs.length)] (ap (lnS prV cs) an)<|zAc 1<|zAa<|zAk 6 ?_
   refine zAD (fun (i,q)=>i≤cs.length∧q=begH n h v (cs.take i)) (fun (i,q)=>[(3,.box (hdV q)),(38,I (i:Nat))]) (fun (i,_)=>cs.length-i) ((0:Nat),v) ⟨by omega,rfl⟩ fun (i,q) ⟨hi,hq⟩=>?_
   have qf:q.length=80:=by rw [hq,zLw];exact jq
   by_cases yW:i<cs.length
   ·have hci:=zCu (d:=default) ho.cs i yW
    have jC:=zQz (n:=n) (h:=h) (w:=v) yW
    rw [← hq] at jC
    have hfb:=zCA hn (cs.getD i default).1.toNat (by omega)
    have wD:=hn.nl
    have jD:=hci.2
    have vS:0≤(cs.getD i default).1∧(cs.getD i default).1<8:=by omega
    have gq:((zAj n).getD (cs.getD i default).1.toNat 0).toNat<8:=by have:=hn.nl;omega
    clear yM hv hq
    refine zAd 1<|zAa<|zAh<|zBj ((↑i:Int)<(↑cs.length:Int)) (by omega)<|zAl<|zAh<|zAk 7<|zAh<|zAg<|S_a [(2,.v (PV.agg [I (cs.getD i default).fst,I (cs.getD i default).snd]))] (ap (zDn default (by omega):(List.map prV cs)[i]? = some (PV.agg [I (cs.getD i default).fst,I (cs.getD i default).snd])) an)<|zAc 3<|zAa<|zAd 4<|S_a [(9,.ret (PV.bool (has (n.s.getD (cs.getD i default).snd.toNat []) (↑h:Int))) [])] (ap (f111 n (prs cs) (List.map pr2 n.l) (zAj n) (zAZ n) (by omega) ((↑h:Int)) ((cs.getD i default).snd) (by omega)) an)<|zAa<|zFh (has (n.s.getD (cs.getD i default).snd.toNat []) (↑h:Int)) (fun k0=>(zAd 5<|S_a [(0,.ob),(1,.ob),(0,.v ((I ((zAj n).getD (cs.getD i default).fst.toNat 0)).ref))] (ap ((by exact zAv (by omega)):decide (0≤(cs.getD i default).fst)=true)<|ap ((by exact zAv (by omega)):decide ((cs.getD i default).fst.toNat<8)=true)<|ap (zGt (F:=zAj n) (m:=8) (j:=(cs.getD i default).fst.toNat) (by omega):zCj (PV.agg (zAt (zAj n) 8)).ref ((cs.getD i default).fst.toNat*(fun x=>x.size) Try.prog.types[3]) none=some (I ((zAj n).getD (cs.getD i default).fst.toNat 0)).ref) an)<|zAc 2<|zAa<|zAg<|zAc 4<|S_a [(2,.ob)] (ap ((by exact zAv (by omega)):decide (h<10)=true) an)<|S_a [(0,.ob),(1,.ob)] (ap ((by exact zAv (by omega)):decide (0≤(zAj n).getD (cs.getD i default).fst.toNat 0)=true)<|ap ((by exact zAv (by omega)):decide (((zAj n).getD (cs.getD i default).fst.toNat 0).toNat<8)=true) an)<|S_a [(0,.cs true ([I (q.getD (h*8+((zAj n).getD (cs.getD i default).fst.toNat 0).toNat) 0)]))] (ap (zDd (q:=(PV.agg (zAt q 80)).box) (xs:=[PV.agg (zAt q 80)]) (x:=PV.agg (zAt q 80)) rfl rfl (zFd (F:=q) (m:=80) (j:=h*8+((zAj n).getD (cs.getD i default).fst.toNat 0).toNat) (by first | rfl | exact zB5 (by kernel_rfl) | exact zB1 (by kernel_rfl) | exact zBZ (by kernel_rfl) (by kernel_rfl) | exact zB6 (by kernel_rfl) | exact zB8 (by kernel_rfl) (by kernel_rfl) | exact zB2 (by kernel_rfl) | (simp;done)) (by omega)):zAr 3 (PV.agg (zAt q 80)).box [] 0 (0+(↑h:Int).toNat*(fun x=>x.size) Try.prog.types[89]+((zAj n).getD (cs.getD i default).fst.toNat 0).toNat*(fun x=>x.size) Try.prog.types[3]) 1=some (true,[I (q.getD (h*8+((zAj n).getD (cs.getD i default).fst.toNat 0).toNat) 0)])) an)<|zAc 3<|S_a [(9,.ret (I (max (q.getD (h*8+((zAj n).getD (cs.getD i default).fst.toNat 0).toNat) 0) (cs.getD i default).fst)) [])] (ap (f94 (q.getD (h*8+((zAj n).getD (cs.getD i default).fst.toNat 0).toNat) 0) ((cs.getD i default).fst)) an)<|S_a [(2,.ob)] (ap ((by exact zAv (by omega)):decide (h<10)=true) an)<|S_a [(0,.ob),(1,.ob)] (ap ((by exact zAv (by omega)):decide (0≤(zAj n).getD (cs.getD i default).fst.toNat 0)=true)<|ap ((by exact zAv (by omega)):decide (((zAj n).getD (cs.getD i default).fst.toNat 0).toNat<8)=true) an)<|S_a [(8,.root ((PV.agg (zAt (q.set (h*8+((zAj n).getD (cs.getD i default).fst.toNat 0).toNat) (max (q.getD (h*8+((zAj n).getD (cs.getD i default).fst.toNat 0).toNat) 0) (cs.getD i default).fst)) 80)).box) true)] (ap (zO9 (zKk (q:=(PV.agg (zAt q 80)).box) (xs:=[PV.agg (zAt q 80)]) (x:=PV.agg (zAt q 80)) (y:=PV.agg (zAt (q.set (h*8+((zAj n).getD (cs.getD i default).fst.toNat 0).toNat) (max (q.getD (h*8+((zAj n).getD (cs.getD i default).fst.toNat 0).toNat) 0) (cs.getD i default).fst)) 80)) (q':=(PV.agg (zAt (q.set (h*8+((zAj n).getD (cs.getD i default).fst.toNat 0).toNat) (max (q.getD (h*8+((zAj n).getD (cs.getD i default).fst.toNat 0).toNat) 0) (cs.getD i default).fst)) 80)).box) rfl (zNf (F:=q) (m:=80) (j:=h*8+((zAj n).getD (cs.getD i default).fst.toNat 0).toNat) (u:=max (q.getD (h*8+((zAj n).getD (cs.getD i default).fst.toNat 0).toNat) 0) (cs.getD i default).fst) (by first | rfl | exact zB5 (by kernel_rfl) | exact zB1 (by kernel_rfl) | exact zBZ (by kernel_rfl) (by kernel_rfl) | exact zB6 (by kernel_rfl) | exact zB8 (by kernel_rfl) (by kernel_rfl) | exact zB2 (by kernel_rfl) | (simp;done)) (by omega) (by omega)) rfl (hb:=zNh (F:=q) (m:=80) (j:=h*8+((zAj n).getD (cs.getD i default).fst.toNat 0).toNat) (by first | rfl | exact zB5 (by kernel_rfl) | exact zB1 (by kernel_rfl) | exact zBZ (by kernel_rfl) (by kernel_rfl) | exact zB6 (by kernel_rfl) | exact zB8 (by kernel_rfl) (by kernel_rfl) | exact zB2 (by kernel_rfl) | (simp;done)) (by omega))) rfl:zBQ (PV.agg (zAt q 80)).box [] 0 (0+(↑h:Int).toNat*(fun x=>x.size) Try.prog.types[89]+((zAj n).getD (cs.getD i default).fst.toNat 0).toNat*(fun x=>x.size) Try.prog.types[3]) (I (max (q.getD (h*8+((zAj n).getD (cs.getD i default).fst.toNat 0).toNat) 0) (cs.getD i default).fst)).cells=some (PV.agg (zAt (q.set (h*8+((zAj n).getD (cs.getD i default).fst.toNat 0).toNat) (max (q.getD (h*8+((zAj n).getD (cs.getD i default).fst.toNat 0).toNat) 0) (cs.getD i default).fst)) 80)).box∧zAN (PV.agg (zAt q 80)).box (PV.agg (zAt (q.set (h*8+((zAj n).getD (cs.getD i default).fst.toNat 0).toNat) (max (q.getD (h*8+((zAj n).getD (cs.getD i default).fst.toNat 0).toNat) 0) (cs.getD i default).fst)) 80)).box []=true) an)<|zAa<|zAg<|S_a [(1,.v (I (↑(i+1):Int)))] (ap (wrN i) an)<|zAc 1<|zAa ?_)) (fun k0=>(zAl<|zAg<|S_a [(1,.v (I (↑(i+1):Int)))] (ap (wrN i) an)<|zAc 1<|zAa ?_))
    ·rw [begC,if_pos k0] at jC
     exact ⟨(i+1,zPO q (h*8+((zAj n).getD (cs.getD i default).1.toNat 0).toNat) (cs.getD i default).1),⟨by omega,jC.symm⟩,by simp only;omega,by kernel_rfl,by kernel_rfl⟩
    ·rw [begC,if_neg (by rw [k0];simp)] at jC
     exact ⟨(i+1,q),⟨by omega,jC.symm⟩,by simp only;omega,by kernel_rfl,by kernel_rfl⟩
   ·refine zAd 1<|zAa<|zAh<|zBv ((↑i:Int)<(↑cs.length:Int)) (by omega)<|zAS 6<|zAg<|S_a [(1,.v (I (↑(h+1):Int)))] (ap (wrN h) an)<|zAc 1<|zAa ?_
    rw [List.take_of_length_le (by omega)] at hq
    exact ⟨(h+1,q),⟨by omega,by rw [yM,hq]⟩,by simp only;omega,by kernel_rfl,by kernel_rfl⟩
  ·have e:h=n.h.toNat:=by omega
   subst e
   refine zAd 1<|zAa<|zAh<|zBv ((↑n.h.toNat:Int)<n.h) (by omega)<|zAS 4<|zAd 2<|zAa<|zAn<|E_a [] an (PV.agg (zAt v 80)) [] ?_ rfl
   rw [hv];rfl
theorem zQy {n:Nw} {h o m:Nat} (ho:o∈zHG n h m):o<m:=by
 simp only [zHG,List.mem_filter,List.mem_range] at ho;exact ho.1
theorem zTr {w:List Int} {o i:Nat} (hi:i<8):((w.drop o).take 8).getD i 0=w.getD (o+i) 0:=by
 simp [List.getD_eq_getElem?_getD,List.getElem?_take,hi]
theorem f84 (n:Nw) (cs:List (Int×Int)) (now:List Int) (ho:NwOk n) (hw:now.length=80):FG 84 [zDO n cs,hdV now] (hdV (zCU n now)):=by
 have hb:=ho.h
 refine zAf Try.f84 ?_
 refine zAd 2<|zAa<|zAd 3<|zAa<|zAh<|zAd 6<|zAa<|zAk 0 ?_
 refine zAD (fun (h,v)=>h≤n.h.toNat∧v=nxtN n now h) (fun (h,v)=>[(5,.box (hdV v)),(16,I (h:Nat))]) (fun (h,_)=>n.h.toNat-h) ((0:Nat),now) ⟨by omega,rfl⟩ fun (h,v) ⟨hh,hv⟩=>?_
 have jq:v.length=80:=by rw [hv,zH5];exact hw
 by_cases hhl:(h:Int)<n.h
 ·have yM:=zIE (n:=n) (now:=now) (h:=h)
  rw [← hv] at yM
  have hA:=zT3 n cs h ho hhl
  refine zAd 1<|zAa<|zAh<|zBj ((↑h:Int)<n.h) (by omega)<|zAl<|zAh<|zAk 1<|zAd 3<|zAa<|zAd 2<|S_a [(7,.ret (PV.func 112 [] [(zDO n cs).ref,(I (↑h:Int)).ref]) [])] (ap (f87 n cs ((↑h:Int))) an)<|zAa<|zAk 2 ?_
  refine zOm (t:=21) hA (fun j q=>q=nxtH now h v ((zHG n h n.h.toNat).take j)) (fun q=>[(5,.box (hdV q))]) v rfl (fun j x q hx hq=>?_) (fun q hq=>?_)
  ·rw [List.getElem?_map] at hx
   obtain ⟨o,hm,rfl⟩:=Option.map_eq_some_iff.1 hx
   have hj:j<(zHG n h n.h.toNat).length:=(List.getElem?_eq_some_iff.1 hm).1
   have hol:o<n.h.toNat:=zQy (List.mem_of_getElem? hm)
   have qf:q.length=80:=by rw [hq,zKF];exact jq
   have jC:=zRC (now:=now) (h:=h) (w:=v) hj
   rw [← hq,show (zHG n h n.h.toNat).getD j 0=o by simp [List.getD_eq_getElem?_getD,hm]] at jC
   clear yM hv hA hq hm hj
   refine zN4 ?_
   refine zAg<|zAc 1<|zAa ?_
   refine ⟨rfl,by kernel_rfl,?_⟩
   refine zAk 3<|zAd 1<|S_a [(2,.ob)] (ap ((by exact zAv (by omega)):decide (o<10)=true) an)<|S_a [(0,.cs true (zAt (List.take 8 (List.drop (o*8) now)) 8))] (ap (zDd (q:=(PV.agg (zAt now 80)).box) (xs:=[PV.agg (zAt now 80)]) (x:=PV.agg (zAt now 80)) rfl rfl (zU8 (K:=8) (c:=o*8) (by omega) (by first | rfl | exact zB5 (by kernel_rfl) | exact zB1 (by kernel_rfl) | exact zB2 (by kernel_rfl) | (simp;done)) (by omega) (by kernel_rfl)):zAr 3 (PV.agg (zAt now 80)).box [] 0 (0+(↑o:Int).toNat*(fun x=>x.size) Try.prog.types[89]) Try.prog.types[89].size=some (true,zAt (List.take 8 (List.drop (o*8) now)) 8)) an)<|zAc 1<|zAa<|zAk 4 ?_
   refine zAD (fun (i,p)=>i≤8∧p=nxtR now h o q i) (fun (i,p)=>[(5,.box (hdV p)),(26,I (i:Nat))]) (fun (i,_)=>8-i) ((0:Nat),q) ⟨by omega,rfl⟩ fun (i,p) ⟨hi,hp⟩=>?_
   have uk:p.length=80:=by rw [hp,zHi];exact qf
   by_cases yW:i<8
   ·have uI:=zI1 (now:=now) (w:=q) (h:=h) (o:=o) (k:=i)
    rw [← hp,← zTr yW] at uI
    refine zAd 1<|zAa<|zAh<|zBj ((↑i:Int)<8) (by omega)<|zAl<|zAh<|zAk 5<|zAd 1<|S_a [(2,.ob),(0,.v (I ((List.take 8 (List.drop (o*8) now)).getD i 0)))] (ap ((by exact zAv (by omega)):decide (i<8)=true)<|ap (zSV (F:=List.take 8 (List.drop (o*8) now)) (m:=8) (j:=i) (by omega):sub (PV.agg (zAt (List.take 8 (List.drop (o*8) now)) 8)) (i*(fun x=>x.size) Try.prog.types[3]) none=some (I ((List.take 8 (List.drop (o*8) now)).getD i 0))) an)<|zAc 2<|zAa<|zAg<|zAc 4<|S_a [(2,.ob)] (ap ((by exact zAv (by omega)):decide (h<10)=true) an)<|S_a [(2,.ob)] (ap ((by exact zAv (by omega)):decide (i<8)=true) an)<|S_a [(0,.cs true ([I (p.getD (h*8+i) 0)]))] (ap (zDd (q:=(PV.agg (zAt p 80)).box) (xs:=[PV.agg (zAt p 80)]) (x:=PV.agg (zAt p 80)) rfl rfl (zFd (F:=p) (m:=80) (j:=h*8+i) (by first | rfl | exact zB5 (by kernel_rfl) | exact zB1 (by kernel_rfl) | exact zBZ (by kernel_rfl) (by kernel_rfl) | exact zB6 (by kernel_rfl) | exact zB8 (by kernel_rfl) (by kernel_rfl) | exact zB2 (by kernel_rfl) | (simp;done)) (by omega)):zAr 5 (PV.agg (zAt p 80)).box [] 0 (0+(↑h:Int).toNat*(fun x=>x.size) Try.prog.types[89]+(↑i:Int).toNat*(fun x=>x.size) Try.prog.types[3]) 1=some (true,[I (p.getD (h*8+i) 0)])) an)<|zAc 2<|S_a [(9,.ret (I (max (p.getD (h*8+i) 0) ((List.take 8 (List.drop (o*8) now)).getD i 0))) [])] (ap (f94 (p.getD (h*8+i) 0) ((List.take 8 (List.drop (o*8) now)).getD i 0)) an)<|S_a [(2,.ob)] (ap ((by exact zAv (by omega)):decide (h<10)=true) an)<|S_a [(2,.ob)] (ap ((by exact zAv (by omega)):decide (i<8)=true) an)<|S_a [(8,.root ((PV.agg (zAt (p.set (h*8+i) (max (p.getD (h*8+i) 0) ((List.take 8 (List.drop (o*8) now)).getD i 0))) 80)).box) true)] (ap (zO9 (zKk (q:=(PV.agg (zAt p 80)).box) (xs:=[PV.agg (zAt p 80)]) (x:=PV.agg (zAt p 80)) (y:=PV.agg (zAt (p.set (h*8+i) (max (p.getD (h*8+i) 0) ((List.take 8 (List.drop (o*8) now)).getD i 0))) 80)) (q':=(PV.agg (zAt (p.set (h*8+i) (max (p.getD (h*8+i) 0) ((List.take 8 (List.drop (o*8) now)).getD i 0))) 80)).box) rfl (zNf (F:=p) (m:=80) (j:=h*8+i) (u:=max (p.getD (h*8+i) 0) ((List.take 8 (List.drop (o*8) now)).getD i 0)) (by first | rfl | exact zB5 (by kernel_rfl) | exact zB1 (by kernel_rfl) | exact zBZ (by kernel_rfl) (by kernel_rfl) | exact zB6 (by kernel_rfl) | exact zB8 (by kernel_rfl) (by kernel_rfl) | exact zB2 (by kernel_rfl) | (simp;done)) (by omega) (by omega)) rfl (hb:=zNh (F:=p) (m:=80) (j:=h*8+i) (by first | rfl | exact zB5 (by kernel_rfl) | exact zB1 (by kernel_rfl) | exact zBZ (by kernel_rfl) (by kernel_rfl) | exact zB6 (by kernel_rfl) | exact zB8 (by kernel_rfl) (by kernel_rfl) | exact zB2 (by kernel_rfl) | (simp;done)) (by omega))) rfl:zBQ (PV.agg (zAt p 80)).box [] 0 (0+(↑h:Int).toNat*(fun x=>x.size) Try.prog.types[89]+(↑i:Int).toNat*(fun x=>x.size) Try.prog.types[3]) (I (max (p.getD (h*8+i) 0) ((List.take 8 (List.drop (o*8) now)).getD i 0))).cells=some (PV.agg (zAt (p.set (h*8+i) (max (p.getD (h*8+i) 0) ((List.take 8 (List.drop (o*8) now)).getD i 0))) 80)).box∧zAN (PV.agg (zAt p 80)).box (PV.agg (zAt (p.set (h*8+i) (max (p.getD (h*8+i) 0) ((List.take 8 (List.drop (o*8) now)).getD i 0))) 80)).box []=true) an)<|zAa<|zAg<|S_a [(1,.v (I (↑(i+1):Int)))] (ap (wrN i) an)<|zAc 1<|zAa ?_
    exact ⟨(i+1,_),⟨by omega,uI.symm⟩,by simp only;omega,by kernel_rfl,by kernel_rfl⟩
   ·refine zAd 1<|zAa<|zAh<|zBv ((↑i:Int)<8) (by omega)<|zAS 4 ?_
    rw [show i=8 by omega] at hp
    exact ⟨by kernel_rfl,p,by rw [jC,hp],by kernel_rfl⟩
  ·rw [List.length_map,List.take_length] at hq
   show W _ _ _ _ _ _ _ _
   refine zAg<|S_a [(1,.v (I (↑(h+1):Int)))] (ap (wrN h) an)<|zAc 1<|zAa ?_
   exact ⟨(h+1,q),⟨by omega,by rw [yM,hq]⟩,by simp only;omega,by kernel_rfl,by kernel_rfl⟩
 ·have e:h=n.h.toNat:=by omega
  subst e
  refine zAd 1<|zAa<|zAh<|zBv ((↑n.h.toNat:Int)<n.h) (by omega)<|zAS 0<|zAd 2<|zAa<|zAn<|E_a [] an (PV.agg (zAt v 80)) [] ?_ rfl
  rw [hv];rfl
end Go.Eng
