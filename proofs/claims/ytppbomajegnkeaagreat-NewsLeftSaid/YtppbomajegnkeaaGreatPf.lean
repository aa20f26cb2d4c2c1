/- For whatever news, cries and evenings, the law NewsLeft returns true and changes no argument: gaps, misled yz, when all is zD8 and when all is clear are as the reference tells them. -/
import Derived.Test.YtppbomajegnkeaaGreatPe
import Derived.Test.YtppbomajegnkeaaGreatPd
set_option linter.unusedVariables false
set_option linter.unusedSimpArgs false
set_option linter.unusedSectionVars false
set_option maxRecDepth 10000
set_option maxHeartbeats 4000000
namespace Go.Eng
open Go Go.Proofs
def zGO (h:Int) (x:Int×Int):Bool:=inB x.1 0 (h-1)&&inB x.2 0 (h-1)
def zHM (x:Int×Int):Bool:=decide (x.1≠x.2)
def zBt (h:Int) (l:List (Int×Int)):Int:=if (l.all fun x=>zGO h x)=true then if (l.all fun x=>zHM x)=true then if (l.map pr2).Nodup then 0 else 5 else 8 else 1
def zNI (l:List (Int×Bool)):Bool:=(List.range l.length).all fun i=>inB (l.getD i default).1 (-1) ((i:Int)-1)
def zLU (l:List (Int×Bool)) (i:Nat):Bool:=decide ((l.getD i default).1≠-1)&&(l.take i).any fun y=>decide (y.1=(l.getD i default).1)
def zCB (l:List (Int×Bool)):Int:=if zNI l=true then if (List.range l.length).any (zLU l)=true then 5 else 0 else 1
def zDg (l:List Int):Bool:=zFQ l&&decide ((zFk l).length=l.length)
def zIl (h:Int) (l:List Int):Bool:=l.all fun x=>inB x 0 (h-1)
def zCP (n:Nw):Int :=
 if (!inB n.h 1 10)=true then 2 else if (n.l.length:Int)>15 then 2 else if (!inB n.n.length 1 8)=true then 2 else if (!inB n.s.length 1 6)=true then 2
 else if zBt n.h n.l=0 then
  if zCB n.n=0 then
   if (!n.s.all fun x=>zIl n.h x)=true then 1 else if (!n.s.all fun x=>zDg x)=true then 4 else 0
  else zCB n.n
 else zBt n.h n.l
theorem zXG {n lo hi:Int} (h:(!inB n lo hi)=false):lo≤n∧n≤hi:=by simpa [inB] using h
abbrev zBy (x:Int×Int):PV×PV:=(prV x,.bool true)
theorem zOQ {M:List (Int×Int)} (x:Int×Int):zC5 Tryz.prog 87 (prV x) (M.map zBy) 0=some (M.findIdx? fun y=>decide (x=y)):=by
 rw [zMi (kx:=Prod.fst) (ky:=Prod.snd) (fun _=>rfl) (zQV) x.1 x.2 M 0]
 simp [zWL]
theorem zRA {M:List (Int×Int)} {x:Int×Int} (h:x∈M):∃ j,j<M.length∧zC5 Tryz.prog 87 (prV x) (M.map zBy) 0=some (some j):=by
 rw [zOQ]
 cases hf:M.findIdx? fun y=>decide (x=y) with
 | none =>
  rw [List.findIdx?_eq_none_iff] at hf
  have:=hf x h;simp at this
 | some j=>exact ⟨j,(List.findIdx?_eq_some_iff_getElem.1 hf).1,rfl⟩
theorem zLF {M:List (Int×Int)} {x:Int×Int} (h:x∉M):zC5 Tryz.prog 87 (prV x) (M.map zBy) 0=some none:=by
 rw [zOQ,List.findIdx?_eq_none_iff.2]
 intro y hy
 simp only [decide_eq_false_iff_not]
 intro e;subst e;exact h hy
structure Small (n:Nw):Prop where
 hl:n.l.length<1000000
 hn:n.n.length<1000000
 hs:n.s.length<1000000
 hr:∀ x∈n.s,x.length<1000000
section
variable [Yo]
theorem f196 (n:Nw) (x:Int×Int) (hb:1≤n.h∧n.h≤10):FG 196 [prV x,.ref (nwV n)] (.bool (zGO n.h x)):=by
 refine zAf Tryz.f196 ?_
 refine zAb (zAa (zAd 2 (zAc (zAb (zAa (zAd 1 (zAd 1 (zAd 1 (S_a [(8,.ret (PV.bool (inB x.fst 0 (n.h-1))) ([]))] (ap (f109 (n) (x.fst) (by omega)) an) (zAd 1 (zDV 8 (inB x.fst 0 (n.h-1)) (fun k0=>(zAd 1 (zAd 1 (zAd 1 (S_a [(8,.ret (PV.bool (inB x.snd 0 (n.h-1))) ([]))] (ap (f109 (n) (x.snd) (by omega)) an) (zAd 2 (zAc (zAl (E_a [] an (PV.bool (inB x.snd 0 (n.h-1))) ([]) ?_ rfl))))))))) (fun k0=>(zAd 6 (zAc (zAl (E_a [] an (PV.bool false) ([]) ?_ rfl))))))))))))))))
 ·simp only [zGO,k0,Bool.true_and]
 ·simp only [zGO,k0,Bool.false_and]
theorem f197 (x:Int×Int):FG 197 [prV x] (.bool (zHM x)):=by
 refine zAf Tryz.f197 ?_
 refine zAb (zAa (zAd 2 (zAc (zAb (zAa (zAd 1 (zAd 1 (zAd 1 (zAd 3 (zAc (zAl (E_a [] an (PV.bool (x.fst != x.snd)) ([]) ?_ rfl))))))))))))
 congr 1;rw [Bool.eq_iff_iff];simp [zHM]
theorem f199 (x y:Int×Bool):FG 199 [ntV y,.ref (ntV x)] (.bool (decide (y.1=x.1))):=by
 refine zAf Tryz.f199 ?_
 refine zAb (zAa (zAd 2 (zAc (zAb (zAa (zAd 6 (zAc (zAl (E_a [] an (PV.bool (y.fst==x.fst)) ([]) rfl rfl)))))))))
theorem f168_1 (n:Nw) (hb:1≤n.h∧n.h≤10) (x:Int):FG 168 [I x,.ref (.func 109 [nwV n] [])] (.bool (!(inB x 0 (n.h-1)))):=by
 refine zAf Tryz.f168 ?_
 refine zAb (zAa (zAd 1 (zAc (zAb (zAa (zAd 2 (S_a [(8,.ret (PV.bool (inB x 0 (n.h-1))) ([]))] (ap (f109 (n) (x) (by omega)) an) (zAd 2 (zAc (zAl (E_a [] an (PV.bool !inB x 0 (n.h-1)) ([]) rfl rfl)))))))))))
theorem f131_1 (n:Nw) (hb:1≤n.h∧n.h≤10) (l:List (Int)) (hl:l.length<4294967296):FG 131 [.sl (l.map I),.func 168 [] [.ref (.func 109 [nwV n] [])]] (I (zES (fun x => !(inB x 0 (n.h-1))) l)):=by
 refine zAf Tryz.f131 ?_
 refine zAb (zAa (zAd 1 (zAc (zAb (zAb (zAa (zAd 1 (S_a [(0,.n (l.length))] (ap (lnS I l) an) (zAd 1 (zAc (zAh 0 ?_)))))))))))
 refine zAo (fun i=>i≤l.length∧∀ j,j<i→(fun x => !(inB x 0 (n.h-1))) (l.getD j 0)=false) (fun i=>[(8,I (i:Nat))]) (fun i=>l.length-i) (0:Nat) (by simp) fun i ⟨hi,ha⟩=>?_
 refine zAb (zAa (zAd 1 (zAc (zAb (zBU ((↑i:Int)<(↑l.length:Int)) (fun k0=>(zAi (zAb (zAh 1 (zAb (zAa (zAd 2 (zAc (zAb (zAa (zAd 3 (S_a [(2,.v (I (l.getD i 0)))] (ap (zBA (0) (by omega):(List.map I l)[i]? = some (I (l.getD i 0))) an) (zAd 1 (S_a [(7,.ret (PV.bool !inB (l.getD i 0) 0 (n.h-1)) ([]))] (ap (f168_1 (n) (by omega) (l.getD i 0)) an) (zAc (zD4 (!inB (l.getD i 0) 0 (n.h-1)) (fun k1=>(zAb (zAa (zAd 2 (zAc (zAl (E_a [] an (I (↑i:Int)) ([]) ?_ rfl))))))) (fun k1=>(zAi (zAa (S_a [(1,.v (I (↑(i+1):Int)))] (ap (wrN i) an) (zAd 1 (zAc ?_)))))))))))))))))))))) (fun k0=>(zAv 0 (zAb (zAa (zAd 1 (zAc (zAl (E_a [] an (I (-1)) ([]) ?_ rfl)))))))))))))
 ·rw [zBY (i:=i) (by omega) (fun j hj=>by rw [← zAr (d:=0)];exact ha j hj) (by rw [← zAr (d:=0)];first | assumption | exact decide_eq_true ‹_› | (simp only [Bool.not_eq_true',decide_eq_false_iff_not];assumption))]
 ·refine ⟨i+1,⟨by omega,fun j hj=>?_⟩,by omega,by kernel_rfl,by kernel_rfl⟩
  rcases Nat.lt_succ_iff_lt_or_eq.1 hj with h | rfl
  ·exact ha j h
  ·first | assumption | exact decide_eq_false ‹_› | (simp only [Bool.not_eq_false',decide_eq_true_eq];first | assumption | (apply Decidable.of_not_not;assumption))
 ·rw [zCl fun j hj=>by rw [← zAr (d:=0)];exact ha j (by omega)]
theorem f52_1 (n:Nw) (hb:1≤n.h∧n.h≤10) (l:List (Int)) (hl:l.length<4294967296):FG 52 [.sl (l.map I),.func 168 [] [.ref (.func 109 [nwV n] [])]] (.bool (l.any (fun x => !(inB x 0 (n.h-1))))):=by
 refine zAf Tryz.f52 ?_
 refine zAb (zAa (zAd 1 (zAc (zAb (zAa (zAd 2 (S_a [(7,.ret (I (zES (fun x => !inB x 0 (n.h-1)) l)) ([]))] (ap (f131_1 (n) (by omega) (l) (by omega)) an) (zAd 2 (zAc (zAl (E_a [] an (PV.bool (decide (zES (fun x => !inB x 0 (n.h-1)) l≥0))) ([]) ?_ rfl)))))))))))
 rw [zEe]
theorem f108_1 (n:Nw) (hb:1≤n.h∧n.h≤10) (l:List (Int)) (hl:l.length<4294967296):FG 108 [.sl (l.map I),.func 109 [nwV n] []] (.bool (l.all (fun x=>inB x 0 (n.h-1)))):=by
 refine zAf Tryz.f108 ?_
 refine zAb (zAa (zAd 2 (zAc (zAb (zAa (zAd 2 (S_a [(12,.ret (PV.bool (l.any fun x => !inB x 0 (n.h-1))) ([]))] (ap (f52_1 (n) (by omega) (l) (by omega)) an) (zAd 2 (zAc (zAl (E_a [] an (PV.bool !l.any fun x => !inB x 0 (n.h-1)) ([]) ?_ rfl)))))))))))
 simp [List.not_any_eq_all_not]
theorem f221_1 (n:Nw) (hb:1≤n.h∧n.h≤10) (x:Int×Int):FG 221 [prV x,.ref (.func 196 [] [.ref (nwV n)])] (.bool (!(zGO n.h x))):=by
 refine zAf Tryz.f221 ?_
 refine zAb (zAa (zAd 2 (zAc (zAb (zAa (zAd 2 (S_a [(7,.ret (PV.bool (zGO n.h x)) ([]))] (ap (f196 (n) (x) (by omega)) an) (zAd 2 (zAc (zAl (E_a [] an (PV.bool !zGO n.h x) ([]) rfl rfl)))))))))))
theorem f202_1 (n:Nw) (hb:1≤n.h∧n.h≤10) (l:List (Int×Int)) (hl:l.length<4294967296):FG 202 [.sl (l.map prV),.func 221 [] [.ref (.func 196 [] [.ref (nwV n)])]] (I (zES (fun x => !(zGO n.h x)) l)):=by
 refine zAf Tryz.f202 ?_
 refine zAb (zAa (zAd 1 (zAc (zAb (zAb (zAa (zAd 1 (S_a [(0,.n (l.length))] (ap (lnS prV l) an) (zAd 1 (zAc (zAh 0 ?_)))))))))))
 refine zAo (fun i=>i≤l.length∧∀ j,j<i→(fun x => !(zGO n.h x)) (l.getD j default)=false) (fun i=>[(8,I (i:Nat))]) (fun i=>l.length-i) (0:Nat) (by simp) fun i ⟨hi,ha⟩=>?_
 refine zAb (zAa (zAd 1 (zAc (zAb (zBU ((↑i:Int)<(↑l.length:Int)) (fun k0=>(zAi (zAb (zAh 1 (zAb (zAa (zAd 2 (zAc (zAb (zAa (zAd 3 (S_a [(2,.v (PV.agg [I (l.getD i default).fst,I (l.getD i default).snd]))] (ap (zBA (default) (by omega):(List.map prV l)[i]? = some (PV.agg [I (l.getD i default).fst,I (l.getD i default).snd])) an) (zAd 1 (S_a [(7,.ret (PV.bool !zGO n.h (l.getD i default)) ([]))] (ap (f221_1 (n) (by omega) (l.getD i default)) an) (zAc (zD4 (!zGO n.h (l.getD i default)) (fun k1=>(zAb (zAa (zAd 2 (zAc (zAl (E_a [] an (I (↑i:Int)) ([]) ?_ rfl))))))) (fun k1=>(zAi (zAa (S_a [(1,.v (I (↑(i+1):Int)))] (ap (wrN i) an) (zAd 1 (zAc ?_)))))))))))))))))))))) (fun k0=>(zAv 0 (zAb (zAa (zAd 1 (zAc (zAl (E_a [] an (I (-1)) ([]) ?_ rfl)))))))))))))
 ·rw [zBY (i:=i) (by omega) (fun j hj=>by rw [← zAr (d:=default)];exact ha j hj) (by rw [← zAr (d:=default)];first | assumption | exact decide_eq_true ‹_› | (simp only [Bool.not_eq_true',decide_eq_false_iff_not];assumption))]
 ·refine ⟨i+1,⟨by omega,fun j hj=>?_⟩,by omega,by kernel_rfl,by kernel_rfl⟩
  rcases Nat.lt_succ_iff_lt_or_eq.1 hj with h | rfl
  ·exact ha j h
  ·first | assumption | exact decide_eq_false ‹_› | (simp only [Bool.not_eq_false',decide_eq_true_eq];first | assumption | (apply Decidable.of_not_not;assumption))
 ·rw [zCl fun j hj=>by rw [← zAr (d:=default)];exact ha j (by omega)]
theorem f156_1 (n:Nw) (hb:1≤n.h∧n.h≤10) (l:List (Int×Int)) (hl:l.length<4294967296):FG 156 [.sl (l.map prV),.func 221 [] [.ref (.func 196 [] [.ref (nwV n)])]] (.bool (l.any (fun x => !(zGO n.h x)))):=by
 refine zAf Tryz.f156 ?_
 refine zAb (zAa (zAd 1 (zAc (zAb (zAa (zAd 2 (S_a [(7,.ret (I (zES (fun x => !zGO n.h x) l)) ([]))] (ap (f202_1 (n) (by omega) (l) (by omega)) an) (zAd 2 (zAc (zAl (E_a [] an (PV.bool (decide (zES (fun x => !zGO n.h x) l≥0))) ([]) ?_ rfl)))))))))))
 rw [zEe]
theorem f195_1 (n:Nw) (hb:1≤n.h∧n.h≤10) (l:List (Int×Int)) (hl:l.length<4294967296):FG 195 [.sl (l.map prV),.func 196 [] [.ref (nwV n)]] (.bool (l.all (fun x=>zGO n.h x))):=by
 refine zAf Tryz.f195 ?_
 refine zAb (zAa (zAd 2 (zAc (zAb (zAa (zAd 2 (S_a [(12,.ret (PV.bool (l.any fun x => !zGO n.h x)) ([]))] (ap (f156_1 (n) (by omega) (l) (by omega)) an) (zAd 2 (zAc (zAl (E_a [] an (PV.bool !l.any fun x => !zGO n.h x) ([]) ?_ rfl)))))))))))
 simp [List.not_any_eq_all_not]
theorem f221_2  (x:Int×Int):FG 221 [prV x,.ref (.func 197 [] [])] (.bool (!(zHM x))):=by
 refine zAf Tryz.f221 ?_
 refine zAb (zAa (zAd 2 (zAc (zAb (zAa (zAd 2 (S_a [(6,.ret (PV.bool (zHM x)) ([]))] (ap (f197 (x)) an) (zAd 2 (zAc (zAl (E_a [] an (PV.bool !zHM x) ([]) rfl rfl)))))))))))
theorem f202_2  (l:List (Int×Int)) (hl:l.length<4294967296):FG 202 [.sl (l.map prV),.func 221 [] [.ref (.func 197 [] [])]] (I (zES (fun x => !(zHM x)) l)):=by
 refine zAf Tryz.f202 ?_
 refine zAb (zAa (zAd 1 (zAc (zAb (zAb (zAa (zAd 1 (S_a [(0,.n (l.length))] (ap (lnS prV l) an) (zAd 1 (zAc (zAh 0 ?_)))))))))))
 refine zAo (fun i=>i≤l.length∧∀ j,j<i→(fun x => !(zHM x)) (l.getD j default)=false) (fun i=>[(8,I (i:Nat))]) (fun i=>l.length-i) (0:Nat) (by simp) fun i ⟨hi,ha⟩=>?_
 refine zAb (zAa (zAd 1 (zAc (zAb (zBU ((↑i:Int)<(↑l.length:Int)) (fun k0=>(zAi (zAb (zAh 1 (zAb (zAa (zAd 2 (zAc (zAb (zAa (zAd 3 (S_a [(2,.v (PV.agg [I (l.getD i default).fst,I (l.getD i default).snd]))] (ap (zBA (default) (by omega):(List.map prV l)[i]? = some (PV.agg [I (l.getD i default).fst,I (l.getD i default).snd])) an) (zAd 1 (S_a [(7,.ret (PV.bool !zHM (l.getD i default)) ([]))] (ap (f221_2 (l.getD i default)) an) (zAc (zD4 (!zHM (l.getD i default)) (fun k1=>(zAb (zAa (zAd 2 (zAc (zAl (E_a [] an (I (↑i:Int)) ([]) ?_ rfl))))))) (fun k1=>(zAi (zAa (S_a [(1,.v (I (↑(i+1):Int)))] (ap (wrN i) an) (zAd 1 (zAc ?_)))))))))))))))))))))) (fun k0=>(zAv 0 (zAb (zAa (zAd 1 (zAc (zAl (E_a [] an (I (-1)) ([]) ?_ rfl)))))))))))))
 ·rw [zBY (i:=i) (by omega) (fun j hj=>by rw [← zAr (d:=default)];exact ha j hj) (by rw [← zAr (d:=default)];first | assumption | exact decide_eq_true ‹_› | (simp only [Bool.not_eq_true',decide_eq_false_iff_not];assumption))]
 ·refine ⟨i+1,⟨by omega,fun j hj=>?_⟩,by omega,by kernel_rfl,by kernel_rfl⟩
  rcases Nat.lt_succ_iff_lt_or_eq.1 hj with h | rfl
  ·exact ha j h
  ·first | assumption | exact decide_eq_false ‹_› | (simp only [Bool.not_eq_false',decide_eq_true_eq];first | assumption | (apply Decidable.of_not_not;assumption))
 ·rw [zCl fun j hj=>by rw [← zAr (d:=default)];exact ha j (by omega)]
theorem f156_2  (l:List (Int×Int)) (hl:l.length<4294967296):FG 156 [.sl (l.map prV),.func 221 [] [.ref (.func 197 [] [])]] (.bool (l.any (fun x => !(zHM x)))):=by
 refine zAf Tryz.f156 ?_
 refine zAb (zAa (zAd 1 (zAc (zAb (zAa (zAd 2 (S_a [(7,.ret (I (zES (fun x => !zHM x) l)) ([]))] (ap (f202_2 (l) (by omega)) an) (zAd 2 (zAc (zAl (E_a [] an (PV.bool (decide (zES (fun x => !zHM x) l≥0))) ([]) ?_ rfl)))))))))))
 rw [zEe]
theorem f195_2  (l:List (Int×Int)) (hl:l.length<4294967296):FG 195 [.sl (l.map prV),.func 197 [] []] (.bool (l.all (fun x=>zHM x))):=by
 refine zAf Tryz.f195 ?_
 refine zAb (zAa (zAd 2 (zAc (zAb (zAa (zAd 2 (S_a [(12,.ret (PV.bool (l.any fun x => !zHM x)) ([]))] (ap (f156_2 (l) (by omega)) an) (zAd 2 (zAc (zAl (E_a [] an (PV.bool !l.any fun x => !zHM x) ([]) ?_ rfl)))))))))))
 simp [List.not_any_eq_all_not]
theorem f222_1 (y:Int) (yb:Bool) (l:List (Int×Bool)) (hl:l.length<4294967296):FG 222 [.sl (l.map ntV),.func 199 [] [.ref (.agg [I y,.bool yb])]] (I (zES (fun x=>decide (x.1=y)) l)):=by
 refine zAf Tryz.f222 ?_
 refine zAb (zAa (zAd 1 (zAc (zAb (zAb (zAa (zAd 1 (S_a [(0,.n (l.length))] (ap (lnS ntV l) an) (zAd 1 (zAc (zAh 0 ?_)))))))))))
 refine zAo (fun i=>i≤l.length∧∀ j,j<i→(fun x=>decide (x.1=y)) (l.getD j default)=false) (fun i=>[(8,I (i:Nat))]) (fun i=>l.length-i) (0:Nat) (by simp) fun i ⟨hi,ha⟩=>?_
 refine zAb (zAa (zAd 1 (zAc (zAb (zBU ((↑i:Int)<(↑l.length:Int)) (fun k0=>(zAi (zAb (zAh 1 (zAb (zAa (zAd 2 (zAc (zAb (zAa (zAd 3 (S_a [(2,.v (PV.agg [I (l.getD i default).fst,PV.bool (l.getD i default).snd]))] (ap (zBA (default) (by omega):(List.map ntV l)[i]? = some (PV.agg [I (l.getD i default).fst,PV.bool (l.getD i default).snd])) an) (zAd 1 (S_a [(7,.ret (PV.bool (decide ((l.getD i default).fst=(y,yb).fst))) ([]))] (ap (f199 ((y,yb)) (l.getD i default)) an) (zAc (zBU ((l.getD i default).fst=(y,yb).fst) (fun k1=>(zAb (zAa (zAd 2 (zAc (zAl (E_a [] an (I (↑i:Int)) ([]) ?_ rfl))))))) (fun k1=>(zAi (zAa (S_a [(1,.v (I (↑(i+1):Int)))] (ap (wrN i) an) (zAd 1 (zAc ?_)))))))))))))))))))))) (fun k0=>(zAv 0 (zAb (zAa (zAd 1 (zAc (zAl (E_a [] an (I (-1)) ([]) ?_ rfl)))))))))))))
 ·rw [zBY (i:=i) (by omega) (fun j hj=>by rw [← zAr (d:=default)];exact ha j hj) (by rw [← zAr (d:=default)];first | assumption | exact decide_eq_true ‹_› | (simp only [Bool.not_eq_true',decide_eq_false_iff_not];assumption))]
 ·refine ⟨i+1,⟨by omega,fun j hj=>?_⟩,by omega,by kernel_rfl,by kernel_rfl⟩
  rcases Nat.lt_succ_iff_lt_or_eq.1 hj with h | rfl
  ·exact ha j h
  ·first | assumption | exact decide_eq_false ‹_› | (simp only [Bool.not_eq_false',decide_eq_true_eq];first | assumption | (apply Decidable.of_not_not;assumption))
 ·rw [zCl fun j hj=>by rw [← zAr (d:=default)];exact ha j (by omega)]
theorem f198_1 (y:Int) (yb:Bool) (l:List (Int×Bool)) (hl:l.length<4294967296):FG 198 [.sl (l.map ntV),.func 199 [] [.ref (.agg [I y,.bool yb])]] (.bool (l.any (fun x=>decide (x.1=y)))):=by
 refine zAf Tryz.f198 ?_
 refine zAb (zAa (zAd 1 (zAc (zAb (zAa (zAd 2 (S_a [(7,.ret (I (zES (fun x=>decide (x.fst=y)) l)) ([]))] (ap (f222_1 (y) (yb) (l) (by omega)) an) (zAd 2 (zAc (zAl (E_a [] an (PV.bool (decide (zES (fun x=>decide (x.fst=y)) l≥0))) ([]) ?_ rfl)))))))))))
 rw [zEe]
theorem f150 (n:Nw) (hb:1≤n.h∧n.h≤10) (hl:n.l.length≤15):FG 150 [nwV n] (I (zBt n.h n.l)):=by
 refine zAf Tryz.f150 ?_
 refine zAb (zAa (zAd 2 (zAc (zAb (zAh 0 (zAb (zAa (zAd 3 (S_a [(13,.ret (PV.bool (n.l.all fun x=>zGO n.h x)) ([]))] (ap (f195_1 (n) (by omega) (n.l) (by omega)) an) (zAd 2 (zAc (zD4 (!n.l.all fun x=>zGO n.h x) (fun k0=>(zAb (zAa (zAd 1 (zAc (zAl (E_a [] an (I 1) ([]) ?_ rfl))))))) (fun k0=>(zAb (zAa (zAd 2 (S_a [(7,.ret (PV.bool (n.l.all fun x=>zHM x)) ([]))] (ap (f195_2 (n.l) (by omega)) an) (zAd 2 (zAc (zD4 (!n.l.all fun x=>zHM x) (fun k1=>(zAb (zAa (zAd 1 (zAc (zAl (E_a [] an (I 8) ([]) ?_ rfl))))))) (fun k1=>(zAi (zAb (zAa (zAd 2 (zAc (zAb (zAb (zAa (zAd 2 (S_a [(0,.n (n.l.length))] (ap (lnS prV n.l) an) (zAd 1 (zAc (zAh 1 ?_))))))))))))))))))))))))))))))))))
 ·rw [Bool.not_eq_true'] at k0
  simp [zBt,k0]
 ·rw [Bool.not_eq_false'] at k0
  rw [Bool.not_eq_true'] at k1
  simp [zBt,k0,k1]
 ·refine zAo (fun (i,M)=>i≤n.l.length∧M=(n.l.take i).map pr2∧M.Nodup) (fun (i,M)=>[(3,.omap (M.map zBy)),(21,I (i:Nat))]) (fun (i,_)=>n.l.length-i) ((0:Nat),([]:List (Int×Int))) ⟨Nat.zero_le _,rfl,List.nodup_nil⟩ fun (i,M) ⟨hi,hM,hN⟩=>?_
  by_cases yC:i<n.l.length
  ·have yg:(n.l.take (i+1)).map pr2=M++[pr2 (n.l.getD i default)]:=by rw [zBO (d:=default) yC,List.map_append,← hM];rfl
   by_cases hin:pr2 (n.l.getD i default)∈M
   ·obtain ⟨j,hj,jK⟩:=zRA hin
    have jl:zJA (M.map zBy) j=some (.bool true):=by simp [zJA,hj]
    refine zAb (zAa (zAd 1 (zAc (zAb (zAL ((↑i:Int)<(↑n.l.length:Int)) (by omega) (zAi (zAb (zAh 2 (zAb (zAa (S_a [(2,.v (PV.agg [I (n.l.getD i default).fst,I (n.l.getD i default).snd]))] (ap (zBA (default) (by omega):(List.map prV n.l)[i]? = some (PV.agg [I (n.l.getD i default).fst,I (n.l.getD i default).snd])) an) (zAd 3 (zAc (zAb (zAb (zAa (zAd 2 (S_a [(6,.ret (prV (pr2 (n.l.getD i default))) ([]))] (ap (f110 (n.l.getD i default)) an) (S_a [(3,.ix (some j)),(0,.v (PV.bool true))] (ap (jK) (ap (jl:zJA (List.map zBy M) j=some (PV.bool true)) an)) (zAc (zBT (zAb (zAa (zAd 1 (zAc (zAl (E_a [] an (I 5) ([]) ?_ rfl)))))))))))))))))))))))))))
    rw [Bool.not_eq_false'] at k0 k1
    have yX:¬ (n.l.map pr2).Nodup:=fun h=>by
     rw [← List.take_append_drop (i+1) n.l,List.map_append,yg] at h
     have h2:=(List.nodup_append.1 h).1
     have h3:=(List.nodup_append.1 h2).2.2
     exact h3 _ hin _ (List.mem_singleton.2 rfl) rfl
    simp only [zBt,k0,k1,yX,if_true,if_false]
   ·have jK:=zLF hin
    refine zAb (zAa (zAd 1 (zAc (zAb (zAL ((↑i:Int)<(↑n.l.length:Int)) (by omega) (zAi (zAb (zAh 2 (zAb (zAa (S_a [(2,.v (PV.agg [I (n.l.getD i default).fst,I (n.l.getD i default).snd]))] (ap (zBA (default) (by omega):(List.map prV n.l)[i]? = some (PV.agg [I (n.l.getD i default).fst,I (n.l.getD i default).snd])) an) (zAd 3 (zAc (zAb (zAb (zAa (zAd 2 (S_a [(6,.ret (prV (pr2 (n.l.getD i default))) ([]))] (ap (f110 (n.l.getD i default)) an) (S_a [(3,.ix (none))] (ap (jK) an) (zAc (zAU (zAi (zAa (zAd 2 (S_a [(6,.ret (prV (pr2 (n.l.getD i default))) ([]))] (ap (f110 (n.l.getD i default)) an) (S_a [(4,.ix (none)),(0,.v (PV.omap (List.map zBy (M++[pr2 (n.l.getD i default)]))))] (ap (jK) (ap ((by simp):PV.omap (List.map zBy M++[(PV.agg [I (pr2 (n.l.getD i default)).fst,I (pr2 (n.l.getD i default)).snd],PV.bool true)])=PV.omap (List.map zBy (M++[pr2 (n.l.getD i default)]))) an)) (zAc (zAa (S_a [(1,.v (I (↑(i+1):Int)))] (ap (wrN i) an) (zAd 1 (zAc ?_)))))))))))))))))))))))))))))))
    refine ⟨(i+1,M++[pr2 (n.l.getD i default)]),⟨by omega,yg.symm,?_⟩,by simp only;omega,by kernel_rfl,by kernel_rfl⟩
    rw [List.nodup_append]
    refine ⟨hN,by simp,fun a ha b hb=>?_⟩
    rw [List.mem_singleton] at hb;subst hb
    intro e;subst e;exact hin ha
  ·refine zAb (zAa (zAd 1 (zAc (zAb (zAO ((↑i:Int)<(↑n.l.length:Int)) (by omega) (zAv 1 (zAb (zAa (zAd 1 (zAc (zAl (E_a [] an (I 0) ([]) ?_ rfl))))))))))))
   rw [Bool.not_eq_false'] at k0 k1
   rw [List.take_of_length_le (by omega)] at hM
   rw [hM] at hN
   simp only [zBt,k0,k1,hN,if_true]
theorem f151 (n:Nw) (hl:n.n.length≤8):FG 151 [nwV n] (I (zCB n.n)):=by
 refine zAf Tryz.f151 ?_
 refine zAb (zAa (zAd 2 (zAc (zAb (zAb (zAa (zAd 2 (S_a [(0,.n (n.n.length))] (ap (lnS ntV n.n) an) (zAd 1 (zAc (zAh 0 ?_)))))))))))
 refine zAo (fun i=>i≤n.n.length∧∀ j,j<i→inB (n.n.getD j default).1 (-1) ((j:Int)-1)=true) (fun i=>[(10,I (i:Nat))]) (fun i=>n.n.length-i) (0:Nat) ⟨Nat.zero_le _,fun j h=>absurd h (Nat.not_lt_zero _)⟩ fun i ⟨hi,ha⟩=>?_
 refine zAb (zAa (zAd 1 (zAc (zAb (zBU ((↑i:Int)<(↑n.n.length:Int)) (fun k0=>(zAi (zAb (zAh 1 (zAb (zAa (zAd 1 (S_a [(2,.v (PV.agg [I (n.n.getD i default).fst,PV.bool (n.n.getD i default).snd]))] (ap (zBA (default) (by omega):(List.map ntV n.n)[i]? = some (PV.agg [I (n.n.getD i default).fst,PV.bool (n.n.getD i default).snd])) an) (zAd 4 (zAc (zAb (zAa (zAd 3 (S_a [(1,.v (I ((↑i:Int)-1)))] (ap ((zDm rfl (by omega)):I (IntKind.i64.wrap ((↑i:Int)-1))=I ((↑i:Int)-1)) an) (S_a [(10,.ret (PV.bool (inB (n.n.getD i default).fst (-1) ((↑i:Int)-1))) ([]))] (ap (f107 ((n.n.getD i default).fst) (-1) ((↑i:Int)-1)) an) (zAd 1 (zAc (zD4 (!inB (n.n.getD i default).fst (-1) ((↑i:Int)-1)) (fun k1=>(zAb (zAa (zAd 1 (zAc (zAl (E_a [] an (I 1) ([]) ?_ rfl))))))) (fun k1=>(zAi (zAa (S_a [(1,.v (I (↑(i+1):Int)))] (ap (wrN i) an) (zAd 1 (zAc ?_)))))))))))))))))))))))) (fun k0=>(zAv 0 (zAb (zAb (zAa (zAd 2 (S_a [(0,.n (n.n.length))] (ap (lnS ntV n.n) an) (zAd 1 (zAc (zAh 2 ?_)))))))))))))))
 ·rw [Bool.not_eq_true'] at k1
  have:zNI n.n=false:=by
   simp only [zNI,List.all_eq_false]
   exact ⟨i,List.mem_range.2 (by omega),by simpa using k1⟩
  simp [zCB,this]
 ·rw [Bool.not_eq_false'] at k1
  refine ⟨i+1,⟨by omega,fun j hj=>?_⟩,by omega,by kernel_rfl,by kernel_rfl⟩
  rcases Nat.lt_succ_iff_lt_or_eq.1 hj with h | rfl
  ·exact ha j h
  ·exact k1
 ·have hin:zNI n.n=true:=by
   simp only [zNI,List.all_eq_true,List.mem_range]
   exact fun j hj=>ha j (by omega)
  clear ha
  refine zAo (fun i=>i≤n.n.length∧∀ j,j<i→zLU n.n j=false) (fun i=>[(25,I (i:Nat))]) (fun i=>n.n.length-i) (0:Nat) ⟨Nat.zero_le _,fun j h=>absurd h (Nat.not_lt_zero _)⟩ fun k ⟨hk,hb⟩=>?_
  have yg:zLU n.n k=false→∀ j,j<k+1→zLU n.n j=false:=fun h j hj=>by
   rcases Nat.lt_succ_iff_lt_or_eq.1 hj with h2 | rfl
   ·exact hb j h2
   ·exact h
  refine zAb (zAa (zAd 1 (zAc (zAb (zBU ((↑k:Int)<(↑n.n.length:Int)) (fun k2=>(zAi (zAb (zAh 3 (zAb (zAa (zAd 1 (S_a [(2,.v (PV.agg [I (n.n.getD k default).fst,PV.bool (n.n.getD k default).snd]))] (ap (zBA (default) (by omega):(List.map ntV n.n)[k]? = some (PV.agg [I (n.n.getD k default).fst,PV.bool (n.n.getD k default).snd])) an) (zAd 4 (zAc (zAb (zAa (zAd 4 (zUS 33 ((n.n.getD k default).fst = -1) (fun k3=>(zAd 3 (S_a [(3,.ob),(0,.ob),(0,.v (PV.sl (List.map ntV (List.take k n.n))))] (ap ((by exact zBs (by simp only [List.length_map,zzLn,zA1]<;>omega)):k.ble (List.map ntV n.n).length=true) (ap ((by exact all_map _):((List.map ntV n.n).all fun x=>x.cells.length.beq ((fun x=>x.size) Tryz.prog.types[99]))=true) (ap ((by simp):PV.sl (List.take k (List.drop 0 (List.map ntV n.n)))=PV.sl (List.map ntV (List.take k n.n))) an))) (zAd 1 (S_a [(13,.ret (PV.bool ((List.take k n.n).any fun x=>decide (x.fst=(n.n.getD k default).fst))) ([]))] (ap (f198_1 ((n.n.getD k default).fst) ((n.n.getD k default).snd) (List.take k n.n) (by first | omega | (simp<;>omega))) an) (zAd 1 (zAc (zD4 ((List.take k n.n).any fun x=>decide (x.fst=(n.n.getD k default).fst)) (fun k4=>(zAb (zAa (zAd 1 (zAc (zAl (E_a [] an (I 5) ([]) ?_ rfl))))))) (fun k4=>(zAi (zAa (S_a [(1,.v (I (↑(k+1):Int)))] (ap (wrN k) an) (zAd 1 (zAc ?_)))))))))))))) (fun k3=>(zAd 7 (zAc (zAU (zAi (zAa (S_a [(1,.v (I (↑(k+1):Int)))] (ap (wrN k) an) (zAd 1 (zAc ?_))))))))))))))))))))))) (fun k2=>(zAv 2 (zAb (zAa (zAd 1 (zAc (zAl (E_a [] an (I 0) ([]) ?_ rfl)))))))))))))
  ·have h1:zLU n.n k=true:=by
    have k4:((n.n.take k).any fun y=>decide (y.1=(n.n.getD k default).1))=true:=k4
    simp only [zLU,k4,Bool.and_true,decide_eq_true_eq];assumption
   have:(List.range n.n.length).any (zLU n.n)=true:=List.any_eq_true.2 ⟨k,List.mem_range.2 (by omega),h1⟩
   simp only [zCB,hin,this,if_true]
  ·have h1:zLU n.n k=false:=by
    have k4:((n.n.take k).any fun y=>decide (y.1=(n.n.getD k default).1))=false:=k4
    simp only [zLU,k4,Bool.and_false]
   exact ⟨k+1,⟨by omega,yg h1⟩,by omega,by kernel_rfl,by kernel_rfl⟩
  ·have h1:zLU n.n k=false:=by
    simp only [zLU,Bool.and_eq_false_iff,decide_eq_false_iff_not]
    exact .inl (by simpa using k3)
   exact ⟨k+1,⟨by omega,yg h1⟩,by omega,by kernel_rfl,by kernel_rfl⟩
  ·have:(List.range n.n.length).any (zLU n.n)=false:=by
    simp only [List.any_eq_false,List.mem_range,Bool.not_eq_true]
    exact fun j hj=>hb j (by omega)
   simp only [zCB,hin,this,if_true];rfl
theorem f153 (n:Nw) (l:List Int) (hb:1≤n.h∧n.h≤10) (hl:l.length<1000000):FG 153 [zAY l,.ref (nwV n)] (.bool (zIl n.h l)):=by
 refine zAf Tryz.f153 ?_
 refine zAb (zAa (zAd 1 (zAc (zAb (zAa (zAd 3 (S_a [(7,.ret (PV.bool (l.all fun x=>inB x 0 (n.h-1))) ([]))] (ap (f108_1 (n) (by omega) (l) (by omega)) an) (zAd 1 (zAc (zAl (E_a [] an (PV.bool (l.all fun x=>inB x 0 (n.h-1))) ([]) rfl rfl)))))))))))
theorem f154 (l:List Int) (hl:l.length<1000000):FG 154 [zAY l] (.bool (zDg l)):=by
 refine zAf Tryz.f154 ?_
 refine zAb (zAa (zAd 1 (zAc (zAb (zAa (zAd 1 (S_a [(6,.ret (PV.bool (zFQ l)) ([]))] (ap (f155 (l) (by omega)) an) (zAd 1 (zDV 5 (zFQ l) (fun k0=>(zAd 1 (S_a [(6,.ret (PV.own 1 (List.map I l)) ([]))] (ap (f65 (l) (by omega)) an) (S_a [(3,.ob),(1,.v (PV.own 1 (List.map I l))),(2,.ret (PV.own 1 (List.map I (zFk l))) ([]))] (ap ((by exact zBs (by simp only [List.length_map,zzLn,zA1]<;>omega)):(List.map I l).length.ble (List.map I l).length=true) (ap ((zAR zAK):PV.own 1 (List.take (List.map I l).length (List.drop 0 (List.map I l)))=PV.own 1 (List.map I l)) (ap (f97 (l) (by omega)) an))) (S_a [(0,.n ((zFk l).length))] (ap (lnS I (zFk l)) an) (zAd 1 (S_a [(0,.n (l.length))] (ap (lnS I l) an) (zAd 3 (zAc (zAl (E_a [] an (PV.bool ((↑(zFk l).length:Int)==(↑l.length:Int))) ([]) ?_ rfl))))))))))) (fun k0=>(zAd 9 (zAc (zAl (E_a [] an (PV.bool false) ([]) ?_ rfl))))))))))))))
 ·simp only [zDg,k0,Bool.true_and];congr 1;rw [Bool.eq_iff_iff];simp;omega
 ·simp only [zDg,k0,Bool.false_and]
theorem f201_1 (n:Nw) (hb:1≤n.h∧n.h≤10) (x:List Int) (hx:x.length<1000000):FG 201 [zAY x,.ref (.func 153 [] [.ref (nwV n)])] (.bool (!(zIl n.h x))):=by
 refine zAf Tryz.f201 ?_
 refine zAb (zAa (zAd 1 (zAc (zAb (zAa (zAd 2 (S_a [(7,.ret (PV.bool (zIl n.h x)) ([]))] (ap (f153 (n) (x) (by omega) (by omega)) an) (zAd 2 (zAc (zAl (E_a [] an (PV.bool !zIl n.h x) ([]) rfl rfl)))))))))))
theorem f223_1 (n:Nw) (hb:1≤n.h∧n.h≤10) (l:List (List Int)) (hl:l.length<4294967296) (hr:∀ x∈l,x.length<1000000):FG 223 [.sl (l.map zAY),.func 201 [] [.ref (.func 153 [] [.ref (nwV n)])]] (I (zES (fun x => !(zIl n.h x)) l)):=by
 refine zAf Tryz.f223 ?_
 refine zAb (zAa (zAd 1 (zAc (zAb (zAb (zAa (zAd 1 (S_a [(0,.n (l.length))] (ap (lnS zAY l) an) (zAd 1 (zAc (zAh 0 ?_)))))))))))
 refine zAo (fun i=>i≤l.length∧∀ j,j<i→(fun x => !(zIl n.h x)) (l.getD j [])=false) (fun i=>[(8,I (i:Nat))]) (fun i=>l.length-i) (0:Nat) (by simp) fun i ⟨hi,ha⟩=>?_
 by_cases yC:i<l.length
 ·have ql:=zBC (d:=[]) hr i yC
  refine zAb (zAa (zAd 1 (zAc (zAb (zAL ((↑i:Int)<(↑l.length:Int)) (by omega) (zAi (zAb (zAh 1 (zAb (zAa (zAd 2 (zAc (zAb (zAa (zAd 3 (S_a [(2,.v (PV.sl (List.map I (l.getD i []))))] (ap (zBA ([]) (by omega):(List.map zAY l)[i]? = some (PV.sl (List.map I (l.getD i [])))) an) (zAd 1 (S_a [(7,.ret (PV.bool !zIl n.h (l.getD i [])) ([]))] (ap (f201_1 (n) (by omega) (l.getD i []) (by omega)) an) (zAc (zD4 (!zIl n.h (l.getD i [])) (fun k0=>(zAb (zAa (zAd 2 (zAc (zAl (E_a [] an (I (↑i:Int)) ([]) ?_ rfl))))))) (fun k0=>(zAi (zAa (S_a [(1,.v (I (↑(i+1):Int)))] (ap (wrN i) an) (zAd 1 (zAc ?_))))))))))))))))))))))))))
  ·rw [zBY (i:=i) yC (fun j hj=>by rw [← zAr (d:=[])];exact ha j hj) (by rw [← zAr (d:=[])];first | assumption | exact decide_eq_true ‹_›)]
  ·refine ⟨i+1,⟨by omega,fun j hj=>?_⟩,by omega,by kernel_rfl,by kernel_rfl⟩
   rcases Nat.lt_succ_iff_lt_or_eq.1 hj with h | rfl
   ·exact ha j h
   ·first | assumption | exact decide_eq_false ‹_› | (simp only [Bool.not_eq_false',decide_eq_true_eq];assumption)
 ·refine zAb (zAa (zAd 1 (zAc (zAb (zAO ((↑i:Int)<(↑l.length:Int)) (by omega) (zAv 0 (zAb (zAa (zAd 1 (zAc (zAl (E_a [] an (I (-1)) ([]) ?_ rfl))))))))))))
  rw [zCl fun j hj=>by rw [← zAr (d:=[])];exact ha j (by omega)]
theorem f200_1 (n:Nw) (hb:1≤n.h∧n.h≤10) (l:List (List Int)) (hl:l.length<4294967296) (hr:∀ x∈l,x.length<1000000):FG 200 [.sl (l.map zAY),.func 201 [] [.ref (.func 153 [] [.ref (nwV n)])]] (.bool (l.any (fun x => !(zIl n.h x)))):=by
 refine zAf Tryz.f200 ?_
 refine zAb (zAa (zAd 1 (zAc (zAb (zAa (zAd 2 (S_a [(7,.ret (I (zES (fun x => !zIl n.h x) l)) ([]))] (ap (f223_1 (n) (by omega) (l) (by omega) (by omega)) an) (zAd 2 (zAc (zAl (E_a [] an (PV.bool (decide (zES (fun x => !zIl n.h x) l≥0))) ([]) ?_ rfl)))))))))))
 rw [zEe]
theorem f152_1 (n:Nw) (hb:1≤n.h∧n.h≤10) (l:List (List Int)) (hl:l.length<4294967296) (hr:∀ x∈l,x.length<1000000):FG 152 [.sl (l.map zAY),.func 153 [] [.ref (nwV n)]] (.bool (l.all (fun x=>zIl n.h x))):=by
 refine zAf Tryz.f152 ?_
 refine zAb (zAa (zAd 2 (zAc (zAb (zAa (zAd 2 (S_a [(12,.ret (PV.bool (l.any fun x => !zIl n.h x)) ([]))] (ap (f200_1 (n) (by omega) (l) (by omega) (by omega)) an) (zAd 2 (zAc (zAl (E_a [] an (PV.bool !l.any fun x => !zIl n.h x) ([]) ?_ rfl)))))))))))
 simp [List.not_any_eq_all_not]
theorem f201_2  (x:List Int) (hx:x.length<1000000):FG 201 [zAY x,.ref (.func 154 [] [])] (.bool (!(zDg x))):=by
 refine zAf Tryz.f201 ?_
 refine zAb (zAa (zAd 1 (zAc (zAb (zAa (zAd 2 (S_a [(6,.ret (PV.bool (zDg x)) ([]))] (ap (f154 (x) (by omega)) an) (zAd 2 (zAc (zAl (E_a [] an (PV.bool !zDg x) ([]) rfl rfl)))))))))))
theorem f223_2  (l:List (List Int)) (hl:l.length<4294967296) (hr:∀ x∈l,x.length<1000000):FG 223 [.sl (l.map zAY),.func 201 [] [.ref (.func 154 [] [])]] (I (zES (fun x => !(zDg x)) l)):=by
 refine zAf Tryz.f223 ?_
 refine zAb (zAa (zAd 1 (zAc (zAb (zAb (zAa (zAd 1 (S_a [(0,.n (l.length))] (ap (lnS zAY l) an) (zAd 1 (zAc (zAh 0 ?_)))))))))))
 refine zAo (fun i=>i≤l.length∧∀ j,j<i→(fun x => !(zDg x)) (l.getD j [])=false) (fun i=>[(8,I (i:Nat))]) (fun i=>l.length-i) (0:Nat) (by simp) fun i ⟨hi,ha⟩=>?_
 by_cases yC:i<l.length
 ·have ql:=zBC (d:=[]) hr i yC
  refine zAb (zAa (zAd 1 (zAc (zAb (zAL ((↑i:Int)<(↑l.length:Int)) (by omega) (zAi (zAb (zAh 1 (zAb (zAa (zAd 2 (zAc (zAb (zAa (zAd 3 (S_a [(2,.v (PV.sl (List.map I (l.getD i []))))] (ap (zBA ([]) (by omega):(List.map zAY l)[i]? = some (PV.sl (List.map I (l.getD i [])))) an) (zAd 1 (S_a [(7,.ret (PV.bool !zDg (l.getD i [])) ([]))] (ap (f201_2 (l.getD i []) (by omega)) an) (zAc (zD4 (!zDg (l.getD i [])) (fun k0=>(zAb (zAa (zAd 2 (zAc (zAl (E_a [] an (I (↑i:Int)) ([]) ?_ rfl))))))) (fun k0=>(zAi (zAa (S_a [(1,.v (I (↑(i+1):Int)))] (ap (wrN i) an) (zAd 1 (zAc ?_))))))))))))))))))))))))))
  ·rw [zBY (i:=i) yC (fun j hj=>by rw [← zAr (d:=[])];exact ha j hj) (by rw [← zAr (d:=[])];first | assumption | exact decide_eq_true ‹_›)]
  ·refine ⟨i+1,⟨by omega,fun j hj=>?_⟩,by omega,by kernel_rfl,by kernel_rfl⟩
   rcases Nat.lt_succ_iff_lt_or_eq.1 hj with h | rfl
   ·exact ha j h
   ·first | assumption | exact decide_eq_false ‹_› | (simp only [Bool.not_eq_false',decide_eq_true_eq];assumption)
 ·refine zAb (zAa (zAd 1 (zAc (zAb (zAO ((↑i:Int)<(↑l.length:Int)) (by omega) (zAv 0 (zAb (zAa (zAd 1 (zAc (zAl (E_a [] an (I (-1)) ([]) ?_ rfl))))))))))))
  rw [zCl fun j hj=>by rw [← zAr (d:=[])];exact ha j (by omega)]
theorem f200_2  (l:List (List Int)) (hl:l.length<4294967296) (hr:∀ x∈l,x.length<1000000):FG 200 [.sl (l.map zAY),.func 201 [] [.ref (.func 154 [] [])]] (.bool (l.any (fun x => !(zDg x)))):=by
 refine zAf Tryz.f200 ?_
 refine zAb (zAa (zAd 1 (zAc (zAb (zAa (zAd 2 (S_a [(7,.ret (I (zES (fun x => !zDg x) l)) ([]))] (ap (f223_2 (l) (by omega) (by omega)) an) (zAd 2 (zAc (zAl (E_a [] an (PV.bool (decide (zES (fun x => !zDg x) l≥0))) ([]) ?_ rfl)))))))))))
 rw [zEe]
theorem f152_2  (l:List (List Int)) (hl:l.length<4294967296) (hr:∀ x∈l,x.length<1000000):FG 152 [.sl (l.map zAY),.func 154 [] []] (.bool (l.all (fun x=>zDg x))):=by
 refine zAf Tryz.f152 ?_
 refine zAb (zAa (zAd 2 (zAc (zAb (zAa (zAd 2 (S_a [(12,.ret (PV.bool (l.any fun x => !zDg x)) ([]))] (ap (f200_2 (l) (by omega) (by omega)) an) (zAd 2 (zAc (zAl (E_a [] an (PV.bool !l.any fun x => !zDg x) ([]) ?_ rfl)))))))))))
 simp [List.not_any_eq_all_not]
theorem f76 (n:Nw) (hs:Small n):FG 76 [nwV n] (I (zCP n)):=by
 refine zAf Tryz.f76 ?_
 have h1:=hs.hl
 have h2:=hs.hn
 have h3:=hs.hs
 have h4:=hs.hr
 refine zAb (zAa (zAd 2 (zAc (zAb (zAb (zAa (zAd 2 (S_a [(10,.ret (PV.bool (inB n.h 1 10)) ([]))] (ap (f107 (n.h) (1) (10)) an) (zAd 2 (zDV 9 (!inB n.h 1 10) (fun k0=>(zAd 19 (zAc (zBT (zAb (zAa (zAd 1 (zAc (zAl (E_a [] an (I 2) ([]) ?_ rfl)))))))))) (fun k0=>(zAd 2 (S_a [(0,.n (n.l.length))] (ap (lnS prV n.l) an) (zAd 3 (zEw 15 ((↑n.l.length:Int)>15) (fun k1=>(zAd 13 (zAc (zBT (zAb (zAa (zAd 1 (zAc (zAl (E_a [] an (I 2) ([]) ?_ rfl)))))))))) (fun k1=>(zAd 2 (S_a [(0,.n (n.n.length))] (ap (lnS ntV n.n) an) (S_a [(10,.ret (PV.bool (inB (↑n.n.length:Int) 1 8)) ([]))] (ap (f107 ((↑n.n.length:Int)) (1) (8)) an) (zAd 3 (zDV 22 (!inB (↑n.n.length:Int) 1 8) (fun k2=>(zAd 6 (zAc (zBT (zAb (zAa (zAd 1 (zAc (zAl (E_a [] an (I 2) ([]) ?_ rfl)))))))))) (fun k2=>(zAd 2 (S_a [(0,.n (n.s.length))] (ap (lnS zAY n.s) an) (S_a [(10,.ret (PV.bool (inB (↑n.s.length:Int) 1 6)) ([]))] (ap (f107 ((↑n.s.length:Int)) (1) (6)) an) (zAd 2 (zAc (zD4 (!inB (↑n.s.length:Int) 1 6) (fun k3=>(zAb (zAa (zAd 1 (zAc (zAl (E_a [] an (I 2) ([]) ?_ rfl))))))) (fun k3=>(zAi (zAb (zAb (zAa (zAd 1 (S_a [(6,.ret (I (zBt n.h n.l)) ([]))] (ap (f150 (n) ?_ (by first | omega | (simp<;>omega))) an) (zAd 1 (zAc (zAb (zAa (zAd 2 (zAc (zC6 (zBt n.h n.l=0) (fun k4=>(zAb (zAa (zAd 2 (zAc (zAl (E_a [] an (I (zBt n.h n.l)) ([]) ?_ rfl))))))) (fun k4=>(zAi (zAb (zAb (zAa (zAd 1 (S_a [(6,.ret (I (zCB n.n)) ([]))] (ap (f151 (n) ?_) an) (zAd 1 (zAc (zAb (zAa (zAd 2 (zAc (zC6 (zCB n.n=0) (fun k5=>(zAb (zAa (zAd 2 (zAc (zAl (E_a [] an (I (zCB n.n)) ([]) ?_ rfl))))))) (fun k5=>(zAi (zAb (zAh 0 (zAb (zAa (zAd 3 (S_a [(13,.ret (PV.bool (n.s.all fun x=>zIl n.h x)) ([]))] (ap (f152_1 (n) ?_ (n.s) (by omega) (by omega)) an) (zAd 2 (zAc (zD4 (!n.s.all fun x=>zIl n.h x) (fun k6=>(zAb (zAa (zAd 1 (zAc (zAl (E_a [] an (I 1) ([]) ?_ rfl))))))) (fun k6=>(zAb (zAa (zAd 2 (S_a [(7,.ret (PV.bool (n.s.all fun x=>zDg x)) ([]))] (ap (f152_2 (n.s) (by omega) (by omega)) an) (zAd 2 (zAc (zD4 (!n.s.all fun x=>zDg x) (fun k7=>(zAb (zAa (zAd 1 (zAc (zAl (E_a [] an (I 4) ([]) ?_ rfl))))))) (fun k7=>(zAi (zAb (zAa (zAd 1 (zAc (zAl (E_a [] an (I 0) ([]) ?_ rfl)))))))))))))))))))))))))))))))))))))))))))))))))))))))))))))))))))))))))))))))))))
 all_goals first | exact zXG k0 | (have:=zXG k2;omega) | (simp [zCP, *];done)
end
end Go.Eng
set_option maxRecDepth 10000
set_option maxHeartbeats 4000000
namespace Go.Eng
open Go Go.Proofs
theorem zRK {l:List Int}:∀ k,k≤l.length→(zFk (l.take k)).length≤k∧((∃ j,1≤j∧j<k∧l.getD j 0=l.getD (j-1) 0)→(zFk (l.take k)).length<k)
 | 0,_=>⟨by simp [zFk],fun ⟨j,h1,h2,_⟩=>by omega⟩
 | k + 1,hk=>by
  obtain ⟨h1,h2⟩:=zRK (l:=l) k (by omega)
  cases k with
  | zero =>
   rw [zG6 (show 0<l.length by omega)]
   exact ⟨by simp [zFk,zLT],fun ⟨j,h1,h2,_⟩=>by omega⟩
  | succ k =>
   rw [zG2 (by omega) (by omega)]
   split
   ·exact ⟨by omega,fun _=>by omega⟩
   ·rename_i hI
    refine ⟨by rw [List.length_append];simp;omega,fun ⟨j,g1,g2,g3⟩=>?_⟩
    have hj:j<k+1:=by
     by_cases h:j=k+1
     ·subst h;exact absurd g3 hI
     ·omega
    have:=h2 ⟨j,g1,hj,g3⟩
    rw [List.length_append];simp;omega
theorem zQx {l:List Int} (h:zFQ l=true) (j:Nat) (hj:j+1<l.length):l.getD j 0≤l.getD (j+1) 0:=by
 simp only [zFQ,List.all_eq_true,List.mem_range,decide_eq_true_eq] at h
 exact h j (by omega)
theorem zHz {l:List Int}:zDg l=zTu l:=by
 rw [Bool.eq_iff_iff]
 constructor
 ·intro h
  simp only [zDg,Bool.and_eq_true,decide_eq_true_eq] at h
  simp only [zTu,List.all_eq_true,List.mem_range,decide_eq_true_eq]
  intro j hj
  have h1:=zQx h.1 j (by omega)
  have h2:=(zRK (l:=l) l.length (Nat.le_refl _)).2
  rw [List.take_length] at h2
  by_cases he:l.getD (j+1) 0=l.getD j 0
  ·have:=h2 ⟨j+1,by omega,by omega,by simpa using he⟩
   omega
  ·omega
 ·intro h
  simp only [zTu,List.all_eq_true,List.mem_range,decide_eq_true_eq] at h
  simp only [zDg,zFQ,Bool.and_eq_true,decide_eq_true_eq,List.all_eq_true,List.mem_range]
  refine ⟨fun j hj=>by have:=h j hj;omega,?_⟩
  have:=zG5 (l:=l) l.length (Nat.le_refl _) fun j h1 h2=>by
   have:=h (j-1) (by omega)
   rw [show j-1+1=j by omega] at this
   omega
  rw [List.take_length] at this
  rw [this]
structure NwOk (n:Nw):Prop where
 err:zCP n=0
 h:1≤n.h∧n.h≤10
 ll:n.l.length≤15
 nl:1≤n.n.length∧n.n.length≤8
 sl:1≤n.s.length∧n.s.length≤6
 lr:∀ x∈n.l,(0≤x.1∧x.1<n.h)∧(0≤x.2∧x.2<n.h)
 lne:∀ x∈n.l,x.1≠x.2
 ld:(n.l.map pr2).Nodup
 na:∀ i,i<n.n.length→-1≤(n.n.getD i default).1∧(n.n.getD i default).1<i
 nd:∀ i k,k<i→i<n.n.length→(n.n.getD i default).1≠-1→(n.n.getD k default).1≠(n.n.getD i default).1
 sr:∀ l∈n.s,∀ x∈l,0≤x∧x<n.h
 ss:∀ l∈n.s,zTu l=true
theorem zR5 {l:List Int} (h:zTu l=true):∀ i j,i<j→j<l.length→l.getD i 0<l.getD j 0:=by
 simp only [zTu,List.all_eq_true,List.mem_range,decide_eq_true_eq] at h
 intro i j qm hj
 induction j with
 | zero=>omega
 | succ j ih =>
  have h1:=h j (by omega)
  by_cases he:i=j
  ·subst he;exact h1
  ·have:=ih (by omega) (by omega);omega
theorem zS7 {l:List Int} (h:zTu l=true) {B:Int} (hb:∀ x∈l,0≤x∧x<B):(l.length:Int)≤B∨l.length=0:=by
 by_cases h0:l.length=0
 ·exact .inr h0
 ·left
  have key:∀ j,j<l.length→(j:Int)≤l.getD j 0:=by
   intro j
   induction j with
   | zero=>intro hj;exact (zBC hb 0 hj).1
   | succ j ih =>
    intro hj
    have h1:=ih (by omega)
    have h2:=zR5 h j (j+1) (by omega) hj
    omega
  have h1:=key (l.length-1) (by omega)
  have h2:=(zBC (d:=(0:Int)) hb (l.length-1) (by omega)).2
  omega
theorem NwOk.rows {n:Nw} (ho:NwOk n):∀ l∈n.s,l.length≤10:=fun l hl=>by
 have h1:=zS7 (ho.ss l hl) (ho.sr l hl)
 have:=ho.h
 omega
theorem NwOk.small {n:Nw} (ho:NwOk n):Small n:=⟨by have:=ho.ll;omega,by have:=ho.nl;omega,by have:=ho.sl;omega,fun l hl=>by have:=ho.rows l hl;omega⟩
theorem zED {n lo hi:Int} (h:inB n lo hi=true):lo≤n∧n≤hi:=by simpa [inB] using h
theorem zP7 {h:Int} {l:List (Int×Int)} (he:zBt h l=0):(l.all fun x=>zGO h x)=true∧(l.all fun x=>zHM x)=true∧(l.map pr2).Nodup:=by
 unfold zBt at he
 split at he
 ·split at he
  ·split at he
   ·exact ⟨by assumption,by assumption,by assumption⟩
   ·cases he
  ·cases he
 ·cases he
theorem zSo {l:List (Int×Bool)} (he:zCB l=0):zNI l=true∧(List.range l.length).any (zLU l)=false:=by
 unfold zCB at he
 split at he
 ·split at he
  ·cases he
  ·rename_i h1 h2;exact ⟨h1,by rw [Bool.not_eq_true] at h2;exact h2⟩
 ·cases he
theorem zS8 {n:Nw} (he:zCP n=0):NwOk n:=by
 have he0:=he
 unfold zCP at he
 split at he
 ·cases he
 split at he
 ·cases he
 split at he
 ·cases he
 split at he
 ·cases he
 rename_i c1 c2 c3 c4
 split at he
 case isFalse h=>exact absurd he h
 rename_i c5
 split at he
 case isFalse h=>exact absurd he h
 rename_i c6
 split at he
 ·cases he
 split at he
 ·cases he
 rename_i c7 c8
 simp only [Bool.not_eq_true,Bool.not_eq_false'] at c1 c3 c4 c7 c8
 obtain ⟨d1,d2,d3⟩:=zP7 c5
 obtain ⟨e1,e2⟩:=zSo c6
 rw [List.all_eq_true] at c7 c8 d1 d2
 simp only [zNI,List.all_eq_true,List.mem_range] at e1
 simp only [List.any_eq_false,List.mem_range] at e2
 have a3:=zED c3
 have a4:=zED c4
 refine ⟨he0,zED c1,by omega,by omega,by omega,fun x hx=>?_,fun x hx=>by have:=d2 x hx;simpa [zHM] using this,d3,fun i hi=>?_,fun i k hk hi hI hx=>?_,fun l hl x hx=>?_,fun l hl=>by rw [← zHz];exact c8 l hl⟩
 ·have:=d1 x hx
  simp only [zGO,Bool.and_eq_true] at this
  have b1:=zED this.1
  have b2:=zED this.2
  omega
 ·have:=zED (e1 i hi);omega
 ·refine e2 i hi ?_
  simp only [zLU,Bool.and_eq_true,decide_eq_true_eq,List.any_eq_true]
  refine ⟨hI,n.n.getD k default,?_,hx⟩
  rw [zAr (by omega)]
  exact List.mem_take_iff_getElem.2 ⟨k,by omega,rfl⟩
 ·have:=c7 l hl
  simp only [zIl,List.all_eq_true] at this
  have:=zED (this x hx);omega
def zMo (F:List Int) (i:Nat) (a:Int):List Int:=if a = -1 then F.set i i else (F.set i i).set i ((F.set i i).getD a.toNat 0)
def zOt (l:List (Int×Bool)):Nat→List Int
 | 0=>List.replicate 8 0
 | i+1=>zMo (zOt l i) i (l.getD i default).1
def zL2 (F:List Int) (L:List Int) (i k:Nat):List Int:=if F.getD k 0=F.getD i 0 then L.set i (max (L.getD i 0) k) else L
def zS5 (F:List Int) (i:Nat) (L:List Int) (k:Nat):List Int:=(List.range k).foldl (fun L k=>zL2 F L i k) L
def zQs (F:List Int) (m i:Nat):List Int:=(List.range i).foldl (fun L i=>zS5 F i L m) (List.replicate 8 0)
theorem zRS {F:List Int} {i:Nat} {a:Int}:(zMo F i a).length=F.length:=by unfold zMo;split<;>simp
theorem zG7 {l:List (Int×Bool)}:∀ i,(zOt l i).length=8
 | 0=>by simp [zOt]
 | i+1=>by rw [zOt,zRS];exact zG7 i
theorem zR7 {F L:List Int} {i k:Nat}:(zL2 F L i k).length=L.length:=by unfold zL2;split<;>simp
theorem zG1 {F L:List Int} {i k:Nat}:zS5 F i L (k+1)=zL2 F (zS5 F i L k) i k:=by
 simp only [zS5,List.range_succ,List.foldl_append,List.foldl_cons,List.foldl_nil]
theorem zIn {F L:List Int} {i:Nat}:∀ k,(zS5 F i L k).length=L.length
 | 0=>rfl
 | k+1=>by rw [zG1,zR7];exact zIn k
theorem zFp {F:List Int} {m i:Nat}:zQs F m (i+1)=zS5 F i (zQs F m i) m:=by
 simp only [zQs,List.range_succ,List.foldl_append,List.foldl_cons,List.foldl_nil]
theorem zLG {F:List Int} {m:Nat}:∀ i,(zQs F m i).length=8
 | 0=>by simp [zQs]
 | i+1=>by rw [zFp,zIn];exact zLG i
def zAk (n:Nw):List Int:=zOt n.n n.n.length
def zA5 (n:Nw):List Int:=zQs (zAk n) n.n.length n.n.length
abbrev zCw (n:Nw) (cs ms:PV) (F L:List Int):PV := .agg [I n.h,.sl (n.l.map prV),.sl (n.n.map ntV),.sl (n.s.map zAY),cs,ms,I (F.getD 0 0),I (F.getD 1 0),I (F.getD 2 0),I (F.getD 3 0),I (F.getD 4 0),I (F.getD 5 0),I (F.getD 6 0),I (F.getD 7 0),I (L.getD 0 0),I (L.getD 1 0),I (L.getD 2 0),I (L.getD 3 0),I (L.getD 4 0),I (L.getD 5 0),I (L.getD 6 0),I (L.getD 7 0)]
abbrev zUV (M:List (Int×Int)):PV := .omap (M.map zBy)
section
variable [Yo]
theorem f139_2 (n:Nw) (hs:Small n) (he:¬ zCP n=0):FG 139 [nwV n] (.tup [.nilp,I (zCP n)]):=by
 refine zAf Tryz.f139 ?_
 refine zAb (zAa (zAd 3 (zAc (zAb (zAb (zAa (zAd 1 (S_a [(6,.ret (I (zCP n)) ([]))] (ap (f76 (n) (by omega)) an) (zAd 1 (zAc (zAb (zAa (zAd 2 (zAc (zCj (zCP n=0) (by omega) (zAb (zAa (zAd 3 (zAc (zAl (E_a [] an (PV.tup [PV.nilp,I (zCP n)]) ([]) rfl rfl)))))))))))))))))))))
theorem f139_1 (n:Nw) (ho:NwOk n):FG 139 [nwV n] (.tup [.box (zCw n (.own 2 []) (zUV (n.l.map pr2)) (zAk n) (zA5 n)),I 0]):=by
 have hs:=ho.small
 have he:=ho.err
 have h1:=ho.nl.2
 have h2:=ho.ll
 have h3:=ho.ld
 have h4:=ho.na
 refine zAf Tryz.f139 ?_
 refine zAb (zAa (zAd 3 (zAc (zAb (zAb (zAa (zAd 1 (S_a [(6,.ret (I (zCP n)) ([]))] (ap (f76 (n) (by omega)) an) (zAd 1 (zAc (zAb (zAa (zAd 2 (zAc (zEc (zCP n=0) (by omega) (zAi (zAb (zAa (zAd 5 (zAc (zAb (zAb (zAa (zAd 2 (S_a [(0,.n (n.l.length))] (ap (lnS prV n.l) an) (zAd 1 (zAc (zAh 0 ?_))))))))))))))))))))))))))))
 refine zAo (fun (i,M)=>i≤n.l.length∧M=(n.l.take i).map pr2) (fun (i,M)=>[(5,.box (zCw n (.own 2 []) (zUV M) (List.replicate 8 0) (List.replicate 8 0))),(24,I (i:Nat))]) (fun (i,_)=>n.l.length-i) ((0:Nat),([]:List (Int×Int))) ⟨Nat.zero_le _,rfl⟩ fun (i,M) ⟨hi,hM⟩=>?_
 by_cases yC:i<n.l.length
 ·have yg:(n.l.take (i+1)).map pr2=M++[pr2 (n.l.getD i default)]:=by rw [zBO (d:=default) yC,List.map_append,← hM];rfl
  have hin:pr2 (n.l.getD i default)∉M:=fun hm=>by
   rw [← List.take_append_drop (i+1) n.l,List.map_append,yg] at h3
   have h2:=(List.nodup_append.1 h3).1
   have h3:=(List.nodup_append.1 h2).2.2
   exact h3 _ hm _ (List.mem_singleton.2 rfl) rfl
  have jK:=zLF hin
  refine zAb (zAa (zAd 1 (zAc (zAb (zAL ((↑i:Int)<(↑n.l.length:Int)) (by omega) (zAi (zAb (zAh 1 (zAb (zAa (S_a [(2,.v (PV.agg [I (n.l.getD i default).fst,I (n.l.getD i default).snd]))] (ap (zBA (default) (by omega):(List.map prV n.l)[i]? = some (PV.agg [I (n.l.getD i default).fst,I (n.l.getD i default).snd])) an) (zAd 3 (zAc (zAa (zAd 5 (S_a [(6,.ret (prV (pr2 (n.l.getD i default))) ([]))] (ap (f110 (n.l.getD i default)) an) (S_a [(4,.ix (none)),(0,.v (PV.omap (List.map zBy (M++[pr2 (n.l.getD i default)]))))] (ap (jK) (ap ((by simp):PV.omap (List.map zBy M++[(PV.agg [I (pr2 (n.l.getD i default)).fst,I (pr2 (n.l.getD i default)).snd],PV.bool true)])=PV.omap (List.map zBy (M++[pr2 (n.l.getD i default)]))) an)) (zAc (zAa (S_a [(1,.v (I (↑(i+1):Int)))] (ap (wrN i) an) (zAd 1 (zAc ?_))))))))))))))))))))))
  exact ⟨(i+1,M++[pr2 (n.l.getD i default)]),⟨by omega,yg.symm⟩,by simp only;omega,by kernel_rfl,by kernel_rfl⟩
 ·refine zAb (zAa (zAd 1 (zAc (zAb (zAO ((↑i:Int)<(↑n.l.length:Int)) (by omega) (zAv 0 (zAb (zAb (zAa (zAd 2 (S_a [(0,.n (n.n.length))] (ap (lnS ntV n.n) an) (zAd 1 (zAc (zAh 2 ?_))))))))))))))
  rw [List.take_of_length_le (by omega)] at hM
  subst hM
  clear h3
  generalize hMM:n.l.map pr2=MM
  refine zAo (fun (i,F)=>i≤n.n.length∧F=zOt n.n i) (fun (i,F)=>[(5,.box (zCw n (.own 2 []) (zUV MM) F (List.replicate 8 0))),(38,I (i:Nat))]) (fun (i,_)=>n.n.length-i) ((0:Nat),List.replicate 8 0) ⟨Nat.zero_le _,rfl⟩ fun (i,F) ⟨hi,hF⟩=>?_
  have hFl:F.length=8:=by rw [hF];exact zG7 i
  by_cases yC:i<n.n.length
  ·have h4i:=h4 i yC
   have yE:zOt n.n (i+1)=zMo F i (n.n.getD i default).1:=by rw [hF];rfl
   refine zAb (zAa (zAd 1 (zAc (zAb (zAL ((↑i:Int)<(↑n.n.length:Int)) (by omega) (zAi (zAb (zAh 3 (zAb (zAa (zAd 1 (S_a [(2,.v (PV.agg [I (n.n.getD i default).fst,PV.bool (n.n.getD i default).snd]))] (ap (zBA (default) (by omega):(List.map ntV n.n)[i]? = some (PV.agg [I (n.n.getD i default).fst,PV.bool (n.n.getD i default).snd])) an) (zAd 4 (zAc (zAb (zAa (zAd 5 (S_a [(2,.ob),(1,.v (PV.addr 5 [] 0 (6+i) none))] (ap ((by exact zAp (by omega)):decide (i<8)=true) (ap ((zFO (by kernel_rfl)):PV.addr 5 [] 0 (6+i*(fun x=>x.size) Tryz.prog.types[3]) none=PV.addr 5 [] 0 (6+i) none) an)) (S_a [(8,.root ((PV.agg [I n.h,PV.sl (List.map prV n.l),PV.sl (List.map ntV n.n),PV.sl (List.map zAY n.s),PV.own 2 [],PV.omap (List.map zBy MM),I ((F.set i (↑i:Int)).getD 0 0),I ((F.set i (↑i:Int)).getD 1 0),I ((F.set i (↑i:Int)).getD 2 0),I ((F.set i (↑i:Int)).getD 3 0),I ((F.set i (↑i:Int)).getD 4 0),I ((F.set i (↑i:Int)).getD 5 0),I ((F.set i (↑i:Int)).getD 6 0),I ((F.set i (↑i:Int)).getD 7 0),z8 0,z8 1,z8 2,z8 3,z8 4,z8 5,z8 6,z8 7]).box) true)] (ap (zPC (zKA (q:=(PV.agg [I n.h,PV.sl (List.map prV n.l),PV.sl (List.map ntV n.n),PV.sl (List.map zAY n.s),PV.own 2 [],PV.omap (List.map zBy MM),I (F.getD 0 0),I (F.getD 1 0),I (F.getD 2 0),I (F.getD 3 0),I (F.getD 4 0),I (F.getD 5 0),I (F.getD 6 0),I (F.getD 7 0),z8 0,z8 1,z8 2,z8 3,z8 4,z8 5,z8 6,z8 7]).box) (xs:=[PV.agg [I n.h,PV.sl (List.map prV n.l),PV.sl (List.map ntV n.n),PV.sl (List.map zAY n.s),PV.own 2 [],PV.omap (List.map zBy MM),I (F.getD 0 0),I (F.getD 1 0),I (F.getD 2 0),I (F.getD 3 0),I (F.getD 4 0),I (F.getD 5 0),I (F.getD 6 0),I (F.getD 7 0),z8 0,z8 1,z8 2,z8 3,z8 4,z8 5,z8 6,z8 7]]) (x:=PV.agg [I n.h,PV.sl (List.map prV n.l),PV.sl (List.map ntV n.n),PV.sl (List.map zAY n.s),PV.own 2 [],PV.omap (List.map zBy MM),I (F.getD 0 0),I (F.getD 1 0),I (F.getD 2 0),I (F.getD 3 0),I (F.getD 4 0),I (F.getD 5 0),I (F.getD 6 0),I (F.getD 7 0),z8 0,z8 1,z8 2,z8 3,z8 4,z8 5,z8 6,z8 7]) (y:=PV.agg [I n.h,PV.sl (List.map prV n.l),PV.sl (List.map ntV n.n),PV.sl (List.map zAY n.s),PV.own 2 [],PV.omap (List.map zBy MM),I ((F.set i (↑i:Int)).getD 0 0),I ((F.set i (↑i:Int)).getD 1 0),I ((F.set i (↑i:Int)).getD 2 0),I ((F.set i (↑i:Int)).getD 3 0),I ((F.set i (↑i:Int)).getD 4 0),I ((F.set i (↑i:Int)).getD 5 0),I ((F.set i (↑i:Int)).getD 6 0),I ((F.set i (↑i:Int)).getD 7 0),z8 0,z8 1,z8 2,z8 3,z8 4,z8 5,z8 6,z8 7]) (q':=(PV.agg [I n.h,PV.sl (List.map prV n.l),PV.sl (List.map ntV n.n),PV.sl (List.map zAY n.s),PV.own 2 [],PV.omap (List.map zBy MM),I ((F.set i (↑i:Int)).getD 0 0),I ((F.set i (↑i:Int)).getD 1 0),I ((F.set i (↑i:Int)).getD 2 0),I ((F.set i (↑i:Int)).getD 3 0),I ((F.set i (↑i:Int)).getD 4 0),I ((F.set i (↑i:Int)).getD 5 0),I ((F.set i (↑i:Int)).getD 6 0),I ((F.set i (↑i:Int)).getD 7 0),z8 0,z8 1,z8 2,z8 3,z8 4,z8 5,z8 6,z8 7]).box) rfl (zPl (A:=[I n.h,PV.sl (List.map prV n.l),PV.sl (List.map ntV n.n),PV.sl (List.map zAY n.s),PV.own 2 [],PV.omap (List.map zBy MM)]) (B:=[z8 0,z8 1,z8 2,z8 3,z8 4,z8 5,z8 6,z8 7]) (F:=F) (m:=8) (j:=i) (u:=(↑i:Int)) (by first | rfl | exact zBZ (by kernel_rfl) | exact zBW (by kernel_rfl) | (simp;done)) (by omega) (by omega)) rfl (hb:=zOD (A:=[I n.h,PV.sl (List.map prV n.l),PV.sl (List.map ntV n.n),PV.sl (List.map zAY n.s),PV.own 2 [],PV.omap (List.map zBy MM)]) (B:=[z8 0,z8 1,z8 2,z8 3,z8 4,z8 5,z8 6,z8 7]) (F:=F) (m:=8) (j:=i) (by first | rfl | exact zBZ (by kernel_rfl) | exact zBW (by kernel_rfl) | (simp;done)) (by omega))) rfl:zBx (PV.agg [I n.h,PV.sl (List.map prV n.l),PV.sl (List.map ntV n.n),PV.sl (List.map zAY n.s),PV.own 2 [],PV.omap (List.map zBy MM),I (F.getD 0 0),I (F.getD 1 0),I (F.getD 2 0),I (F.getD 3 0),I (F.getD 4 0),I (F.getD 5 0),I (F.getD 6 0),I (F.getD 7 0),z8 0,z8 1,z8 2,z8 3,z8 4,z8 5,z8 6,z8 7]).box [] 0 (6+i) (I (↑i:Int)).cells=some (PV.agg [I n.h,PV.sl (List.map prV n.l),PV.sl (List.map ntV n.n),PV.sl (List.map zAY n.s),PV.own 2 [],PV.omap (List.map zBy MM),I ((F.set i (↑i:Int)).getD 0 0),I ((F.set i (↑i:Int)).getD 1 0),I ((F.set i (↑i:Int)).getD 2 0),I ((F.set i (↑i:Int)).getD 3 0),I ((F.set i (↑i:Int)).getD 4 0),I ((F.set i (↑i:Int)).getD 5 0),I ((F.set i (↑i:Int)).getD 6 0),I ((F.set i (↑i:Int)).getD 7 0),z8 0,z8 1,z8 2,z8 3,z8 4,z8 5,z8 6,z8 7]).box∧zAD (PV.agg [I n.h,PV.sl (List.map prV n.l),PV.sl (List.map ntV n.n),PV.sl (List.map zAY n.s),PV.own 2 [],PV.omap (List.map zBy MM),I (F.getD 0 0),I (F.getD 1 0),I (F.getD 2 0),I (F.getD 3 0),I (F.getD 4 0),I (F.getD 5 0),I (F.getD 6 0),I (F.getD 7 0),z8 0,z8 1,z8 2,z8 3,z8 4,z8 5,z8 6,z8 7]).box (PV.agg [I n.h,PV.sl (List.map prV n.l),PV.sl (List.map ntV n.n),PV.sl (List.map zAY n.s),PV.own 2 [],PV.omap (List.map zBy MM),I ((F.set i (↑i:Int)).getD 0 0),I ((F.set i (↑i:Int)).getD 1 0),I ((F.set i (↑i:Int)).getD 2 0),I ((F.set i (↑i:Int)).getD 3 0),I ((F.set i (↑i:Int)).getD 4 0),I ((F.set i (↑i:Int)).getD 5 0),I ((F.set i (↑i:Int)).getD 6 0),I ((F.set i (↑i:Int)).getD 7 0),z8 0,z8 1,z8 2,z8 3,z8 4,z8 5,z8 6,z8 7]).box []=true) an) (zAc (zAb (zAa (zAd 3 (zAc (zC6 ((n.n.getD i default).fst = -1) (fun k0=>(zAa (zAd 7 (S_a [(0,.ob),(1,.ob),(1,.v (PV.addr 5 [] 0 (6+(n.n.getD i default).fst.toNat) none))] (ap ((by exact zAp (by omega)):decide (0≤(n.n.getD i default).fst)=true) (ap ((by exact zAp (by omega)):decide ((n.n.getD i default).fst.toNat<8)=true) (ap ((zFO (by kernel_rfl)):PV.addr 5 [] 0 (6+(n.n.getD i default).fst.toNat*(fun x=>x.size) Tryz.prog.types[3]) none=PV.addr 5 [] 0 (6+(n.n.getD i default).fst.toNat) none) an))) (S_a [(0,.cs true ([I ((F.set i (↑i:Int)).getD (n.n.getD i default).fst.toNat 0)]))] (ap (zDk (q:=(PV.agg [I n.h,PV.sl (List.map prV n.l),PV.sl (List.map ntV n.n),PV.sl (List.map zAY n.s),PV.own 2 [],PV.omap (List.map zBy MM),I ((F.set i (↑i:Int)).getD 0 0),I ((F.set i (↑i:Int)).getD 1 0),I ((F.set i (↑i:Int)).getD 2 0),I ((F.set i (↑i:Int)).getD 3 0),I ((F.set i (↑i:Int)).getD 4 0),I ((F.set i (↑i:Int)).getD 5 0),I ((F.set i (↑i:Int)).getD 6 0),I ((F.set i (↑i:Int)).getD 7 0),z8 0,z8 1,z8 2,z8 3,z8 4,z8 5,z8 6,z8 7]).box) (xs:=[PV.agg [I n.h,PV.sl (List.map prV n.l),PV.sl (List.map ntV n.n),PV.sl (List.map zAY n.s),PV.own 2 [],PV.omap (List.map zBy MM),I ((F.set i (↑i:Int)).getD 0 0),I ((F.set i (↑i:Int)).getD 1 0),I ((F.set i (↑i:Int)).getD 2 0),I ((F.set i (↑i:Int)).getD 3 0),I ((F.set i (↑i:Int)).getD 4 0),I ((F.set i (↑i:Int)).getD 5 0),I ((F.set i (↑i:Int)).getD 6 0),I ((F.set i (↑i:Int)).getD 7 0),z8 0,z8 1,z8 2,z8 3,z8 4,z8 5,z8 6,z8 7]]) (x:=PV.agg [I n.h,PV.sl (List.map prV n.l),PV.sl (List.map ntV n.n),PV.sl (List.map zAY n.s),PV.own 2 [],PV.omap (List.map zBy MM),I ((F.set i (↑i:Int)).getD 0 0),I ((F.set i (↑i:Int)).getD 1 0),I ((F.set i (↑i:Int)).getD 2 0),I ((F.set i (↑i:Int)).getD 3 0),I ((F.set i (↑i:Int)).getD 4 0),I ((F.set i (↑i:Int)).getD 5 0),I ((F.set i (↑i:Int)).getD 6 0),I ((F.set i (↑i:Int)).getD 7 0),z8 0,z8 1,z8 2,z8 3,z8 4,z8 5,z8 6,z8 7]) rfl rfl (zKn (A:=[I n.h,PV.sl (List.map prV n.l),PV.sl (List.map ntV n.n),PV.sl (List.map zAY n.s),PV.own 2 [],PV.omap (List.map zBy MM)]) (B:=[z8 0,z8 1,z8 2,z8 3,z8 4,z8 5,z8 6,z8 7]) (F:=F.set i (↑i:Int)) (m:=8) (j:=(n.n.getD i default).fst.toNat) (by first | rfl | exact zBZ (by kernel_rfl) | exact zBW (by kernel_rfl) | (simp;done)) (by omega)):zAt 5 (PV.agg [I n.h,PV.sl (List.map prV n.l),PV.sl (List.map ntV n.n),PV.sl (List.map zAY n.s),PV.own 2 [],PV.omap (List.map zBy MM),I ((F.set i (↑i:Int)).getD 0 0),I ((F.set i (↑i:Int)).getD 1 0),I ((F.set i (↑i:Int)).getD 2 0),I ((F.set i (↑i:Int)).getD 3 0),I ((F.set i (↑i:Int)).getD 4 0),I ((F.set i (↑i:Int)).getD 5 0),I ((F.set i (↑i:Int)).getD 6 0),I ((F.set i (↑i:Int)).getD 7 0),z8 0,z8 1,z8 2,z8 3,z8 4,z8 5,z8 6,z8 7]).box [] 0 (6+(n.n.getD i default).fst.toNat) 1=some (true,[I ((F.set i (↑i:Int)).getD (n.n.getD i default).fst.toNat 0)])) an) (zAd 2 (S_a [(2,.ob),(1,.v (PV.addr 5 [] 0 (6+i) none))] (ap ((by exact zAp (by omega)):decide (i<8)=true) (ap ((zFO (by kernel_rfl)):PV.addr 5 [] 0 (6+i*(fun x=>x.size) Tryz.prog.types[3]) none=PV.addr 5 [] 0 (6+i) none) an)) (S_a [(8,.root ((PV.agg [I n.h,PV.sl (List.map prV n.l),PV.sl (List.map ntV n.n),PV.sl (List.map zAY n.s),PV.own 2 [],PV.omap (List.map zBy MM),I (((F.set i (↑i:Int)).set i ((F.set i (↑i:Int)).getD (n.n.getD i default).fst.toNat 0)).getD 0 0),I (((F.set i (↑i:Int)).set i ((F.set i (↑i:Int)).getD (n.n.getD i default).fst.toNat 0)).getD 1 0),I (((F.set i (↑i:Int)).set i ((F.set i (↑i:Int)).getD (n.n.getD i default).fst.toNat 0)).getD 2 0),I (((F.set i (↑i:Int)).set i ((F.set i (↑i:Int)).getD (n.n.getD i default).fst.toNat 0)).getD 3 0),I (((F.set i (↑i:Int)).set i ((F.set i (↑i:Int)).getD (n.n.getD i default).fst.toNat 0)).getD 4 0),I (((F.set i (↑i:Int)).set i ((F.set i (↑i:Int)).getD (n.n.getD i default).fst.toNat 0)).getD 5 0),I (((F.set i (↑i:Int)).set i ((F.set i (↑i:Int)).getD (n.n.getD i default).fst.toNat 0)).getD 6 0),I (((F.set i (↑i:Int)).set i ((F.set i (↑i:Int)).getD (n.n.getD i default).fst.toNat 0)).getD 7 0),z8 0,z8 1,z8 2,z8 3,z8 4,z8 5,z8 6,z8 7]).box) true)] (ap (zPC (zKA (q:=(PV.agg [I n.h,PV.sl (List.map prV n.l),PV.sl (List.map ntV n.n),PV.sl (List.map zAY n.s),PV.own 2 [],PV.omap (List.map zBy MM),I ((F.set i (↑i:Int)).getD 0 0),I ((F.set i (↑i:Int)).getD 1 0),I ((F.set i (↑i:Int)).getD 2 0),I ((F.set i (↑i:Int)).getD 3 0),I ((F.set i (↑i:Int)).getD 4 0),I ((F.set i (↑i:Int)).getD 5 0),I ((F.set i (↑i:Int)).getD 6 0),I ((F.set i (↑i:Int)).getD 7 0),z8 0,z8 1,z8 2,z8 3,z8 4,z8 5,z8 6,z8 7]).box) (xs:=[PV.agg [I n.h,PV.sl (List.map prV n.l),PV.sl (List.map ntV n.n),PV.sl (List.map zAY n.s),PV.own 2 [],PV.omap (List.map zBy MM),I ((F.set i (↑i:Int)).getD 0 0),I ((F.set i (↑i:Int)).getD 1 0),I ((F.set i (↑i:Int)).getD 2 0),I ((F.set i (↑i:Int)).getD 3 0),I ((F.set i (↑i:Int)).getD 4 0),I ((F.set i (↑i:Int)).getD 5 0),I ((F.set i (↑i:Int)).getD 6 0),I ((F.set i (↑i:Int)).getD 7 0),z8 0,z8 1,z8 2,z8 3,z8 4,z8 5,z8 6,z8 7]]) (x:=PV.agg [I n.h,PV.sl (List.map prV n.l),PV.sl (List.map ntV n.n),PV.sl (List.map zAY n.s),PV.own 2 [],PV.omap (List.map zBy MM),I ((F.set i (↑i:Int)).getD 0 0),I ((F.set i (↑i:Int)).getD 1 0),I ((F.set i (↑i:Int)).getD 2 0),I ((F.set i (↑i:Int)).getD 3 0),I ((F.set i (↑i:Int)).getD 4 0),I ((F.set i (↑i:Int)).getD 5 0),I ((F.set i (↑i:Int)).getD 6 0),I ((F.set i (↑i:Int)).getD 7 0),z8 0,z8 1,z8 2,z8 3,z8 4,z8 5,z8 6,z8 7]) (y:=PV.agg [I n.h,PV.sl (List.map prV n.l),PV.sl (List.map ntV n.n),PV.sl (List.map zAY n.s),PV.own 2 [],PV.omap (List.map zBy MM),I (((F.set i (↑i:Int)).set i ((F.set i (↑i:Int)).getD (n.n.getD i default).fst.toNat 0)).getD 0 0),I (((F.set i (↑i:Int)).set i ((F.set i (↑i:Int)).getD (n.n.getD i default).fst.toNat 0)).getD 1 0),I (((F.set i (↑i:Int)).set i ((F.set i (↑i:Int)).getD (n.n.getD i default).fst.toNat 0)).getD 2 0),I (((F.set i (↑i:Int)).set i ((F.set i (↑i:Int)).getD (n.n.getD i default).fst.toNat 0)).getD 3 0),I (((F.set i (↑i:Int)).set i ((F.set i (↑i:Int)).getD (n.n.getD i default).fst.toNat 0)).getD 4 0),I (((F.set i (↑i:Int)).set i ((F.set i (↑i:Int)).getD (n.n.getD i default).fst.toNat 0)).getD 5 0),I (((F.set i (↑i:Int)).set i ((F.set i (↑i:Int)).getD (n.n.getD i default).fst.toNat 0)).getD 6 0),I (((F.set i (↑i:Int)).set i ((F.set i (↑i:Int)).getD (n.n.getD i default).fst.toNat 0)).getD 7 0),z8 0,z8 1,z8 2,z8 3,z8 4,z8 5,z8 6,z8 7]) (q':=(PV.agg [I n.h,PV.sl (List.map prV n.l),PV.sl (List.map ntV n.n),PV.sl (List.map zAY n.s),PV.own 2 [],PV.omap (List.map zBy MM),I (((F.set i (↑i:Int)).set i ((F.set i (↑i:Int)).getD (n.n.getD i default).fst.toNat 0)).getD 0 0),I (((F.set i (↑i:Int)).set i ((F.set i (↑i:Int)).getD (n.n.getD i default).fst.toNat 0)).getD 1 0),I (((F.set i (↑i:Int)).set i ((F.set i (↑i:Int)).getD (n.n.getD i default).fst.toNat 0)).getD 2 0),I (((F.set i (↑i:Int)).set i ((F.set i (↑i:Int)).getD (n.n.getD i default).fst.toNat 0)).getD 3 0),I (((F.set i (↑i:Int)).set i ((F.set i (↑i:Int)).getD (n.n.getD i default).fst.toNat 0)).getD 4 0),I (((F.set i (↑i:Int)).set i ((F.set i (↑i:Int)).getD (n.n.getD i default).fst.toNat 0)).getD 5 0),I (((F.set i (↑i:Int)).set i ((F.set i (↑i:Int)).getD (n.n.getD i default).fst.toNat 0)).getD 6 0),I (((F.set i (↑i:Int)).set i ((F.set i (↑i:Int)).getD (n.n.getD i default).fst.toNat 0)).getD 7 0),z8 0,z8 1,z8 2,z8 3,z8 4,z8 5,z8 6,z8 7]).box) rfl (zPl (A:=[I n.h,PV.sl (List.map prV n.l),PV.sl (List.map ntV n.n),PV.sl (List.map zAY n.s),PV.own 2 [],PV.omap (List.map zBy MM)]) (B:=[z8 0,z8 1,z8 2,z8 3,z8 4,z8 5,z8 6,z8 7]) (F:=F.set i (↑i:Int)) (m:=8) (j:=i) (u:=(F.set i (↑i:Int)).getD (n.n.getD i default).fst.toNat 0) (by first | rfl | exact zBZ (by kernel_rfl) | exact zBW (by kernel_rfl) | (simp;done)) (by omega) (by first | omega | (simp<;>omega))) rfl (hb:=zOD (A:=[I n.h,PV.sl (List.map prV n.l),PV.sl (List.map ntV n.n),PV.sl (List.map zAY n.s),PV.own 2 [],PV.omap (List.map zBy MM)]) (B:=[z8 0,z8 1,z8 2,z8 3,z8 4,z8 5,z8 6,z8 7]) (F:=F.set i (↑i:Int)) (m:=8) (j:=i) (by first | rfl | exact zBZ (by kernel_rfl) | exact zBW (by kernel_rfl) | (simp;done)) (by omega))) rfl:zBx (PV.agg [I n.h,PV.sl (List.map prV n.l),PV.sl (List.map ntV n.n),PV.sl (List.map zAY n.s),PV.own 2 [],PV.omap (List.map zBy MM),I ((F.set i (↑i:Int)).getD 0 0),I ((F.set i (↑i:Int)).getD 1 0),I ((F.set i (↑i:Int)).getD 2 0),I ((F.set i (↑i:Int)).getD 3 0),I ((F.set i (↑i:Int)).getD 4 0),I ((F.set i (↑i:Int)).getD 5 0),I ((F.set i (↑i:Int)).getD 6 0),I ((F.set i (↑i:Int)).getD 7 0),z8 0,z8 1,z8 2,z8 3,z8 4,z8 5,z8 6,z8 7]).box [] 0 (6+i) (I ((F.set i (↑i:Int)).getD (n.n.getD i default).fst.toNat 0)).cells=some (PV.agg [I n.h,PV.sl (List.map prV n.l),PV.sl (List.map ntV n.n),PV.sl (List.map zAY n.s),PV.own 2 [],PV.omap (List.map zBy MM),I (((F.set i (↑i:Int)).set i ((F.set i (↑i:Int)).getD (n.n.getD i default).fst.toNat 0)).getD 0 0),I (((F.set i (↑i:Int)).set i ((F.set i (↑i:Int)).getD (n.n.getD i default).fst.toNat 0)).getD 1 0),I (((F.set i (↑i:Int)).set i ((F.set i (↑i:Int)).getD (n.n.getD i default).fst.toNat 0)).getD 2 0),I (((F.set i (↑i:Int)).set i ((F.set i (↑i:Int)).getD (n.n.getD i default).fst.toNat 0)).getD 3 0),I (((F.set i (↑i:Int)).set i ((F.set i (↑i:Int)).getD (n.n.getD i default).fst.toNat 0)).getD 4 0),I (((F.set i (↑i:Int)).set i ((F.set i (↑i:Int)).getD (n.n.getD i default).fst.toNat 0)).getD 5 0),I (((F.set i (↑i:Int)).set i ((F.set i (↑i:Int)).getD (n.n.getD i default).fst.toNat 0)).getD 6 0),I (((F.set i (↑i:Int)).set i ((F.set i (↑i:Int)).getD (n.n.getD i default).fst.toNat 0)).getD 7 0),z8 0,z8 1,z8 2,z8 3,z8 4,z8 5,z8 6,z8 7]).box∧zAD (PV.agg [I n.h,PV.sl (List.map prV n.l),PV.sl (List.map ntV n.n),PV.sl (List.map zAY n.s),PV.own 2 [],PV.omap (List.map zBy MM),I ((F.set i (↑i:Int)).getD 0 0),I ((F.set i (↑i:Int)).getD 1 0),I ((F.set i (↑i:Int)).getD 2 0),I ((F.set i (↑i:Int)).getD 3 0),I ((F.set i (↑i:Int)).getD 4 0),I ((F.set i (↑i:Int)).getD 5 0),I ((F.set i (↑i:Int)).getD 6 0),I ((F.set i (↑i:Int)).getD 7 0),z8 0,z8 1,z8 2,z8 3,z8 4,z8 5,z8 6,z8 7]).box (PV.agg [I n.h,PV.sl (List.map prV n.l),PV.sl (List.map ntV n.n),PV.sl (List.map zAY n.s),PV.own 2 [],PV.omap (List.map zBy MM),I (((F.set i (↑i:Int)).set i ((F.set i (↑i:Int)).getD (n.n.getD i default).fst.toNat 0)).getD 0 0),I (((F.set i (↑i:Int)).set i ((F.set i (↑i:Int)).getD (n.n.getD i default).fst.toNat 0)).getD 1 0),I (((F.set i (↑i:Int)).set i ((F.set i (↑i:Int)).getD (n.n.getD i default).fst.toNat 0)).getD 2 0),I (((F.set i (↑i:Int)).set i ((F.set i (↑i:Int)).getD (n.n.getD i default).fst.toNat 0)).getD 3 0),I (((F.set i (↑i:Int)).set i ((F.set i (↑i:Int)).getD (n.n.getD i default).fst.toNat 0)).getD 4 0),I (((F.set i (↑i:Int)).set i ((F.set i (↑i:Int)).getD (n.n.getD i default).fst.toNat 0)).getD 5 0),I (((F.set i (↑i:Int)).set i ((F.set i (↑i:Int)).getD (n.n.getD i default).fst.toNat 0)).getD 6 0),I (((F.set i (↑i:Int)).set i ((F.set i (↑i:Int)).getD (n.n.getD i default).fst.toNat 0)).getD 7 0),z8 0,z8 1,z8 2,z8 3,z8 4,z8 5,z8 6,z8 7]).box []=true) an) (zAc (zAa (S_a [(1,.v (I (↑(i+1):Int)))] (ap (wrN i) an) (zAd 1 (zAc ?_))))))))))))) (fun k0=>(zAi (zAa (S_a [(1,.v (I (↑(i+1):Int)))] (ap (wrN i) an) (zAd 1 (zAc ?_)))))))))))))))))))))))))))))))
   ·rw [zMo,if_neg k0] at yE
    exact ⟨(i+1,(F.set i i).set i ((F.set i i).getD (n.n.getD i default).1.toNat 0)),⟨by omega,yE.symm⟩,by simp only;omega,by kernel_rfl,by kernel_rfl⟩
   ·rw [zMo,if_pos k0] at yE
    exact ⟨(i+1,F.set i i),⟨by omega,yE.symm⟩,by simp only;omega,by kernel_rfl,by kernel_rfl⟩
  ·have hFF:F=zAk n:=by rw [hF,zAk,show i=n.n.length by omega]
   subst hFF
   clear hF
   have qn:zA5 n=zQs (zAk n) n.n.length n.n.length:=rfl
   rw [qn]
   generalize hG:zAk n=F at *
   clear qn h4
   refine zAb (zAa (zAd 1 (zAc (zAb (zAO ((↑i:Int)<(↑n.n.length:Int)) (by omega) (zAv 2 (zAb (zAb (zAa (zAd 2 (S_a [(0,.n (n.n.length))] (ap (lnS ntV n.n) an) (zAd 1 (zAc (zAh 4 ?_))))))))))))))
   refine zAo (fun (i,L)=>i≤n.n.length∧L=zQs F n.n.length i) (fun (i,L)=>[(5,.box (zCw n (.own 2 []) (zUV MM) F L)),(68,I (i:Nat))]) (fun (i,_)=>n.n.length-i) ((0:Nat),List.replicate 8 0) ⟨Nat.zero_le _,rfl⟩ fun (i,L) ⟨hi,hL⟩=>?_
   have hLl:L.length=8:=by rw [hL];exact zLG i
   by_cases yC:i<n.n.length
   ·have yE:=zFp (F:=F) (m:=n.n.length) (i:=i)
    rw [← hL] at yE
    refine zAb (zAa (zAd 1 (zAc (zAb (zAL ((↑i:Int)<(↑n.n.length:Int)) (by omega) (zAi (zAb (zAh 5 (zAb (zAa (zAd 2 (zAc (zAb (zAa (zAd 2 (S_a [(0,.n (n.n.length))] (ap (lnS ntV n.n) an) (zAd 1 (zAc (zAh 6 ?_)))))))))))))))))))
    refine zAo (fun (k,Q)=>k≤n.n.length∧Q=zS5 F i L k) (fun (k,Q)=>[(5,.box (zCw n (.own 2 []) (zUV MM) F Q)),(74,I (k:Nat))]) (fun (k,_)=>n.n.length-k) ((0:Nat),L) ⟨Nat.zero_le _,rfl⟩ fun (k,Q) ⟨hk,hQ⟩=>?_
    have hQl:Q.length=8:=by rw [hQ,zIn];exact hLl
    by_cases uO:k<n.n.length
    ·have jV:=zG1 (F:=F) (L:=L) (i:=i) (k:=k)
     rw [← hQ] at jV
     clear yE hL hQ
     refine zAb (zAa (zAd 1 (zAc (zAb (zAL ((↑k:Int)<(↑n.n.length:Int)) (by omega) (zAi (zAb (zAh 7 (zAb (zAa (zAd 2 (zAc (zAb (zAa (zAd 4 (S_a [(2,.ob),(1,.v (PV.addr 5 [] 0 (6+k) none))] (ap ((by exact zAp (by omega)):decide (k<8)=true) (ap ((zFO (by kernel_rfl)):PV.addr 5 [] 0 (6+k*(fun x=>x.size) Tryz.prog.types[3]) none=PV.addr 5 [] 0 (6+k) none) an)) (S_a [(0,.cs true ([I (F.getD k 0)]))] (ap (zDk (q:=(PV.agg [I n.h,PV.sl (List.map prV n.l),PV.sl (List.map ntV n.n),PV.sl (List.map zAY n.s),PV.own 2 [],PV.omap (List.map zBy MM),I (F.getD 0 0),I (F.getD 1 0),I (F.getD 2 0),I (F.getD 3 0),I (F.getD 4 0),I (F.getD 5 0),I (F.getD 6 0),I (F.getD 7 0),I (Q.getD 0 0),I (Q.getD 1 0),I (Q.getD 2 0),I (Q.getD 3 0),I (Q.getD 4 0),I (Q.getD 5 0),I (Q.getD 6 0),I (Q.getD 7 0)]).box) (xs:=[PV.agg [I n.h,PV.sl (List.map prV n.l),PV.sl (List.map ntV n.n),PV.sl (List.map zAY n.s),PV.own 2 [],PV.omap (List.map zBy MM),I (F.getD 0 0),I (F.getD 1 0),I (F.getD 2 0),I (F.getD 3 0),I (F.getD 4 0),I (F.getD 5 0),I (F.getD 6 0),I (F.getD 7 0),I (Q.getD 0 0),I (Q.getD 1 0),I (Q.getD 2 0),I (Q.getD 3 0),I (Q.getD 4 0),I (Q.getD 5 0),I (Q.getD 6 0),I (Q.getD 7 0)]]) (x:=PV.agg [I n.h,PV.sl (List.map prV n.l),PV.sl (List.map ntV n.n),PV.sl (List.map zAY n.s),PV.own 2 [],PV.omap (List.map zBy MM),I (F.getD 0 0),I (F.getD 1 0),I (F.getD 2 0),I (F.getD 3 0),I (F.getD 4 0),I (F.getD 5 0),I (F.getD 6 0),I (F.getD 7 0),I (Q.getD 0 0),I (Q.getD 1 0),I (Q.getD 2 0),I (Q.getD 3 0),I (Q.getD 4 0),I (Q.getD 5 0),I (Q.getD 6 0),I (Q.getD 7 0)]) rfl rfl (zKn (A:=[I n.h,PV.sl (List.map prV n.l),PV.sl (List.map ntV n.n),PV.sl (List.map zAY n.s),PV.own 2 [],PV.omap (List.map zBy MM)]) (B:=[I (Q.getD 0 0),I (Q.getD 1 0),I (Q.getD 2 0),I (Q.getD 3 0),I (Q.getD 4 0),I (Q.getD 5 0),I (Q.getD 6 0),I (Q.getD 7 0)]) (F:=F) (m:=8) (j:=k) (by first | rfl | exact zBZ (by kernel_rfl) | exact zBW (by kernel_rfl) | (simp;done)) (by omega)):zAt 5 (PV.agg [I n.h,PV.sl (List.map prV n.l),PV.sl (List.map ntV n.n),PV.sl (List.map zAY n.s),PV.own 2 [],PV.omap (List.map zBy MM),I (F.getD 0 0),I (F.getD 1 0),I (F.getD 2 0),I (F.getD 3 0),I (F.getD 4 0),I (F.getD 5 0),I (F.getD 6 0),I (F.getD 7 0),I (Q.getD 0 0),I (Q.getD 1 0),I (Q.getD 2 0),I (Q.getD 3 0),I (Q.getD 4 0),I (Q.getD 5 0),I (Q.getD 6 0),I (Q.getD 7 0)]).box [] 0 (6+k) 1=some (true,[I (F.getD k 0)])) an) (zAd 4 (S_a [(2,.ob),(1,.v (PV.addr 5 [] 0 (6+i) none))] (ap ((by exact zAp (by omega)):decide (i<8)=true) (ap ((zFO (by kernel_rfl)):PV.addr 5 [] 0 (6+i*(fun x=>x.size) Tryz.prog.types[3]) none=PV.addr 5 [] 0 (6+i) none) an)) (S_a [(0,.cs true ([I (F.getD i 0)]))] (ap (zDk (q:=(PV.agg [I n.h,PV.sl (List.map prV n.l),PV.sl (List.map ntV n.n),PV.sl (List.map zAY n.s),PV.own 2 [],PV.omap (List.map zBy MM),I (F.getD 0 0),I (F.getD 1 0),I (F.getD 2 0),I (F.getD 3 0),I (F.getD 4 0),I (F.getD 5 0),I (F.getD 6 0),I (F.getD 7 0),I (Q.getD 0 0),I (Q.getD 1 0),I (Q.getD 2 0),I (Q.getD 3 0),I (Q.getD 4 0),I (Q.getD 5 0),I (Q.getD 6 0),I (Q.getD 7 0)]).box) (xs:=[PV.agg [I n.h,PV.sl (List.map prV n.l),PV.sl (List.map ntV n.n),PV.sl (List.map zAY n.s),PV.own 2 [],PV.omap (List.map zBy MM),I (F.getD 0 0),I (F.getD 1 0),I (F.getD 2 0),I (F.getD 3 0),I (F.getD 4 0),I (F.getD 5 0),I (F.getD 6 0),I (F.getD 7 0),I (Q.getD 0 0),I (Q.getD 1 0),I (Q.getD 2 0),I (Q.getD 3 0),I (Q.getD 4 0),I (Q.getD 5 0),I (Q.getD 6 0),I (Q.getD 7 0)]]) (x:=PV.agg [I n.h,PV.sl (List.map prV n.l),PV.sl (List.map ntV n.n),PV.sl (List.map zAY n.s),PV.own 2 [],PV.omap (List.map zBy MM),I (F.getD 0 0),I (F.getD 1 0),I (F.getD 2 0),I (F.getD 3 0),I (F.getD 4 0),I (F.getD 5 0),I (F.getD 6 0),I (F.getD 7 0),I (Q.getD 0 0),I (Q.getD 1 0),I (Q.getD 2 0),I (Q.getD 3 0),I (Q.getD 4 0),I (Q.getD 5 0),I (Q.getD 6 0),I (Q.getD 7 0)]) rfl rfl (zKn (A:=[I n.h,PV.sl (List.map prV n.l),PV.sl (List.map ntV n.n),PV.sl (List.map zAY n.s),PV.own 2 [],PV.omap (List.map zBy MM)]) (B:=[I (Q.getD 0 0),I (Q.getD 1 0),I (Q.getD 2 0),I (Q.getD 3 0),I (Q.getD 4 0),I (Q.getD 5 0),I (Q.getD 6 0),I (Q.getD 7 0)]) (F:=F) (m:=8) (j:=i) (by first | rfl | exact zBZ (by kernel_rfl) | exact zBW (by kernel_rfl) | (simp;done)) (by omega)):zAt 5 (PV.agg [I n.h,PV.sl (List.map prV n.l),PV.sl (List.map ntV n.n),PV.sl (List.map zAY n.s),PV.own 2 [],PV.omap (List.map zBy MM),I (F.getD 0 0),I (F.getD 1 0),I (F.getD 2 0),I (F.getD 3 0),I (F.getD 4 0),I (F.getD 5 0),I (F.getD 6 0),I (F.getD 7 0),I (Q.getD 0 0),I (Q.getD 1 0),I (Q.getD 2 0),I (Q.getD 3 0),I (Q.getD 4 0),I (Q.getD 5 0),I (Q.getD 6 0),I (Q.getD 7 0)]).box [] 0 (6+i) 1=some (true,[I (F.getD i 0)])) an) (zAd 1 (zAc (zBU (F.getD k 0=F.getD i 0) (fun k1=>(zAa (zAd 6 (S_a [(2,.ob),(1,.v (PV.addr 5 [] 0 (14+i) none))] (ap ((by exact zAp (by omega)):decide (i<8)=true) (ap ((zFO (by kernel_rfl)):PV.addr 5 [] 0 (14+i*(fun x=>x.size) Tryz.prog.types[3]) none=PV.addr 5 [] 0 (14+i) none) an)) (S_a [(0,.cs true ([I (Q.getD i 0)]))] (ap (zDk (q:=(PV.agg [I n.h,PV.sl (List.map prV n.l),PV.sl (List.map ntV n.n),PV.sl (List.map zAY n.s),PV.own 2 [],PV.omap (List.map zBy MM),I (F.getD 0 0),I (F.getD 1 0),I (F.getD 2 0),I (F.getD 3 0),I (F.getD 4 0),I (F.getD 5 0),I (F.getD 6 0),I (F.getD 7 0),I (Q.getD 0 0),I (Q.getD 1 0),I (Q.getD 2 0),I (Q.getD 3 0),I (Q.getD 4 0),I (Q.getD 5 0),I (Q.getD 6 0),I (Q.getD 7 0)]).box) (xs:=[PV.agg [I n.h,PV.sl (List.map prV n.l),PV.sl (List.map ntV n.n),PV.sl (List.map zAY n.s),PV.own 2 [],PV.omap (List.map zBy MM),I (F.getD 0 0),I (F.getD 1 0),I (F.getD 2 0),I (F.getD 3 0),I (F.getD 4 0),I (F.getD 5 0),I (F.getD 6 0),I (F.getD 7 0),I (Q.getD 0 0),I (Q.getD 1 0),I (Q.getD 2 0),I (Q.getD 3 0),I (Q.getD 4 0),I (Q.getD 5 0),I (Q.getD 6 0),I (Q.getD 7 0)]]) (x:=PV.agg [I n.h,PV.sl (List.map prV n.l),PV.sl (List.map ntV n.n),PV.sl (List.map zAY n.s),PV.own 2 [],PV.omap (List.map zBy MM),I (F.getD 0 0),I (F.getD 1 0),I (F.getD 2 0),I (F.getD 3 0),I (F.getD 4 0),I (F.getD 5 0),I (F.getD 6 0),I (F.getD 7 0),I (Q.getD 0 0),I (Q.getD 1 0),I (Q.getD 2 0),I (Q.getD 3 0),I (Q.getD 4 0),I (Q.getD 5 0),I (Q.getD 6 0),I (Q.getD 7 0)]) rfl rfl (zKn (A:=[I n.h,PV.sl (List.map prV n.l),PV.sl (List.map ntV n.n),PV.sl (List.map zAY n.s),PV.own 2 [],PV.omap (List.map zBy MM),I (F.getD 0 0),I (F.getD 1 0),I (F.getD 2 0),I (F.getD 3 0),I (F.getD 4 0),I (F.getD 5 0),I (F.getD 6 0),I (F.getD 7 0)]) (B:=[]) (F:=Q) (m:=8) (j:=i) (by first | rfl | exact zBZ (by kernel_rfl) | exact zBW (by kernel_rfl) | (simp;done)) (by omega)):zAt 5 (PV.agg [I n.h,PV.sl (List.map prV n.l),PV.sl (List.map ntV n.n),PV.sl (List.map zAY n.s),PV.own 2 [],PV.omap (List.map zBy MM),I (F.getD 0 0),I (F.getD 1 0),I (F.getD 2 0),I (F.getD 3 0),I (F.getD 4 0),I (F.getD 5 0),I (F.getD 6 0),I (F.getD 7 0),I (Q.getD 0 0),I (Q.getD 1 0),I (Q.getD 2 0),I (Q.getD 3 0),I (Q.getD 4 0),I (Q.getD 5 0),I (Q.getD 6 0),I (Q.getD 7 0)]).box [] 0 (14+i) 1=some (true,[I (Q.getD i 0)])) an) (zAd 2 (S_a [(9,.ret (I (max (Q.getD i 0) (↑k:Int))) ([]))] (ap (f165 (Q.getD i 0) ((↑k:Int))) an) (zAd 2 (S_a [(2,.ob),(1,.v (PV.addr 5 [] 0 (14+i) none))] (ap ((by exact zAp (by omega)):decide (i<8)=true) (ap ((zFO (by kernel_rfl)):PV.addr 5 [] 0 (14+i*(fun x=>x.size) Tryz.prog.types[3]) none=PV.addr 5 [] 0 (14+i) none) an)) (S_a [(8,.root ((PV.agg [I n.h,PV.sl (List.map prV n.l),PV.sl (List.map ntV n.n),PV.sl (List.map zAY n.s),PV.own 2 [],PV.omap (List.map zBy MM),I (F.getD 0 0),I (F.getD 1 0),I (F.getD 2 0),I (F.getD 3 0),I (F.getD 4 0),I (F.getD 5 0),I (F.getD 6 0),I (F.getD 7 0),I ((Q.set i (max (Q.getD i 0) (↑k:Int))).getD 0 0),I ((Q.set i (max (Q.getD i 0) (↑k:Int))).getD 1 0),I ((Q.set i (max (Q.getD i 0) (↑k:Int))).getD 2 0),I ((Q.set i (max (Q.getD i 0) (↑k:Int))).getD 3 0),I ((Q.set i (max (Q.getD i 0) (↑k:Int))).getD 4 0),I ((Q.set i (max (Q.getD i 0) (↑k:Int))).getD 5 0),I ((Q.set i (max (Q.getD i 0) (↑k:Int))).getD 6 0),I ((Q.set i (max (Q.getD i 0) (↑k:Int))).getD 7 0)]).box) true)] (ap (zPC (zKA (q:=(PV.agg [I n.h,PV.sl (List.map prV n.l),PV.sl (List.map ntV n.n),PV.sl (List.map zAY n.s),PV.own 2 [],PV.omap (List.map zBy MM),I (F.getD 0 0),I (F.getD 1 0),I (F.getD 2 0),I (F.getD 3 0),I (F.getD 4 0),I (F.getD 5 0),I (F.getD 6 0),I (F.getD 7 0),I (Q.getD 0 0),I (Q.getD 1 0),I (Q.getD 2 0),I (Q.getD 3 0),I (Q.getD 4 0),I (Q.getD 5 0),I (Q.getD 6 0),I (Q.getD 7 0)]).box) (xs:=[PV.agg [I n.h,PV.sl (List.map prV n.l),PV.sl (List.map ntV n.n),PV.sl (List.map zAY n.s),PV.own 2 [],PV.omap (List.map zBy MM),I (F.getD 0 0),I (F.getD 1 0),I (F.getD 2 0),I (F.getD 3 0),I (F.getD 4 0),I (F.getD 5 0),I (F.getD 6 0),I (F.getD 7 0),I (Q.getD 0 0),I (Q.getD 1 0),I (Q.getD 2 0),I (Q.getD 3 0),I (Q.getD 4 0),I (Q.getD 5 0),I (Q.getD 6 0),I (Q.getD 7 0)]]) (x:=PV.agg [I n.h,PV.sl (List.map prV n.l),PV.sl (List.map ntV n.n),PV.sl (List.map zAY n.s),PV.own 2 [],PV.omap (List.map zBy MM),I (F.getD 0 0),I (F.getD 1 0),I (F.getD 2 0),I (F.getD 3 0),I (F.getD 4 0),I (F.getD 5 0),I (F.getD 6 0),I (F.getD 7 0),I (Q.getD 0 0),I (Q.getD 1 0),I (Q.getD 2 0),I (Q.getD 3 0),I (Q.getD 4 0),I (Q.getD 5 0),I (Q.getD 6 0),I (Q.getD 7 0)]) (y:=PV.agg [I n.h,PV.sl (List.map prV n.l),PV.sl (List.map ntV n.n),PV.sl (List.map zAY n.s),PV.own 2 [],PV.omap (List.map zBy MM),I (F.getD 0 0),I (F.getD 1 0),I (F.getD 2 0),I (F.getD 3 0),I (F.getD 4 0),I (F.getD 5 0),I (F.getD 6 0),I (F.getD 7 0),I ((Q.set i (max (Q.getD i 0) (↑k:Int))).getD 0 0),I ((Q.set i (max (Q.getD i 0) (↑k:Int))).getD 1 0),I ((Q.set i (max (Q.getD i 0) (↑k:Int))).getD 2 0),I ((Q.set i (max (Q.getD i 0) (↑k:Int))).getD 3 0),I ((Q.set i (max (Q.getD i 0) (↑k:Int))).getD 4 0),I ((Q.set i (max (Q.getD i 0) (↑k:Int))).getD 5 0),I ((Q.set i (max (Q.getD i 0) (↑k:Int))).getD 6 0),I ((Q.set i (max (Q.getD i 0) (↑k:Int))).getD 7 0)]) (q':=(PV.agg [I n.h,PV.sl (List.map prV n.l),PV.sl (List.map ntV n.n),PV.sl (List.map zAY n.s),PV.own 2 [],PV.omap (List.map zBy MM),I (F.getD 0 0),I (F.getD 1 0),I (F.getD 2 0),I (F.getD 3 0),I (F.getD 4 0),I (F.getD 5 0),I (F.getD 6 0),I (F.getD 7 0),I ((Q.set i (max (Q.getD i 0) (↑k:Int))).getD 0 0),I ((Q.set i (max (Q.getD i 0) (↑k:Int))).getD 1 0),I ((Q.set i (max (Q.getD i 0) (↑k:Int))).getD 2 0),I ((Q.set i (max (Q.getD i 0) (↑k:Int))).getD 3 0),I ((Q.set i (max (Q.getD i 0) (↑k:Int))).getD 4 0),I ((Q.set i (max (Q.getD i 0) (↑k:Int))).getD 5 0),I ((Q.set i (max (Q.getD i 0) (↑k:Int))).getD 6 0),I ((Q.set i (max (Q.getD i 0) (↑k:Int))).getD 7 0)]).box) rfl (zPl (A:=[I n.h,PV.sl (List.map prV n.l),PV.sl (List.map ntV n.n),PV.sl (List.map zAY n.s),PV.own 2 [],PV.omap (List.map zBy MM),I (F.getD 0 0),I (F.getD 1 0),I (F.getD 2 0),I (F.getD 3 0),I (F.getD 4 0),I (F.getD 5 0),I (F.getD 6 0),I (F.getD 7 0)]) (B:=[]) (F:=Q) (m:=8) (j:=i) (u:=max (Q.getD i 0) (↑k:Int)) (by first | rfl | exact zBZ (by kernel_rfl) | exact zBW (by kernel_rfl) | (simp;done)) (by omega) (by omega)) rfl (hb:=zOD (A:=[I n.h,PV.sl (List.map prV n.l),PV.sl (List.map ntV n.n),PV.sl (List.map zAY n.s),PV.own 2 [],PV.omap (List.map zBy MM),I (F.getD 0 0),I (F.getD 1 0),I (F.getD 2 0),I (F.getD 3 0),I (F.getD 4 0),I (F.getD 5 0),I (F.getD 6 0),I (F.getD 7 0)]) (B:=[]) (F:=Q) (m:=8) (j:=i) (by first | rfl | exact zBZ (by kernel_rfl) | exact zBW (by kernel_rfl) | (simp;done)) (by omega))) rfl:zBx (PV.agg [I n.h,PV.sl (List.map prV n.l),PV.sl (List.map ntV n.n),PV.sl (List.map zAY n.s),PV.own 2 [],PV.omap (List.map zBy MM),I (F.getD 0 0),I (F.getD 1 0),I (F.getD 2 0),I (F.getD 3 0),I (F.getD 4 0),I (F.getD 5 0),I (F.getD 6 0),I (F.getD 7 0),I (Q.getD 0 0),I (Q.getD 1 0),I (Q.getD 2 0),I (Q.getD 3 0),I (Q.getD 4 0),I (Q.getD 5 0),I (Q.getD 6 0),I (Q.getD 7 0)]).box [] 0 (14+i) (I (max (Q.getD i 0) (↑k:Int))).cells=some (PV.agg [I n.h,PV.sl (List.map prV n.l),PV.sl (List.map ntV n.n),PV.sl (List.map zAY n.s),PV.own 2 [],PV.omap (List.map zBy MM),I (F.getD 0 0),I (F.getD 1 0),I (F.getD 2 0),I (F.getD 3 0),I (F.getD 4 0),I (F.getD 5 0),I (F.getD 6 0),I (F.getD 7 0),I ((Q.set i (max (Q.getD i 0) (↑k:Int))).getD 0 0),I ((Q.set i (max (Q.getD i 0) (↑k:Int))).getD 1 0),I ((Q.set i (max (Q.getD i 0) (↑k:Int))).getD 2 0),I ((Q.set i (max (Q.getD i 0) (↑k:Int))).getD 3 0),I ((Q.set i (max (Q.getD i 0) (↑k:Int))).getD 4 0),I ((Q.set i (max (Q.getD i 0) (↑k:Int))).getD 5 0),I ((Q.set i (max (Q.getD i 0) (↑k:Int))).getD 6 0),I ((Q.set i (max (Q.getD i 0) (↑k:Int))).getD 7 0)]).box∧zAD (PV.agg [I n.h,PV.sl (List.map prV n.l),PV.sl (List.map ntV n.n),PV.sl (List.map zAY n.s),PV.own 2 [],PV.omap (List.map zBy MM),I (F.getD 0 0),I (F.getD 1 0),I (F.getD 2 0),I (F.getD 3 0),I (F.getD 4 0),I (F.getD 5 0),I (F.getD 6 0),I (F.getD 7 0),I (Q.getD 0 0),I (Q.getD 1 0),I (Q.getD 2 0),I (Q.getD 3 0),I (Q.getD 4 0),I (Q.getD 5 0),I (Q.getD 6 0),I (Q.getD 7 0)]).box (PV.agg [I n.h,PV.sl (List.map prV n.l),PV.sl (List.map ntV n.n),PV.sl (List.map zAY n.s),PV.own 2 [],PV.omap (List.map zBy MM),I (F.getD 0 0),I (F.getD 1 0),I (F.getD 2 0),I (F.getD 3 0),I (F.getD 4 0),I (F.getD 5 0),I (F.getD 6 0),I (F.getD 7 0),I ((Q.set i (max (Q.getD i 0) (↑k:Int))).getD 0 0),I ((Q.set i (max (Q.getD i 0) (↑k:Int))).getD 1 0),I ((Q.set i (max (Q.getD i 0) (↑k:Int))).getD 2 0),I ((Q.set i (max (Q.getD i 0) (↑k:Int))).getD 3 0),I ((Q.set i (max (Q.getD i 0) (↑k:Int))).getD 4 0),I ((Q.set i (max (Q.getD i 0) (↑k:Int))).getD 5 0),I ((Q.set i (max (Q.getD i 0) (↑k:Int))).getD 6 0),I ((Q.set i (max (Q.getD i 0) (↑k:Int))).getD 7 0)]).box []=true) an) (zAc (zAa (S_a [(1,.v (I (↑(k+1):Int)))] (ap (wrN k) an) (zAd 1 (zAc ?_))))))))))))))) (fun k1=>(zAi (zAa (S_a [(1,.v (I (↑(k+1):Int)))] (ap (wrN k) an) (zAd 1 (zAc ?_)))))))))))))))))))))))))))))
     ·rw [zL2,if_pos (by assumption)] at jV
      exact ⟨(k+1,Q.set i (max (Q.getD i 0) k)),⟨by omega,jV.symm⟩,by simp only;omega,by kernel_rfl,by kernel_rfl⟩
     ·rw [zL2,if_neg (by assumption)] at jV
      exact ⟨(k+1,Q),⟨by omega,jV.symm⟩,by simp only;omega,by kernel_rfl,by kernel_rfl⟩
    ·refine zAb (zAa (zAd 1 (zAc (zAb (zAO ((↑k:Int)<(↑n.n.length:Int)) (by omega) (zAv 6 (zAa (S_a [(1,.v (I (↑(i+1):Int)))] (ap (wrN i) an) (zAd 1 (zAc ?_))))))))))
     exact ⟨(i+1,Q),⟨by omega,by rw [yE,hQ,show k=n.n.length by omega]⟩,by simp only;omega,by kernel_rfl,by kernel_rfl⟩
   ·refine zAb (zAa (zAd 1 (zAc (zAb (zAO ((↑i:Int)<(↑n.n.length:Int)) (by omega) (zAv 4 (zAb (zAa (zAd 1 (zAd 1 (zAd 1 (zAc (zAl (E_a [] an (PV.tup [(PV.agg [I n.h,PV.sl (List.map prV n.l),PV.sl (List.map ntV n.n),PV.sl (List.map zAY n.s),PV.own 2 [],PV.omap (List.map zBy MM),I (F.getD 0 0),I (F.getD 1 0),I (F.getD 2 0),I (F.getD 3 0),I (F.getD 4 0),I (F.getD 5 0),I (F.getD 6 0),I (F.getD 7 0),I (L.getD 0 0),I (L.getD 1 0),I (L.getD 2 0),I (L.getD 3 0),I (L.getD 4 0),I (L.getD 5 0),I (L.getD 6 0),I (L.getD 7 0)]).box,I 0]) ([]) ?_ rfl))))))))))))))
    rw [hL,show i=n.n.length by omega]
end
end Go.Eng
set_option maxRecDepth 10000
set_option maxHeartbeats 4000000
namespace Go.Eng
open Go Go.Proofs
abbrev mapM (M:List (Int×Int)):PV := .map (M.map zBy)
abbrev zDQ (n:Nw) (cs:List (Int×Int)):PV := .ref (zCw n (prs cs) (mapM (n.l.map pr2)) (zAk n) (zA5 n))
def zGQ (n:Nw) (c:Int×Int):Bool:=inB c.1 0 (n.n.length-1)&&inB c.2 0 (n.s.length-1)
def zBw (n:Nw) (cs:List (Int×Int)):Int:=if zCP n=0 then if (cs.length:Int)>16 then 2 else if (!cs.all fun c=>zGQ n c)=true then 1 else 0 else zCP n
def zB7 (n:Nw) (cs:List (Int×Int)) (e:Int):Int:=if zBw n cs=0 then if inB e 0 12=true then 0 else 3 else zBw n cs
structure CrOk (n:Nw) (cs:List (Int×Int)):Prop where
 err:zBw n cs=0
 nw:NwOk n
 len:cs.length≤16
 cs:∀ c∈cs,(0≤c.1∧c.1<n.n.length)∧(0≤c.2∧c.2<n.s.length)
structure CrW (n:Nw) (cs:List (Int×Int)):Prop where
 nw:NwOk n
 len:cs.length≤1000
 cs:∀ c∈cs,(0≤c.1∧c.1<n.n.length)∧(0≤c.2∧c.2<n.s.length)
theorem CrOk.w {n:Nw} {cs:List (Int×Int)} (h:CrOk n cs):CrW n cs:=⟨h.nw,by have:=h.len;omega,h.cs⟩
theorem zQQ {n:Nw} {cs:List (Int×Int)} (he:zBw n cs=0):CrOk n cs:=by
 have he0:=he
 unfold zBw at he
 split at he
 case isFalse h=>exact absurd he h
 rename_i c1
 split at he
 ·cases he
 split at he
 ·cases he
 rename_i c2 c3
 simp only [Bool.not_eq_true,Bool.not_eq_false',List.all_eq_true] at c3
 refine ⟨he0,zS8 c1,by omega,fun c hc=>?_⟩
 have:=c3 c hc
 simp only [zGQ,Bool.and_eq_true] at this
 have b1:=zED this.1
 have b2:=zED this.2
 omega
structure EvOk (n:Nw) (cs:List (Int×Int)) (e:Int):Prop where
 err:zB7 n cs e=0
 cr:CrOk n cs
 ev:0≤e∧e≤12
theorem zR9 {n:Nw} {cs:List (Int×Int)} {e:Int} (he:zB7 n cs e=0):EvOk n cs e:=by
 have he0:=he
 unfold zB7 at he
 split at he
 case isFalse h=>exact absurd he h
 rename_i c1
 split at he
 ·rename_i h;exact ⟨he0,zQQ c1,zED h⟩
 ·cases he
section
variable [Yo]
theorem f170 (n:Nw) (x:Int) (hb:n.s.length≤6):FG 170 [nwV n,I x] (.bool (inB x 0 (n.s.length-1))):=by
 refine zAf Tryz.f170 ?_
 refine zAb (zAa (zAd 2 (zAc (zAb (zAa (zAd 3 (S_a [(0,.n (n.s.length))] (ap (lnS zAY n.s) an) (S_a [(1,.v (I ((↑n.s.length:Int)-1)))] (ap ((zDm rfl (by omega)):I (IntKind.i64.wrap ((↑n.s.length:Int)-1))=I ((↑n.s.length:Int)-1)) an) (S_a [(10,.ret (PV.bool (inB x 0 ((↑n.s.length:Int)-1))) ([]))] (ap (f107 (x) (0) ((↑n.s.length:Int)-1)) an) (zAd 1 (zAc (zAl (E_a [] an (PV.bool (inB x 0 ((↑n.s.length:Int)-1))) ([]) rfl rfl)))))))))))))
theorem f118 (n:Nw) (c:Int×Int) (cp:PV) (M:List (Int×Int)) (F L:List Int) (ho:NwOk n):FG 118 [.ref (zCw n cp (mapM M) F L),prV c] (.bool (zGQ n c)):=by
 have h1:=ho.nl.2
 have h2:=ho.sl.2
 refine zAf Tryz.f118 ?_
 refine zAb (zAa (zAd 2 (zAc (zAb (zAa (zAd 6 (S_a [(8,.ret (PV.bool (inB c.fst 0 ((↑n.n.length:Int)-1))) ([]))] (ap (f106 (n) (c.fst) (by omega)) an) (zAd 1 (zDV 12 (inB c.fst 0 ((↑n.n.length:Int)-1)) (fun k0=>(zAd 6 (S_a [(8,.ret (PV.bool (inB c.snd 0 ((↑n.s.length:Int)-1))) ([]))] (ap (f170 (n) (c.snd) (by omega)) an) (zAd 2 (zAc (zAl (E_a [] an (PV.bool (inB c.snd 0 ((↑n.s.length:Int)-1))) ([]) ?_ rfl))))))) (fun k0=>(zAd 9 (zAc (zAl (E_a [] an (PV.bool false) ([]) ?_ rfl))))))))))))))
 ·simp only [zGQ,k0,Bool.true_and]
 ·simp only [zGQ,k0,Bool.false_and]
theorem f204_1 (n:Nw) (M:List (Int×Int)) (F L:List Int) (ho:NwOk n) (x:Int×Int):FG 204 [prV x,.ref (.func 118 [.ref (zCw n (.sl []) (mapM M) F L)] [])] (.bool (!(zGQ n x))):=by
 refine zAf Tryz.f204 ?_
 refine zAb (zAa (zAd 2 (zAc (zAb (zAa (zAd 2 (S_a [(7,.ret (PV.bool (zGQ n x)) ([]))] (ap (f118 (n) (x) (PV.sl []) (M) (F) (L) (by omega)) an) (zAd 2 (zAc (zAl (E_a [] an (PV.bool !zGQ n x) ([]) rfl rfl)))))))))))
theorem f203_1 (n:Nw) (M:List (Int×Int)) (F L:List Int) (ho:NwOk n) (l:List (Int×Int)) (hl:l.length<4294967296):FG 203 [.sl (l.map prV),.func 204 [] [.ref (.func 118 [.ref (zCw n (.sl []) (mapM M) F L)] [])]] (I (zES (fun x => !(zGQ n x)) l)):=by
 refine zAf Tryz.f203 ?_
 refine zAb (zAa (zAd 1 (zAc (zAb (zAb (zAa (zAd 1 (S_a [(0,.n (l.length))] (ap (lnS prV l) an) (zAd 1 (zAc (zAh 0 ?_)))))))))))
 refine zAo (fun i=>i≤l.length∧∀ j,j<i→(fun x => !(zGQ n x)) (l.getD j default)=false) (fun i=>[(8,I (i:Nat))]) (fun i=>l.length-i) (0:Nat) (by simp) fun i ⟨hi,ha⟩=>?_
 refine zAb (zAa (zAd 1 (zAc (zAb (zBU ((↑i:Int)<(↑l.length:Int)) (fun k0=>(zAi (zAb (zAh 1 (zAb (zAa (zAd 2 (zAc (zAb (zAa (zAd 3 (S_a [(2,.v (PV.agg [I (l.getD i default).fst,I (l.getD i default).snd]))] (ap (zBA (default) (by omega):(List.map prV l)[i]? = some (PV.agg [I (l.getD i default).fst,I (l.getD i default).snd])) an) (zAd 1 (S_a [(7,.ret (PV.bool !zGQ n (l.getD i default)) ([]))] (ap (f204_1 (n) (M) (F) (L) (by omega) (l.getD i default)) an) (zAc (zD4 (!zGQ n (l.getD i default)) (fun k1=>(zAb (zAa (zAd 2 (zAc (zAl (E_a [] an (I (↑i:Int)) ([]) ?_ rfl))))))) (fun k1=>(zAi (zAa (S_a [(1,.v (I (↑(i+1):Int)))] (ap (wrN i) an) (zAd 1 (zAc ?_)))))))))))))))))))))) (fun k0=>(zAv 0 (zAb (zAa (zAd 1 (zAc (zAl (E_a [] an (I (-1)) ([]) ?_ rfl)))))))))))))
 ·rw [zBY (i:=i) (by omega) (fun j hj=>by rw [← zAr (d:=default)];exact ha j hj) (by rw [← zAr (d:=default)];first | assumption | exact decide_eq_true ‹_› | (simp only [Bool.not_eq_true',decide_eq_false_iff_not];assumption))]
 ·refine ⟨i+1,⟨by omega,fun j hj=>?_⟩,by omega,by kernel_rfl,by kernel_rfl⟩
  rcases Nat.lt_succ_iff_lt_or_eq.1 hj with h | rfl
  ·exact ha j h
  ·first | assumption | exact decide_eq_false ‹_› | (simp only [Bool.not_eq_false',decide_eq_true_eq];first | assumption | (apply Decidable.of_not_not;assumption))
 ·rw [zCl fun j hj=>by rw [← zAr (d:=default)];exact ha j (by omega)]
theorem f159_1 (n:Nw) (M:List (Int×Int)) (F L:List Int) (ho:NwOk n) (l:List (Int×Int)) (hl:l.length<4294967296):FG 159 [.sl (l.map prV),.func 204 [] [.ref (.func 118 [.ref (zCw n (.sl []) (mapM M) F L)] [])]] (.bool (l.any (fun x => !(zGQ n x)))):=by
 refine zAf Tryz.f159 ?_
 refine zAb (zAa (zAd 1 (zAc (zAb (zAa (zAd 2 (S_a [(7,.ret (I (zES (fun x => !zGQ n x) l)) ([]))] (ap (f203_1 (n) (M) (F) (L) (by omega) (l) (by omega)) an) (zAd 2 (zAc (zAl (E_a [] an (PV.bool (decide (zES (fun x => !zGQ n x) l≥0))) ([]) ?_ rfl)))))))))))
 rw [zEe]
theorem f164_1 (n:Nw) (M:List (Int×Int)) (F L:List Int) (ho:NwOk n) (l:List (Int×Int)) (hl:l.length<4294967296):FG 164 [.sl (l.map prV),.func 118 [.ref (zCw n (.sl []) (mapM M) F L)] []] (.bool (l.all (fun x=>zGQ n x))):=by
 refine zAf Tryz.f164 ?_
 refine zAb (zAa (zAd 2 (zAc (zAb (zAa (zAd 2 (S_a [(12,.ret (PV.bool (l.any fun x => !zGQ n x)) ([]))] (ap (f159_1 (n) (M) (F) (L) (by omega) (l) (by omega)) an) (zAd 2 (zAc (zAl (E_a [] an (PV.bool !l.any fun x => !zGQ n x) ([]) ?_ rfl)))))))))))
 simp [List.not_any_eq_all_not]
theorem f99_1 (n:Nw) (cs:List (Int×Int)) (ho:CrOk n cs):FG 99 [nwV n,prs cs] (.tup [zDQ n cs,I 0]):=by
 have hn:=ho.nw
 have hl:=ho.len
 have ha:(!cs.all fun c=>zGQ n c)=false:=by
  simp only [Bool.not_eq_false',List.all_eq_true]
  intro c hc
  have:=ho.cs c hc
  simp only [zGQ,inB,Bool.and_eq_true,decide_eq_true_eq];omega
 refine zAf Tryz.f99 ?_
 refine zAb (zAa (zAd 3 (zAc (zAb (zAa (zAd 1 (S_a [(6,.ret (PV.tup [(zCw n (PV.own 2 []) (zUV (List.map pr2 n.l)) (zAk n) (zA5 n)).box,I 0]) ([]))] (ap (f139_1 (n) (by omega)) an) (zAd 5 (zAc (zAb (zAh 0 (zAb (zAa (zAd 3 (zAc (zAU (zAb (zAa (zAd 1 (S_a [(0,.n (cs.length))] (ap (lnS prV cs) an) (zAd 2 (zAc (zAO ((↑cs.length:Int)>16) (by omega) (zAb (zAa (zAd 3 (S_a [(13,.ret (PV.bool (cs.all fun x=>zGQ n x)) ([]))] (ap (f164_1 (n) (List.map pr2 n.l) (zAk n) (zA5 n) (by omega) (cs) (by omega)) an) (zAd 2 (zAc (zD4 (!cs.all fun x=>zGQ n x) (fun k0=>(zAb (zAa (zAd 2 (zAc (zAl (E_a [] an (PV.tup [PV.nilp,I 1]) ([]) ?_ rfl))))))) (fun k0=>(zAi (zAb (zAa (zAd 5 (zAc (zAb (zAa (zAd 1 (zAd 1 (zAd 1 (zAc (zAl (E_a [] an (PV.tup [(PV.agg (I n.h::PV.sl (List.map prV n.l)::PV.sl (List.map ntV n.n)::PV.sl (List.map zAY n.s)::PV.sl (List.map prV cs)::PV.map (List.map zBy (List.map pr2 n.l))::(zAS (zAk n) 8++zAS (zA5 n) 8))).ref,I 0]) ([]) rfl rfl))))))))))))))))))))))))))))))))))))))))))))
 rw [ha] at k0;cases k0
theorem f99_2 (n:Nw) (cs:List (Int×Int)) (hs:Small n) (hl:cs.length<1000000) (ho:¬ zBw n cs=0):FG 99 [nwV n,prs cs] (.tup [.nilp,I (zBw n cs)]):=by
 by_cases he:zCP n=0
 ·have hn:=zS8 he
  refine zAf Tryz.f99 ?_
  refine zAb (zAa (zAd 3 (zAc (zAb (zAa (zAd 1 (S_a [(6,.ret (PV.tup [(zCw n (PV.own 2 []) (zUV (List.map pr2 n.l)) (zAk n) (zA5 n)).box,I 0]) ([]))] (ap (f139_1 (n) (by omega)) an) (zAd 5 (zAc (zAb (zAh 0 (zAb (zAa (zAd 3 (zAc (zAU (zAb (zAa (zAd 1 (S_a [(0,.n (cs.length))] (ap (lnS prV cs) an) (zAd 2 (zAc (zBU ((↑cs.length:Int)>16) (fun k0=>(zAb (zAa (zAd 2 (zAc (zAl (E_a [] an (PV.tup [PV.nilp,I 2]) ([]) ?_ rfl))))))) (fun k0=>(zAb (zAa (zAd 3 (S_a [(13,.ret (PV.bool (cs.all fun x=>zGQ n x)) ([]))] (ap (f164_1 (n) (List.map pr2 n.l) (zAk n) (zA5 n) (by omega) (cs) (by omega)) an) (zAd 2 (zAc (zD4 (!cs.all fun x=>zGQ n x) (fun k1=>(zAb (zAa (zAd 2 (zAc (zAl (E_a [] an (PV.tup [PV.nilp,I 1]) ([]) ?_ rfl))))))) (fun k1=>(zAi (zAb (zAa (zAd 5 (zAc (zAb (zAa (zAd 1 (zAd 1 (zAd 1 (zAc (zAl (E_a [] an (PV.tup [(PV.agg (I n.h::PV.sl (List.map prV n.l)::PV.sl (List.map ntV n.n)::PV.sl (List.map zAY n.s)::PV.sl (List.map prV cs)::PV.map (List.map zBy (List.map pr2 n.l))::(zAS (zAk n) 8++zAS (zA5 n) 8))).ref,I 0]) ([]) ?_ rfl)))))))))))))))))))))))))))))))))))))))))))))
  ·simp only [zBw,he,k0,if_true]
  ·simp only [zBw,he,k0,k1,if_true,if_false];try rfl
  ·exact absurd (by simp only [zBw,he,k0,k1,if_true,if_false];rfl) ho
 ·refine zAf Tryz.f99 ?_
  refine zAb (zAa (zAd 3 (zAc (zAb (zAa (zAd 1 (S_a [(6,.ret (PV.tup [PV.nilp,I (zCP n)]) ([]))] (ap (f139_2 (n) (by omega) (by omega)) an) (zAd 5 (zAc (zAb (zAh 0 (zAb (zAa (zAd 3 (zAc (zCj (zCP n=0) (by omega) (zAb (zAa (zAd 3 (zAc (zAl (E_a [] an (PV.tup [PV.nilp,I (zCP n)]) ([]) ?_ rfl))))))))))))))))))))))
  simp only [zBw,he,if_false]
theorem f90_1 (n:Nw) (cs:List (Int×Int)) (e:Int) (ho:EvOk n cs e):FG 90 [nwV n,prs cs,I e] (.tup [zDQ n cs,I 0]):=by
 have hc:=ho.cr
 have he:inB e 0 12=true:=by have:=ho.ev;simp only [inB,Bool.and_eq_true,decide_eq_true_eq];omega
 refine zAf Tryz.f90 ?_
 refine zAb (zAa (zAd 3 (zAc (zAb (zAa (zAd 2 (S_a [(8,.ret (PV.tup [zDQ n cs,I 0]) ([]))] (ap (f99_1 (n) (cs) (by omega)) an) (zAd 5 (zAc (zAb (zAb (zAa (zAd 4 (S_a [(10,.ret (PV.bool (inB e 0 12)) ([]))] (ap (f107 (e) (0) (12)) an) (zAd 2 (zAc (zD4 (!inB e 0 12) (fun k0=>(zAa (zAd 1 (zAc (zAb (zAb (zAa (zAd 2 (zAc (zBT (zAb (zAa (zAd 3 (zAc (zAl (E_a [] an (PV.tup [PV.nilp,I 3]) ([]) ?_ rfl)))))))))))))))) (fun k0=>(zAi (zAb (zAb (zAa (zAd 2 (zAc (zAU (zAi (zAb (zAa (zAd 3 (zAc (zAl (E_a [] an (PV.tup [(PV.agg (I n.h::PV.sl (List.map prV n.l)::PV.sl (List.map ntV n.n)::PV.sl (List.map zAY n.s)::PV.sl (List.map prV cs)::PV.map (List.map zBy (List.map pr2 n.l))::(zAS (zAk n) 8++zAS (zA5 n) 8))).ref,I 0]) ([]) rfl rfl))))))))))))))))))))))))))))))))
 rw [he] at k0;cases k0
theorem f90_2 (n:Nw) (cs:List (Int×Int)) (e:Int) (hs:Small n) (hl:cs.length<1000000) (ho:¬ zB7 n cs e=0):FG 90 [nwV n,prs cs,I e] (.tup [.nilp,I (zB7 n cs e)]):=by
 by_cases he:zBw n cs=0
 ·have hc:=zQQ he
  refine zAf Tryz.f90 ?_
  refine zAb (zAa (zAd 3 (zAc (zAb (zAa (zAd 2 (S_a [(8,.ret (PV.tup [zDQ n cs,I 0]) ([]))] (ap (f99_1 (n) (cs) (by omega)) an) (zAd 5 (zAc (zAb (zAb (zAa (zAd 4 (S_a [(10,.ret (PV.bool (inB e 0 12)) ([]))] (ap (f107 (e) (0) (12)) an) (zAd 2 (zAc (zD4 (!inB e 0 12) (fun k0=>(zAa (zAd 1 (zAc (zAb (zAb (zAa (zAd 2 (zAc (zBT (zAb (zAa (zAd 3 (zAc (zAl (E_a [] an (PV.tup [PV.nilp,I 3]) ([]) ?_ rfl)))))))))))))))) (fun k0=>(zAi (zAb (zAb (zAa (zAd 2 (zAc (zAU (zAi (zAb (zAa (zAd 3 (zAc (zAl (E_a [] an (PV.tup [(PV.agg (I n.h::PV.sl (List.map prV n.l)::PV.sl (List.map ntV n.n)::PV.sl (List.map zAY n.s)::PV.sl (List.map prV cs)::PV.map (List.map zBy (List.map pr2 n.l))::(zAS (zAk n) 8++zAS (zA5 n) 8))).ref,I 0]) ([]) ?_ rfl))))))))))))))))))))))))))))))))
  ·rw [Bool.not_eq_true'] at k0
   simp only [zB7,he,k0,if_true];try rfl
  ·rw [Bool.not_eq_false'] at k0
   exact absurd (by simp only [zB7,he,k0,if_true]) ho
 ·refine zAf Tryz.f90 ?_
  refine zAb (zAa (zAd 3 (zAc (zAb (zAa (zAd 2 (S_a [(8,.ret (PV.tup [PV.nilp,I (zBw n cs)]) ([]))] (ap (f99_2 (n) (cs) (by omega) (by omega) (by omega)) an) (zAd 5 (zAc (zAb (zAb (zAa (zAd 3 (zUx 18 (zBw n cs=0) (by omega) (zAd 4 (zAc (zAU (zAi (zAb (zAb (zAa (zAd 2 (zAc (zCj (zBw n cs=0) (by omega) (zAb (zAa (zAd 3 (zAc (zAl (E_a [] an (PV.tup [PV.nilp,I (zBw n cs)]) ([]) ?_ rfl))))))))))))))))))))))))))))))
  simp only [zB7,he,if_false]
theorem f140 (n:Nw) (cp:PV) (M:List (Int×Int)) (F L:List Int) (ho:NwOk n) (h:Int) (s:Int) (hs:0≤s∧s<n.s.length):FG 140 [.ref (zCw n cp (mapM M) F L),I h,I s] (.bool (has (n.s.getD s.toNat []) h)):=by
 have h1:=zBC (d:=[]) ho.rows s.toNat (by omega)
 refine zAf Tryz.f140 ?_
 refine zAb (zAa (zAd 1 (zAc (zAb (zAa (zAd 6 (S_a [(0,.ob),(1,.v (PV.sl (List.map I (n.s.getD s.toNat []))))] (ap ((by exact zAp (by omega)):decide (0≤s)=true) (ap (zBA ([]) (by omega):(List.map zAY n.s)[s.toNat]? = some (PV.sl (List.map I (n.s.getD s.toNat [])))) an)) (zAd 2 (S_a [(8,.ret (PV.bool (has (n.s.getD s.toNat []) h)) ([]))] (ap (f58 (n.s.getD s.toNat []) (h) (by omega)) an) (zAd 1 (zAc (zAl (E_a [] an (PV.bool (has (n.s.getD s.toNat []) h)) ([]) rfl rfl)))))))))))))
theorem f116 (n:Nw) (cs:List (Int×Int)) (h:Int):FG 116 [zDQ n cs,I h] (.func 169 [] [.ref (zDQ n cs),.ref (I h)]):=by
 refine zAf Tryz.f116 ?_
 refine zAb (zAa (zAd 3 (zAc (zAb (zAa (zAd 2 (zAc (zAl (E_a [] an (PV.func 169 [] [(PV.agg (I n.h::PV.sl (List.map prV n.l)::PV.sl (List.map ntV n.n)::PV.sl (List.map zAY n.s)::PV.sl (List.map prV cs)::PV.map (List.map zBy (List.map pr2 n.l))::(zAS (zAk n) 8++zAS (zA5 n) 8))).ref.ref,(I h).ref]) ([]) rfl rfl)))))))))
end
def zGi (n:Nw) (a b:Int):Bool:=decide (pr2 (a,b)∈n.l.map pr2)
def zGN (n:Nw) (h:Nat) (o:Nat):List Nat:=(List.range o).filter fun o=>zGi n h o
theorem zJV {n:Nw} {h o:Nat}:zGN n h (o+1)=if zGi n h o=true then zGN n h o++[o] else zGN n h o:=by
 unfold zGN;rw [List.range_succ,List.filter_append]
 by_cases hn:zGi n h o=true
 ·rw [if_pos hn];simp [hn]
 ·rw [if_neg hn];simp [hn]
theorem zTJ {n:Nw} {h t m:Nat} (ht:t≤m):zGN n h t <+: zGN n h m:=by
  induction ht with
  | refl=>exact List.prefix_refl _
  | step _ ih => rw [zJV];split
                 · exact ih.trans (List.prefix_append _ _)
                 · exact ih
theorem zUj {α:Type} {x y:List α} (h:x <+: y) {k:Int} (hk:k=x.length):x=y.take k.toNat:=by
 rw [hk,Int.toNat_natCast];exact List.prefix_iff_eq_take.1 h
abbrev zJE (n:Nw) (h o:Nat):List (List PV):=(zGN n h o).map fun (o:Nat)=>[I o]
abbrev zRo (n:Nw) (cs:List (Int×Int)) (h:Nat):List PV:=[.ref (zDQ n cs),.ref (I h)]
theorem zU8 [Yo] (n:Nw) (cs:List (Int×Int)) (h:Nat) (ho:NwOk n) (hh:(h:Int)<n.h) (k:Int) (hk:k = -1∨1≤k∧k≤(zGN n h n.h.toNat).length) (i:Nat):W Tryz.prog zKX 169 Tryz.f169.ntmps (Tryz.f169.body.getD .ret) (zA4 ([]++PV.yld i::zRo n cs h) []) (some ⟨[],k,i⟩) fun x _ lg=>(x = .norm∨x = .ret)∧lg.map (·.xs)=some (if k = -1 then zJE n h n.h.toNat else (zJE n h n.h.toNat).take k.toNat):=by
 have hb:=ho.h
 refine zAb (zAa (zAd 6 (zAc (zAh 0 ?_))))
 refine zVy (fun (o,xs,kc)=>o≤n.h.toNat∧xs=zJE n h o∧kc=k-xs.length∧(k = -1∨1≤kc)) (fun (o,_,_)=>[(10,I (o:Nat))]) (fun (_,xs,kc)=>some ⟨xs,kc,i⟩) (fun (o,_,_)=>n.h.toNat-o) ((0:Nat),([]:List (List PV)),k) ⟨Nat.zero_le _,rfl,by simp,by omega⟩ fun (o,xs,kc) ⟨hr,jX,hkc,jD⟩=>?_
 by_cases hol:(o:Int)<n.h
 ·have yR:=zJV (n:=n) (h:=h) (o:=o)
  by_cases hI:zGi n h o=true
  ·rw [if_pos hI] at yR
   have ga:pr2 ((h:Int),(o:Int))∈n.l.map pr2:=by simpa [zGi] using hI
   obtain ⟨j,hj,jK⟩:=zRA ga
   have jl:zJA ((n.l.map pr2).map zBy) j=some (.bool true):=by
    have:j<n.l.length:=by simpa using hj
    simp [zJA,this]
   have qT:xs++[[I o]]=zJE n h (o+1):=by rw [zJE,yR,List.map_append,jX];rfl
   have ue:xs++[[I o]] <+: zJE n h n.h.toNat:=by rw [qT];exact (zTJ (by omega)).map _
   refine zAb (zAa (zAd 1 (zAc (zAb (zAL ((↑o:Int)<n.h) (by omega) (zAi (zAb (zAh 1 (zAb (zAa (zAd 2 (zAc (zAb (zAa (zAd 7 (S_a [(6,.ret (prV (pr2 ((↑h:Int),(↑o:Int)))) ([]))] (ap (f110 (((↑h:Int),(↑o:Int)))) an) (S_a [(2,.ix (some j)),(0,.v (PV.bool true))] (ap (jK) (ap (jl:zJA (List.map zBy (List.map pr2 n.l)) j=some (PV.bool true)) an)) (zAd 3 ?_))))))))))))))))))
   refine zWi kc xs [I o] i (fun hk3=>?_) (fun hk3=>?_) (by omega)
   ·refine zAd 2 (zAc (zBT (zAl ?_)))
    refine ⟨.inr rfl,?_⟩
    have wV:k=(xs++[[I (o:Int)]]).length:=by simp;omega
    have jD:¬ k = -1:=by omega
    rw [if_neg jD,← zUj ue wV];show Option.map _ _=_;kernel_rfl
   ·refine zAd 2 (zAc (zAU (zAi (zAa (S_a [(1,.v (I (↑(o+1):Int)))] (ap (wrN o) an) (zAd 1 (zAc ?_)))))))
    exact ⟨(o+1,xs++[[I o]],kc-1),⟨by omega,qT,by simp;omega,by omega⟩,by simp only;omega,by kernel_rfl,by kernel_rfl⟩
  ·rw [if_neg hI] at yR
   have ga:pr2 ((h:Int),(o:Int))∉n.l.map pr2:=by simpa [zGi] using hI
   have jK:=zLF ga
   refine zAb (zAa (zAd 1 (zAc (zAb (zAL ((↑o:Int)<n.h) (by omega) (zAi (zAb (zAh 1 (zAb (zAa (zAd 2 (zAc (zAb (zAa (zAd 7 (S_a [(6,.ret (prV (pr2 ((↑h:Int),(↑o:Int)))) ([]))] (ap (f110 (((↑h:Int),(↑o:Int)))) an) (S_a [(2,.ix (none))] (ap (jK) an) (zAd 6 (zAc (zAU (zAi (zAa (S_a [(1,.v (I (↑(o+1):Int)))] (ap (wrN o) an) (zAd 1 (zAc ?_)))))))))))))))))))))))))
   exact ⟨(o+1,xs,kc),⟨by omega,by rw [zJE,yR];exact jX,hkc,jD⟩,by simp only;omega,by kernel_rfl,by kernel_rfl⟩
 ·have e:o=n.h.toNat:=by omega
  subst e
  have hX:xs.length=(zGN n h n.h.toNat).length:=by rw [jX];simp
  have jD:k = -1:=by omega
  refine zAb (zAa (zAd 1 (zAc (zAb (zAO ((↑n.h.toNat:Int)<n.h) (by omega) (zAv 0 ?_))))))
  refine ⟨.inl rfl,?_⟩
  rw [if_pos jD,← jX];show Option.map _ _=_;kernel_rfl
theorem zZy (n:Nw) (cs:List (Int×Int)) (h:Nat) (ho:NwOk n) (hh:(h:Int)<n.h) (k:Int) (hk:k = -1∨1≤k∧k≤(zGN n h n.h.toNat).length):@zTV (yo1 Tryz.prog zKX) 169 [] (zRo n cs h) k (if k = -1 then zJE n h n.h.toNat else (zJE n h n.h.toNat).take k.toNat) :=
 zUf Tryz.f169 (fun i=>@zU8 yo0 n cs h ho hh k hk i) (by omega)
noncomputable instance nwYo:Yo:=yo1 Tryz.prog zKX
theorem zUL (n:Nw) (cs:List (Int×Int)) (h:Nat) (ho:NwOk n) (hh:(h:Int)<n.h):zF9 169 [] (zRo n cs h) (zJE n h n.h.toNat):=by
 refine ⟨?_,fun j h1 h2=>?_⟩
 ·have:=zZy n cs h ho hh (-1) (.inl rfl)
  rwa [if_pos rfl] at this
 ·have:=zZy n cs h ho hh (j:Int) (.inr ⟨by omega,by simpa using h2⟩)
  rw [if_neg (by omega)] at this
  exact this
end Go.Eng
