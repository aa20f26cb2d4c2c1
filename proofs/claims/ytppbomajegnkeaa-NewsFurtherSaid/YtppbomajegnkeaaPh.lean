/- For whatever bytes, the law NewsFurther returns true and changes no argument: with a zEP cry of the last notice of a chain no j9 is left that was not, and the gaps that any cry mends are those that are there no more with it. -/
import Derived.Test.YtppbomajegnkeaaPg
import Derived.Test.YtppbomajegnkeaaPd
import Derived.Test.YtppbomajegnkeaaPe
set_option linter.unusedVariables false
set_option linter.unusedSimpArgs false
set_option linter.unusedSectionVars false
set_option maxRecDepth 10000
set_option maxHeartbeats 4000000
namespace Go.Eng
open Go Go.Proofs
theorem zTH {n:Nw} {cs:List (Int×Int)} {c:Int×Int} (h:CrW n cs) (hl:cs.length<1000) (hc:(0≤c.1∧c.1<n.n.length)∧(0≤c.2∧c.2<n.s.length)):CrW n (cs++[c]) :=
 ⟨h.nw,by simp;omega,fun x hx=>by
  rcases List.mem_append.1 hx with h1 | h1
  ·exact h.cs x h1
  ·rw [List.mem_singleton] at h1;subst h1;exact hc⟩
theorem zXx (n:Nw) (c:Int×Int):FG 86 [zDO n [],prV c] (.box (zCI n (.own 2 (([]++[c]).map prV)) (mapM (n.l.map pr2)) (zAj n) (zAZ n))):=by
 refine zAf Try.f86 ?_
 refine zAd 2<|zAa<|zAd 5<|zAa<|zAd 4<|zAc 1<|zAc 4<|zAc 1<|zAc 1<|zAc 3<|zAa<|zAd 1<|zAc 1<|zAc 4<|zAc 1<|zAa<|zAd 1<|zAc 1<|zAc 5<|zAa<|zAd 1<|zAa<|zAn<|E_a [] an ((PV.agg (I n.h::prs n.l::PV.sl (List.map ntV n.n)::PV.sl (List.map zBp n.s)::PV.own 2 [PV.agg [I c.fst,I c.snd]]::PV.map (List.map zBE (List.map pr2 n.l))::(zAt (zAj n) 8++zAt (zAZ n) 8))).box) [] rfl rfl
theorem zXa (n:Nw) (c:Int×Int) (x0:Int×Int):FG 86 [zDO n [x0],prV c] (.box (zCI n (.own 2 (([x0]++[c]).map prV)) (mapM (n.l.map pr2)) (zAj n) (zAZ n))):=by
 refine zAf Try.f86 ?_
 refine zAd 2<|zAa<|zAd 5<|zAa<|zAd 4<|zAc 1<|zAc 4<|zAc 1<|zAc 1<|zAc 3<|zAa<|zAd 1<|zAc 1<|zAc 4<|zAc 1<|zAa<|zAd 1<|zAc 1<|zAc 5<|zAa<|zAd 1<|zAa<|zAn<|E_a [] an ((PV.agg (I n.h::prs n.l::PV.sl (List.map ntV n.n)::PV.sl (List.map zBp n.s)::PV.own 2 [PV.agg [I x0.fst,I x0.snd],PV.agg [I c.fst,I c.snd]]::PV.map (List.map zBE (List.map pr2 n.l))::(zAt (zAj n) 8++zAt (zAZ n) 8))).box) [] rfl rfl
theorem zXd (n:Nw) (c:Int×Int) (x0 x1:Int×Int):FG 86 [zDO n [x0,x1],prV c] (.box (zCI n (.own 2 (([x0,x1]++[c]).map prV)) (mapM (n.l.map pr2)) (zAj n) (zAZ n))):=by
 refine zAf Try.f86 ?_
 refine zAd 2<|zAa<|zAd 5<|zAa<|zAd 4<|zAc 1<|zAc 4<|zAc 1<|zAc 1<|zAc 3<|zAa<|zAd 1<|zAc 1<|zAc 4<|zAc 1<|zAa<|zAd 1<|zAc 1<|zAc 5<|zAa<|zAd 1<|zAa<|zAn<|E_a [] an ((PV.agg (I n.h::prs n.l::PV.sl (List.map ntV n.n)::PV.sl (List.map zBp n.s)::PV.own 2 [PV.agg [I x0.fst,I x0.snd],PV.agg [I x1.fst,I x1.snd],PV.agg [I c.fst,I c.snd]]::PV.map (List.map zBE (List.map pr2 n.l))::(zAt (zAj n) 8++zAt (zAZ n) 8))).box) [] rfl rfl
theorem zXk (n:Nw) (c:Int×Int) (x0 x1 x2:Int×Int):FG 86 [zDO n [x0,x1,x2],prV c] (.box (zCI n (.own 2 (([x0,x1,x2]++[c]).map prV)) (mapM (n.l.map pr2)) (zAj n) (zAZ n))):=by
 refine zAf Try.f86 ?_
 refine zAd 2<|zAa<|zAd 5<|zAa<|zAd 4<|zAc 1<|zAc 4<|zAc 1<|zAc 1<|zAc 3<|zAa<|zAd 1<|zAc 1<|zAc 4<|zAc 1<|zAa<|zAd 1<|zAc 1<|zAc 5<|zAa<|zAd 1<|zAa<|zAn<|E_a [] an ((PV.agg (I n.h::prs n.l::PV.sl (List.map ntV n.n)::PV.sl (List.map zBp n.s)::PV.own 2 [PV.agg [I x0.fst,I x0.snd],PV.agg [I x1.fst,I x1.snd],PV.agg [I x2.fst,I x2.snd],PV.agg [I c.fst,I c.snd]]::PV.map (List.map zBE (List.map pr2 n.l))::(zAt (zAj n) 8++zAt (zAZ n) 8))).box) [] rfl rfl
theorem zXn (n:Nw) (c:Int×Int) (x0 x1 x2 x3:Int×Int):FG 86 [zDO n [x0,x1,x2,x3],prV c] (.box (zCI n (.own 2 (([x0,x1,x2,x3]++[c]).map prV)) (mapM (n.l.map pr2)) (zAj n) (zAZ n))):=by
 refine zAf Try.f86 ?_
 refine zAd 2<|zAa<|zAd 5<|zAa<|zAd 4<|zAc 1<|zAc 4<|zAc 1<|zAc 1<|zAc 3<|zAa<|zAd 1<|zAc 1<|zAc 4<|zAc 1<|zAa<|zAd 1<|zAc 1<|zAc 5<|zAa<|zAd 1<|zAa<|zAn<|E_a [] an ((PV.agg (I n.h::prs n.l::PV.sl (List.map ntV n.n)::PV.sl (List.map zBp n.s)::PV.own 2 [PV.agg [I x0.fst,I x0.snd],PV.agg [I x1.fst,I x1.snd],PV.agg [I x2.fst,I x2.snd],PV.agg [I x3.fst,I x3.snd],PV.agg [I c.fst,I c.snd]]::PV.map (List.map zBE (List.map pr2 n.l))::(zAt (zAj n) 8++zAt (zAZ n) 8))).box) [] rfl rfl
theorem zXp (n:Nw) (c:Int×Int) (x0 x1 x2 x3 x4:Int×Int):FG 86 [zDO n [x0,x1,x2,x3,x4],prV c] (.box (zCI n (.own 2 (([x0,x1,x2,x3,x4]++[c]).map prV)) (mapM (n.l.map pr2)) (zAj n) (zAZ n))):=by
 refine zAf Try.f86 ?_
 refine zAd 2<|zAa<|zAd 5<|zAa<|zAd 4<|zAc 1<|zAc 4<|zAc 1<|zAc 1<|zAc 3<|zAa<|zAd 1<|zAc 1<|zAc 4<|zAc 1<|zAa<|zAd 1<|zAc 1<|zAc 5<|zAa<|zAd 1<|zAa<|zAn<|E_a [] an ((PV.agg (I n.h::prs n.l::PV.sl (List.map ntV n.n)::PV.sl (List.map zBp n.s)::PV.own 2 [PV.agg [I x0.fst,I x0.snd],PV.agg [I x1.fst,I x1.snd],PV.agg [I x2.fst,I x2.snd],PV.agg [I x3.fst,I x3.snd],PV.agg [I x4.fst,I x4.snd],PV.agg [I c.fst,I c.snd]]::PV.map (List.map zBE (List.map pr2 n.l))::(zAt (zAj n) 8++zAt (zAZ n) 8))).box) [] rfl rfl
theorem zXg (n:Nw) (c:Int×Int) (x0 x1 x2 x3 x4 x5:Int×Int):FG 86 [zDO n [x0,x1,x2,x3,x4,x5],prV c] (.box (zCI n (.own 2 (([x0,x1,x2,x3,x4,x5]++[c]).map prV)) (mapM (n.l.map pr2)) (zAj n) (zAZ n))):=by
 refine zAf Try.f86 ?_
 refine zAd 2<|zAa<|zAd 5<|zAa<|zAd 4<|zAc 1<|zAc 4<|zAc 1<|zAc 1<|zAc 3<|zAa<|zAd 1<|zAc 1<|zAc 4<|zAc 1<|zAa<|zAd 1<|zAc 1<|zAc 5<|zAa<|zAd 1<|zAa<|zAn<|E_a [] an ((PV.agg (I n.h::prs n.l::PV.sl (List.map ntV n.n)::PV.sl (List.map zBp n.s)::PV.own 2 [PV.agg [I x0.fst,I x0.snd],PV.agg [I x1.fst,I x1.snd],PV.agg [I x2.fst,I x2.snd],PV.agg [I x3.fst,I x3.snd],PV.agg [I x4.fst,I x4.snd],PV.agg [I x5.fst,I x5.snd],PV.agg [I c.fst,I c.snd]]::PV.map (List.map zBE (List.map pr2 n.l))::(zAt (zAj n) 8++zAt (zAZ n) 8))).box) [] rfl rfl
theorem zW1 (n:Nw) (c:Int×Int) (x0 x1 x2 x3 x4 x5 x6:Int×Int):FG 86 [zDO n [x0,x1,x2,x3,x4,x5,x6],prV c] (.box (zCI n (.own 2 (([x0,x1,x2,x3,x4,x5,x6]++[c]).map prV)) (mapM (n.l.map pr2)) (zAj n) (zAZ n))):=by
 refine zAf Try.f86 ?_
 refine zAd 2<|zAa<|zAd 5<|zAa<|zAd 4<|zAc 1<|zAc 4<|zAc 1<|zAc 1<|zAc 3<|zAa<|zAd 1<|zAc 1<|zAc 4<|zAc 1<|zAa<|zAd 1<|zAc 1<|zAc 5<|zAa<|zAd 1<|zAa<|zAn<|E_a [] an ((PV.agg (I n.h::prs n.l::PV.sl (List.map ntV n.n)::PV.sl (List.map zBp n.s)::PV.own 2 [PV.agg [I x0.fst,I x0.snd],PV.agg [I x1.fst,I x1.snd],PV.agg [I x2.fst,I x2.snd],PV.agg [I x3.fst,I x3.snd],PV.agg [I x4.fst,I x4.snd],PV.agg [I x5.fst,I x5.snd],PV.agg [I x6.fst,I x6.snd],PV.agg [I c.fst,I c.snd]]::PV.map (List.map zBE (List.map pr2 n.l))::(zAt (zAj n) 8++zAt (zAZ n) 8))).box) [] rfl rfl
theorem zXz (n:Nw) (c:Int×Int) (x0 x1 x2 x3 x4 x5 x6 x7:Int×Int):FG 86 [zDO n [x0,x1,x2,x3,x4,x5,x6,x7],prV c] (.box (zCI n (.own 2 (([x0,x1,x2,x3,x4,x5,x6,x7]++[c]).map prV)) (mapM (n.l.map pr2)) (zAj n) (zAZ n))):=by
 refine zAf Try.f86 ?_
 refine zAd 2<|zAa<|zAd 5<|zAa<|zAd 4<|zAc 1<|zAc 4<|zAc 1<|zAc 1<|zAc 3<|zAa<|zAd 1<|zAc 1<|zAc 4<|zAc 1<|zAa<|zAd 1<|zAc 1<|zAc 5<|zAa<|zAd 1<|zAa<|zAn<|E_a [] an ((PV.agg (I n.h::prs n.l::PV.sl (List.map ntV n.n)::PV.sl (List.map zBp n.s)::PV.own 2 [PV.agg [I x0.fst,I x0.snd],PV.agg [I x1.fst,I x1.snd],PV.agg [I x2.fst,I x2.snd],PV.agg [I x3.fst,I x3.snd],PV.agg [I x4.fst,I x4.snd],PV.agg [I x5.fst,I x5.snd],PV.agg [I x6.fst,I x6.snd],PV.agg [I x7.fst,I x7.snd],PV.agg [I c.fst,I c.snd]]::PV.map (List.map zBE (List.map pr2 n.l))::(zAt (zAj n) 8++zAt (zAZ n) 8))).box) [] rfl rfl
theorem zXb (n:Nw) (c:Int×Int) (x0 x1 x2 x3 x4 x5 x6 x7 x8:Int×Int):FG 86 [zDO n [x0,x1,x2,x3,x4,x5,x6,x7,x8],prV c] (.box (zCI n (.own 2 (([x0,x1,x2,x3,x4,x5,x6,x7,x8]++[c]).map prV)) (mapM (n.l.map pr2)) (zAj n) (zAZ n))):=by
 refine zAf Try.f86 ?_
 refine zAd 2<|zAa<|zAd 5<|zAa<|zAd 4<|zAc 1<|zAc 4<|zAc 1<|zAc 1<|zAc 3<|zAa<|zAd 1<|zAc 1<|zAc 4<|zAc 1<|zAa<|zAd 1<|zAc 1<|zAc 5<|zAa<|zAd 1<|zAa<|zAn<|E_a [] an ((PV.agg (I n.h::prs n.l::PV.sl (List.map ntV n.n)::PV.sl (List.map zBp n.s)::PV.own 2 [PV.agg [I x0.fst,I x0.snd],PV.agg [I x1.fst,I x1.snd],PV.agg [I x2.fst,I x2.snd],PV.agg [I x3.fst,I x3.snd],PV.agg [I x4.fst,I x4.snd],PV.agg [I x5.fst,I x5.snd],PV.agg [I x6.fst,I x6.snd],PV.agg [I x7.fst,I x7.snd],PV.agg [I x8.fst,I x8.snd],PV.agg [I c.fst,I c.snd]]::PV.map (List.map zBE (List.map pr2 n.l))::(zAt (zAj n) 8++zAt (zAZ n) 8))).box) [] rfl rfl
theorem zVY (n:Nw) (c:Int×Int) (x0 x1 x2 x3 x4 x5 x6 x7 x8 x9:Int×Int):FG 86 [zDO n [x0,x1,x2,x3,x4,x5,x6,x7,x8,x9],prV c] (.box (zCI n (.own 2 (([x0,x1,x2,x3,x4,x5,x6,x7,x8,x9]++[c]).map prV)) (mapM (n.l.map pr2)) (zAj n) (zAZ n))):=by
 refine zAf Try.f86 ?_
 refine zAd 2<|zAa<|zAd 5<|zAa<|zAd 4<|zAc 1<|zAc 4<|zAc 1<|zAc 1<|zAc 3<|zAa<|zAd 1<|zAc 1<|zAc 4<|zAc 1<|zAa<|zAd 1<|zAc 1<|zAc 5<|zAa<|zAd 1<|zAa<|zAn<|E_a [] an ((PV.agg (I n.h::prs n.l::PV.sl (List.map ntV n.n)::PV.sl (List.map zBp n.s)::PV.own 2 [PV.agg [I x0.fst,I x0.snd],PV.agg [I x1.fst,I x1.snd],PV.agg [I x2.fst,I x2.snd],PV.agg [I x3.fst,I x3.snd],PV.agg [I x4.fst,I x4.snd],PV.agg [I x5.fst,I x5.snd],PV.agg [I x6.fst,I x6.snd],PV.agg [I x7.fst,I x7.snd],PV.agg [I x8.fst,I x8.snd],PV.agg [I x9.fst,I x9.snd],PV.agg [I c.fst,I c.snd]]::PV.map (List.map zBE (List.map pr2 n.l))::(zAt (zAj n) 8++zAt (zAZ n) 8))).box) [] rfl rfl
theorem zVH (n:Nw) (c:Int×Int) (x0 x1 x2 x3 x4 x5 x6 x7 x8 x9 x10:Int×Int):FG 86 [zDO n [x0,x1,x2,x3,x4,x5,x6,x7,x8,x9,x10],prV c] (.box (zCI n (.own 2 (([x0,x1,x2,x3,x4,x5,x6,x7,x8,x9,x10]++[c]).map prV)) (mapM (n.l.map pr2)) (zAj n) (zAZ n))):=by
 refine zAf Try.f86 ?_
 refine zAd 2<|zAa<|zAd 5<|zAa<|zAd 4<|zAc 1<|zAc 4<|zAc 1<|zAc 1<|zAc 3<|zAa<|zAd 1<|zAc 1<|zAc 4<|zAc 1<|zAa<|zAd 1<|zAc 1<|zAc 5<|zAa<|zAd 1<|zAa<|zAn<|E_a [] an ((PV.agg (I n.h::prs n.l::PV.sl (List.map ntV n.n)::PV.sl (List.map zBp n.s)::PV.own 2 [PV.agg [I x0.fst,I x0.snd],PV.agg [I x1.fst,I x1.snd],PV.agg [I x2.fst,I x2.snd],PV.agg [I x3.fst,I x3.snd],PV.agg [I x4.fst,I x4.snd],PV.agg [I x5.fst,I x5.snd],PV.agg [I x6.fst,I x6.snd],PV.agg [I x7.fst,I x7.snd],PV.agg [I x8.fst,I x8.snd],PV.agg [I x9.fst,I x9.snd],PV.agg [I x10.fst,I x10.snd],PV.agg [I c.fst,I c.snd]]::PV.map (List.map zBE (List.map pr2 n.l))::(zAt (zAj n) 8++zAt (zAZ n) 8))).box) [] rfl rfl
theorem zWj (n:Nw) (c:Int×Int) (x0 x1 x2 x3 x4 x5 x6 x7 x8 x9 x10 x11:Int×Int):FG 86 [zDO n [x0,x1,x2,x3,x4,x5,x6,x7,x8,x9,x10,x11],prV c] (.box (zCI n (.own 2 (([x0,x1,x2,x3,x4,x5,x6,x7,x8,x9,x10,x11]++[c]).map prV)) (mapM (n.l.map pr2)) (zAj n) (zAZ n))):=by
 refine zAf Try.f86 ?_
 refine zAd 2<|zAa<|zAd 5<|zAa<|zAd 4<|zAc 1<|zAc 4<|zAc 1<|zAc 1<|zAc 3<|zAa<|zAd 1<|zAc 1<|zAc 4<|zAc 1<|zAa<|zAd 1<|zAc 1<|zAc 5<|zAa<|zAd 1<|zAa<|zAn<|E_a [] an ((PV.agg (I n.h::prs n.l::PV.sl (List.map ntV n.n)::PV.sl (List.map zBp n.s)::PV.own 2 [PV.agg [I x0.fst,I x0.snd],PV.agg [I x1.fst,I x1.snd],PV.agg [I x2.fst,I x2.snd],PV.agg [I x3.fst,I x3.snd],PV.agg [I x4.fst,I x4.snd],PV.agg [I x5.fst,I x5.snd],PV.agg [I x6.fst,I x6.snd],PV.agg [I x7.fst,I x7.snd],PV.agg [I x8.fst,I x8.snd],PV.agg [I x9.fst,I x9.snd],PV.agg [I x10.fst,I x10.snd],PV.agg [I x11.fst,I x11.snd],PV.agg [I c.fst,I c.snd]]::PV.map (List.map zBE (List.map pr2 n.l))::(zAt (zAj n) 8++zAt (zAZ n) 8))).box) [] rfl rfl
theorem zWt (n:Nw) (c:Int×Int) (x0 x1 x2 x3 x4 x5 x6 x7 x8 x9 x10 x11 x12:Int×Int):FG 86 [zDO n [x0,x1,x2,x3,x4,x5,x6,x7,x8,x9,x10,x11,x12],prV c] (.box (zCI n (.own 2 (([x0,x1,x2,x3,x4,x5,x6,x7,x8,x9,x10,x11,x12]++[c]).map prV)) (mapM (n.l.map pr2)) (zAj n) (zAZ n))):=by
 refine zAf Try.f86 ?_
 refine zAd 2<|zAa<|zAd 5<|zAa<|zAd 4<|zAc 1<|zAc 4<|zAc 1<|zAc 1<|zAc 3<|zAa<|zAd 1<|zAc 1<|zAc 4<|zAc 1<|zAa<|zAd 1<|zAc 1<|zAc 5<|zAa<|zAd 1<|zAa<|zAn<|E_a [] an ((PV.agg (I n.h::prs n.l::PV.sl (List.map ntV n.n)::PV.sl (List.map zBp n.s)::PV.own 2 [PV.agg [I x0.fst,I x0.snd],PV.agg [I x1.fst,I x1.snd],PV.agg [I x2.fst,I x2.snd],PV.agg [I x3.fst,I x3.snd],PV.agg [I x4.fst,I x4.snd],PV.agg [I x5.fst,I x5.snd],PV.agg [I x6.fst,I x6.snd],PV.agg [I x7.fst,I x7.snd],PV.agg [I x8.fst,I x8.snd],PV.agg [I x9.fst,I x9.snd],PV.agg [I x10.fst,I x10.snd],PV.agg [I x11.fst,I x11.snd],PV.agg [I x12.fst,I x12.snd],PV.agg [I c.fst,I c.snd]]::PV.map (List.map zBE (List.map pr2 n.l))::(zAt (zAj n) 8++zAt (zAZ n) 8))).box) [] rfl rfl
theorem zWu (n:Nw) (c:Int×Int) (x0 x1 x2 x3 x4 x5 x6 x7 x8 x9 x10 x11 x12 x13:Int×Int):FG 86 [zDO n [x0,x1,x2,x3,x4,x5,x6,x7,x8,x9,x10,x11,x12,x13],prV c] (.box (zCI n (.own 2 (([x0,x1,x2,x3,x4,x5,x6,x7,x8,x9,x10,x11,x12,x13]++[c]).map prV)) (mapM (n.l.map pr2)) (zAj n) (zAZ n))):=by
 refine zAf Try.f86 ?_
 refine zAd 2<|zAa<|zAd 5<|zAa<|zAd 4<|zAc 1<|zAc 4<|zAc 1<|zAc 1<|zAc 3<|zAa<|zAd 1<|zAc 1<|zAc 4<|zAc 1<|zAa<|zAd 1<|zAc 1<|zAc 5<|zAa<|zAd 1<|zAa<|zAn<|E_a [] an ((PV.agg (I n.h::prs n.l::PV.sl (List.map ntV n.n)::PV.sl (List.map zBp n.s)::PV.own 2 [PV.agg [I x0.fst,I x0.snd],PV.agg [I x1.fst,I x1.snd],PV.agg [I x2.fst,I x2.snd],PV.agg [I x3.fst,I x3.snd],PV.agg [I x4.fst,I x4.snd],PV.agg [I x5.fst,I x5.snd],PV.agg [I x6.fst,I x6.snd],PV.agg [I x7.fst,I x7.snd],PV.agg [I x8.fst,I x8.snd],PV.agg [I x9.fst,I x9.snd],PV.agg [I x10.fst,I x10.snd],PV.agg [I x11.fst,I x11.snd],PV.agg [I x12.fst,I x12.snd],PV.agg [I x13.fst,I x13.snd],PV.agg [I c.fst,I c.snd]]::PV.map (List.map zBE (List.map pr2 n.l))::(zAt (zAj n) 8++zAt (zAZ n) 8))).box) [] rfl rfl
theorem zVI (n:Nw) (c:Int×Int) (x0 x1 x2 x3 x4 x5 x6 x7 x8 x9 x10 x11 x12 x13 x14:Int×Int):FG 86 [zDO n [x0,x1,x2,x3,x4,x5,x6,x7,x8,x9,x10,x11,x12,x13,x14],prV c] (.box (zCI n (.own 2 (([x0,x1,x2,x3,x4,x5,x6,x7,x8,x9,x10,x11,x12,x13,x14]++[c]).map prV)) (mapM (n.l.map pr2)) (zAj n) (zAZ n))):=by
 refine zAf Try.f86 ?_
 refine zAd 2<|zAa<|zAd 5<|zAa<|zAd 4<|zAc 1<|zAc 4<|zAc 1<|zAc 1<|zAc 3<|zAa<|zAd 1<|zAc 1<|zAc 4<|zAc 1<|zAa<|zAd 1<|zAc 1<|zAc 5<|zAa<|zAd 1<|zAa<|zAn<|E_a [] an ((PV.agg (I n.h::prs n.l::PV.sl (List.map ntV n.n)::PV.sl (List.map zBp n.s)::PV.own 2 [PV.agg [I x0.fst,I x0.snd],PV.agg [I x1.fst,I x1.snd],PV.agg [I x2.fst,I x2.snd],PV.agg [I x3.fst,I x3.snd],PV.agg [I x4.fst,I x4.snd],PV.agg [I x5.fst,I x5.snd],PV.agg [I x6.fst,I x6.snd],PV.agg [I x7.fst,I x7.snd],PV.agg [I x8.fst,I x8.snd],PV.agg [I x9.fst,I x9.snd],PV.agg [I x10.fst,I x10.snd],PV.agg [I x11.fst,I x11.snd],PV.agg [I x12.fst,I x12.snd],PV.agg [I x13.fst,I x13.snd],PV.agg [I x14.fst,I x14.snd],PV.agg [I c.fst,I c.snd]]::PV.map (List.map zBE (List.map pr2 n.l))::(zAt (zAj n) 8++zAt (zAZ n) 8))).box) [] rfl rfl
theorem zVD (n:Nw) (c:Int×Int) (x0 x1 x2 x3 x4 x5 x6 x7 x8 x9 x10 x11 x12 x13 x14 x15:Int×Int):FG 86 [zDO n [x0,x1,x2,x3,x4,x5,x6,x7,x8,x9,x10,x11,x12,x13,x14,x15],prV c] (.box (zCI n (.own 2 (([x0,x1,x2,x3,x4,x5,x6,x7,x8,x9,x10,x11,x12,x13,x14,x15]++[c]).map prV)) (mapM (n.l.map pr2)) (zAj n) (zAZ n))):=by
 refine zAf Try.f86 ?_
 refine zAd 2<|zAa<|zAd 5<|zAa<|zAd 4<|zAc 1<|zAc 4<|zAc 1<|zAc 1<|zAc 3<|zAa<|zAd 1<|zAc 1<|zAc 4<|zAc 1<|zAa<|zAd 1<|zAc 1<|zAc 5<|zAa<|zAd 1<|zAa<|zAn<|E_a [] an ((PV.agg (I n.h::prs n.l::PV.sl (List.map ntV n.n)::PV.sl (List.map zBp n.s)::PV.own 2 [PV.agg [I x0.fst,I x0.snd],PV.agg [I x1.fst,I x1.snd],PV.agg [I x2.fst,I x2.snd],PV.agg [I x3.fst,I x3.snd],PV.agg [I x4.fst,I x4.snd],PV.agg [I x5.fst,I x5.snd],PV.agg [I x6.fst,I x6.snd],PV.agg [I x7.fst,I x7.snd],PV.agg [I x8.fst,I x8.snd],PV.agg [I x9.fst,I x9.snd],PV.agg [I x10.fst,I x10.snd],PV.agg [I x11.fst,I x11.snd],PV.agg [I x12.fst,I x12.snd],PV.agg [I x13.fst,I x13.snd],PV.agg [I x14.fst,I x14.snd],PV.agg [I x15.fst,I x15.snd],PV.agg [I c.fst,I c.snd]]::PV.map (List.map zBE (List.map pr2 n.l))::(zAt (zAj n) 8++zAt (zAZ n) 8))).box) [] rfl rfl
theorem f86 (n:Nw) (cs:List (Int×Int)) (c:Int×Int) (hl:cs.length≤16):FG 86 [zDO n cs,prV c] (.box (zCI n (.own 2 ((cs++[c]).map prV)) (mapM (n.l.map pr2)) (zAj n) (zAZ n))):=by
 match cs,hl with
 | [],_=>exact zXx n c 
 | [x0],_=>exact zXa n c x0
 | [x0,x1],_=>exact zXd n c x0 x1
 | [x0,x1,x2],_=>exact zXk n c x0 x1 x2
 | [x0,x1,x2,x3],_=>exact zXn n c x0 x1 x2 x3
 | [x0,x1,x2,x3,x4],_=>exact zXp n c x0 x1 x2 x3 x4
 | [x0,x1,x2,x3,x4,x5],_=>exact zXg n c x0 x1 x2 x3 x4 x5
 | [x0,x1,x2,x3,x4,x5,x6],_=>exact zW1 n c x0 x1 x2 x3 x4 x5 x6
 | [x0,x1,x2,x3,x4,x5,x6,x7],_=>exact zXz n c x0 x1 x2 x3 x4 x5 x6 x7
 | [x0,x1,x2,x3,x4,x5,x6,x7,x8],_=>exact zXb n c x0 x1 x2 x3 x4 x5 x6 x7 x8
 | [x0,x1,x2,x3,x4,x5,x6,x7,x8,x9],_=>exact zVY n c x0 x1 x2 x3 x4 x5 x6 x7 x8 x9
 | [x0,x1,x2,x3,x4,x5,x6,x7,x8,x9,x10],_=>exact zVH n c x0 x1 x2 x3 x4 x5 x6 x7 x8 x9 x10
 | [x0,x1,x2,x3,x4,x5,x6,x7,x8,x9,x10,x11],_=>exact zWj n c x0 x1 x2 x3 x4 x5 x6 x7 x8 x9 x10 x11
 | [x0,x1,x2,x3,x4,x5,x6,x7,x8,x9,x10,x11,x12],_=>exact zWt n c x0 x1 x2 x3 x4 x5 x6 x7 x8 x9 x10 x11 x12
 | [x0,x1,x2,x3,x4,x5,x6,x7,x8,x9,x10,x11,x12,x13],_=>exact zWu n c x0 x1 x2 x3 x4 x5 x6 x7 x8 x9 x10 x11 x12 x13
 | [x0,x1,x2,x3,x4,x5,x6,x7,x8,x9,x10,x11,x12,x13,x14],_=>exact zVI n c x0 x1 x2 x3 x4 x5 x6 x7 x8 x9 x10 x11 x12 x13 x14
 | [x0,x1,x2,x3,x4,x5,x6,x7,x8,x9,x10,x11,x12,x13,x14,x15],_=>exact zVD n c x0 x1 x2 x3 x4 x5 x6 x7 x8 x9 x10 x11 x12 x13 x14 x15
 | _::_::_::_::_::_::_::_::_::_::_::_::_::_::_::_::_::_,h=>simp at h
def zUG (n:Nw) (w:List Int) (g:Int×Int):Bool:=decide (w.getD (g.1.toNat*8+((zAj n).getD g.2.toNat 0).toNat) 0≠g.2)
def zES (n:Nw) (w:List Int) (l:List (Int×Int)):List (Int×Int):=l.filter (zUG n w)
theorem zSz {n:Nw} {w:List Int} {l:List (Int×Int)} {i:Nat} (hi:i<l.length):zES n w (l.take (i+1))=if zUG n w (l.getD i default)=true then zES n w (l.take i)++[l.getD i default] else zES n w (l.take i):=by
 unfold zES;rw [zDk (d:=default) hi,List.filter_append]
 split
 ·rw [List.filter_cons_of_pos (by assumption)];rfl
 ·rw [List.filter_cons_of_neg (by assumption)];simp
theorem f45 (n:Nw) (cs l:List (Int×Int)) (e:Int) (c:Int×Int) (ho:CrW n cs) (hl:cs.length≤16) (he:0≤e∧e≤1000) (gW:l.length≤1000) (hm:∀ g∈l,(0≤g.1∧g.1<n.h)∧(0≤g.2∧g.2<n.n.length)) (hc:(0≤c.1∧c.1<n.n.length)∧(0≤c.2∧c.2<n.s.length)):FG 45 [zDO n cs,prs l,I e,prV c] (.own 2 ((zES n (zAU n (cs++[c]) e.toNat) l).map prV)):=by
 have hw:=zTH ho (by omega) hc
 have hb:=ho.nw.h
 have hn:=ho.nw
 have wD:=hn.nl
 have LA:=zBT (n:=n) (cs:=cs++[c]) e.toNat
 have ha:=f43 n (cs++[c]) e hw he
 generalize zAU n (cs++[c]) e.toNat=w at *
 refine zAf Try.f45 ?_
 refine zAd 2<|zAa<|zAd 2<|S_a [(7,.ret ((zCI n (PV.own 2 (List.map prV (cs++[c]))) (mapM (List.map pr2 n.l)) (zAj n) (zAZ n)).box) [])] (ap (f86 n cs c (by omega)) an)<|zAc 1<|S_a [(7,.v (PV.agg (I n.h::prs n.l::PV.sl (List.map ntV n.n)::PV.sl (List.map zBp n.s)::prs (cs++[c])::PV.map (List.map zBE (List.map pr2 n.l))::(zAt (zAj n) 8++zAt (zAZ n) 8)))),(4,.ret (hdV w) [])] (ap ((by simp only [show zAz (List.map prV (cs++[c]))=List.map prV (cs++[c]) from (by first | exact zA7 _ | exact zBz _ | exact zBm _ | exact zBD (zBz _) | exact zBD (zBm _) | exact zEA (by simp [zC9]) (zA7 _))]):PV.agg (I n.h::prs n.l::PV.sl (List.map ntV n.n)::PV.sl (List.map zBp n.s)::PV.sl (zAz (List.map prV (cs++[c])))::PV.map (List.map zBE (List.map pr2 n.l))::(zAt (zAj n) 8++zAt (zAZ n) 8))=PV.agg (I n.h::prs n.l::PV.sl (List.map ntV n.n)::PV.sl (List.map zBp n.s)::prs (cs++[c])::PV.map (List.map zBE (List.map pr2 n.l))::(zAt (zAj n) 8++zAt (zAZ n) 8)))<|ap ha an)<|zAc 2<|zAa<|zAd 1<|zAa<|zAh<|zAd 1<|S_a [(0,.n l.length)] (ap (lnS prV l) an)<|zAc 1<|zAa<|zAk 0 ?_
 refine zAD (fun (i,q)=>i≤l.length∧q=zES n w (l.take i)) (fun (i,q)=>[(10,.own 2 (q.map prV)),(20,I (i:Nat))]) (fun (i,_)=>l.length-i) ((0:Nat),([]:List (Int×Int))) ⟨by omega,by simp [zES]⟩ fun (i,q) ⟨hi,hq⟩=>?_
 have qf:q.length≤i:=by
  rw [hq,zES];exact Nat.le_trans (List.length_filter_le _ _) (by rw [List.length_take];omega)
 by_cases yW:i<l.length
 ·have jC:=zSz (n:=n) (w:=w) yW
  rw [← hq] at jC
  obtain ⟨kH,qA⟩:=zCu (d:=default) hm i yW
  have hfb:=zCA hn (l.getD i default).2.toNat (by omega)
  clear hm ha hq
  refine zAd 1<|zAa<|zAh<|zBj ((↑i:Int)<(↑l.length:Int)) (by omega)<|zAl<|zAh<|zAk 1<|zAh<|zAg<|S_a [(2,.v (PV.agg [I (l.getD i default).fst,I (l.getD i default).snd]))] (ap (zDn default (by omega):(List.map prV l)[i]? = some (PV.agg [I (l.getD i default).fst,I (l.getD i default).snd])) an)<|zAc 3<|zAa<|zAd 7<|S_a [(0,.ob),(1,.ob),(0,.v ((I ((zAj n).getD (l.getD i default).snd.toNat 0)).ref))] (ap ((by exact zAv (by omega)):decide (0≤(l.getD i default).snd)=true)<|ap ((by exact zAv (by omega)):decide ((l.getD i default).snd.toNat<8)=true)<|ap (zGt (F:=zAj n) (m:=8) (j:=(l.getD i default).snd.toNat) (by omega):zCj (PV.agg (zAt (zAj n) 8)).ref ((l.getD i default).snd.toNat*(fun x=>x.size) Try.prog.types[3]) none=some (I ((zAj n).getD (l.getD i default).snd.toNat 0)).ref) an)<|zAc 1<|S_a [(0,.ob),(1,.ob)] (ap ((by exact zAv (by omega)):decide (0≤(l.getD i default).fst)=true)<|ap ((by exact zAv (by omega)):decide ((l.getD i default).fst.toNat<10)=true) an)<|S_a [(0,.ob),(1,.ob)] (ap ((by exact zAv (by omega)):decide (0≤(zAj n).getD (l.getD i default).snd.toNat 0)=true)<|ap ((by exact zAv (by omega)):decide (((zAj n).getD (l.getD i default).snd.toNat 0).toNat<8)=true) an)<|S_a [(0,.cs true ([I (w.getD ((l.getD i default).fst.toNat*8+((zAj n).getD (l.getD i default).snd.toNat 0).toNat) 0)]))] (ap (zDd (q:=(PV.agg (zAt w 80)).box) (xs:=[PV.agg (zAt w 80)]) (x:=PV.agg (zAt w 80)) rfl rfl (zFd (F:=w) (m:=80) (j:=(l.getD i default).fst.toNat*8+((zAj n).getD (l.getD i default).snd.toNat 0).toNat) (by first | rfl | exact zB5 (by kernel_rfl) | exact zB1 (by kernel_rfl) | exact zBZ (by kernel_rfl) (by kernel_rfl) | exact zB6 (by kernel_rfl) | exact zB8 (by kernel_rfl) (by kernel_rfl) | exact zB2 (by kernel_rfl) | (simp;done)) (by omega)):zAr 9 (PV.agg (zAt w 80)).box [] 0 (0+(l.getD i default).fst.toNat*(fun x=>x.size) Try.prog.types[89]+((zAj n).getD (l.getD i default).snd.toNat 0).toNat*(fun x=>x.size) Try.prog.types[3]) 1=some (true,[I (w.getD ((l.getD i default).fst.toNat*8+((zAj n).getD (l.getD i default).snd.toNat 0).toNat) 0)])) an)<|zAc 3<|zAa<|zEc (w.getD ((l.getD i default).fst.toNat*8+((zAj n).getD (l.getD i default).snd.toNat 0).toNat) 0=(l.getD i default).snd) (fun k0=>(zAg<|zAc 3<|S_a [(4,.ob),(0,.ob),(0,.yes),(2,.v (PV.own 2 (List.map prV (q++[l.getD i default]))))] (ap (blz (List.map prV q))<|ap ((by exact zA8 (by simp only [List.length_map,zzLn,zAY]<;>omega)):((List.map prV q).length + [PV.agg [I (l.getD i default).fst,I (l.getD i default).snd]].length).ble zAY=true)<|ap ((by exact zBL (by simp<;>omega)):(0+(List.map prV q).length).beq (List.map prV q).length=true)<|ap ((zA6 (zBP (by kernel_rfl))):PV.own 2 (List.map prV q++[PV.agg [I (l.getD i default).fst,I (l.getD i default).snd]])=PV.own 2 (List.map prV (q++[l.getD i default]))) an)<|zAc 1<|zAa<|zAg<|S_a [(1,.v (I (↑(i+1):Int)))] (ap (wrN i) an)<|zAc 1<|zAa ?_)) (fun k0=>(zAl<|zAg<|S_a [(1,.v (I (↑(i+1):Int)))] (ap (wrN i) an)<|zAc 1<|zAa ?_))
  ·have hb:zUG n w (l.getD i default)=true:=by simp only [zUG,decide_eq_true_eq];exact k0
   rw [if_pos hb] at jC
   exact ⟨(i+1,q++[l.getD i default]),⟨by omega,jC.symm⟩,by simp only;omega,by kernel_rfl,by kernel_rfl⟩
  ·have hb:zUG n w (l.getD i default)=false:=by simp only [zUG,decide_eq_false_iff_not];exact fun h=>h k0
   rw [if_neg (by rw [hb];simp)] at jC
   exact ⟨(i+1,q),⟨by omega,jC.symm⟩,by simp only;omega,by kernel_rfl,by kernel_rfl⟩
 ·refine zAd 1<|zAa<|zAh<|zBv ((↑i:Int)<(↑l.length:Int)) (by omega)<|zAS 0<|zAd 1<|S_a [(2,.yes)] (ap ((by exact zBL (by simp<;>omega)):(Nat.beq 0 0&&(List.map prV q).length.beq (List.map prV q).length)=true) an)<|zAa<|zAn<|E_a [(1,.yes),(1,.v (PV.own 2 (List.map prV q)))] (ap (blz (List.map prV q))<|ap ((zA6 zBt):PV.own 2 (List.take (List.map prV q).length (List.drop 0 (List.map prV q)))=PV.own 2 (List.map prV q)) an) (PV.own 2 (List.map prV q)) [] ?_ rfl
  rw [List.take_of_length_le (by omega)] at hq
  rw [hq]
theorem zVm {n:Nw} {w:List Int}:∀ g∈zA2 n w,(0≤g.1∧g.1<n.h)∧(0≤g.2∧g.2<n.n.length):=fun g hg=>by
 obtain ⟨h,i,h1,h2,rfl,_⟩:=zJt hg
 simp only;omega
theorem zWl {n:Nw} {c:Int×Int} (h:zGJ n c=true):(0≤c.1∧c.1<n.n.length)∧(0≤c.2∧c.2<n.s.length):=by
 simp only [zGJ,Bool.and_eq_true] at h
 have b1:=zEx h.1
 have b2:=zEx h.2
 omega
theorem f11_1 (n:Nw) (cs:List (Int×Int)) (e:Int) (c:Int×Int) (ho:EvOk n cs e) (hc:zGJ n c=true):FG 11 [nwV n,prs cs,I e,prV c] (.tup [.own 2 ((zES n (zAU n (cs++[c]) e.toNat) (zA2 n (zAU n cs e.toNat))).map prV),I 0]):=by
 have wR:=ho.cr
 have hw:=wR.w
 have yO:=wR.len
 have hn:=wR.nw
 have he:=ho.ev
 have LA:=zBT (n:=n) (cs:=cs) e.toNat
 have hgl:=zEH (w:=zAU n cs e.toNat) hn
 have hgr:=zVm (n:=n) (w:=zAU n cs e.toNat)
 have uH:=zWl hc
 refine zAf Try.f11 ?_
 refine zAd 4<|zAa<|zAd 3<|S_a [(10,.ret (PV.tup [zDO n cs,I 0]) [])] (ap (f41_1 n cs e (by omega)) an)<|zAc 5<|zAa<|zAh<|zAk 0<|zAd 3<|zAa<|zAK<|zAd 2<|S_a [(7,.ret (PV.bool (zGJ n c)) [])] (ap (f44 n c (prs cs) (List.map pr2 n.l) (zAj n) (zAZ n) (by omega)) an)<|zAc 2<|zAa<|zFh (!zGJ n c) (fun k0=>(zAd 2<|zAa<|zAn<|E_a [] an (PV.tup [PV.own 2 [],I 1]) [] ?_ rfl)) (fun k0=>(zAl<|zAd 4<|S_a [(7,.ret (hdV (zAU n cs e.toNat)) [])] (ap (f43 n cs e (by omega) (by omega)) an)<|S_a [(7,.ret (PV.own 2 (List.map prV (zA2 n (zAU n cs e.toNat)))) [])] (ap (f42 n cs (zAU n cs e.toNat) (by omega) (by omega)) an)<|zAc 2<|S_a [(4,.ob),(0,.v (prs (zA2 n (zAU n cs e.toNat)))),(6,.ret (PV.own 2 (List.map prV (zES n (zAU n (cs++[c]) e.toNat) (zA2 n (zAU n cs e.toNat))))) []),(1,.yes)] (ap (blz (List.map prV (zA2 n (zAU n cs e.toNat))))<|ap (frT prV (zA2 n (zAU n cs e.toNat)))<|ap (f45 n cs (zA2 n (zAU n cs e.toNat)) e c (by omega) (by omega) (by omega) (by omega) (by omega) (by omega))<|ap ((by exact zED _):(PV.own 2 (List.map prV (zES n (zAU n (cs++[c]) e.toNat) (zA2 n (zAU n cs e.toNat))))).free=true) an)<|zAc 2<|zAa<|zAn<|E_a [(1,.yes),(1,.v (PV.own 2 (List.map prV (zES n (zAU n (cs++[c]) e.toNat) (zA2 n (zAU n cs e.toNat))))))] (ap (blz (List.map prV (zES n (zAU n (cs++[c]) e.toNat) (zA2 n (zAU n cs e.toNat)))))<|ap ((zA6 zBt):PV.own 2 (List.take (List.map prV (zES n (zAU n (cs++[c]) e.toNat) (zA2 n (zAU n cs e.toNat)))).length (List.drop 0 (List.map prV (zES n (zAU n (cs++[c]) e.toNat) (zA2 n (zAU n cs e.toNat))))))=PV.own 2 (List.map prV (zES n (zAU n (cs++[c]) e.toNat) (zA2 n (zAU n cs e.toNat))))) an) (PV.tup [PV.own 2 (List.map prV (zES n (zAU n (cs++[c]) e.toNat) (zA2 n (zAU n cs e.toNat)))),I 0]) [] rfl rfl))
 rw [hc] at k0;cases k0
end Go.Eng
set_option maxRecDepth 10000
set_option maxHeartbeats 4000000
namespace Go.Eng
open Go Go.Proofs
theorem zS4 {α:Type} (φ:α→Bool) (l:List α):(zEg φ l = -1→l.filter (fun x => !φ x)=l)∧(zEg φ l≠-1→∃ i:Nat,zEg φ l=i∧i<l.length∧l.take i=(l.take (i+1)).filter (fun x => !φ x)):=by
 constructor
 ·intro h
  have:l.any φ=false:=by rw [← zDP,h];rfl
  rw [List.filter_eq_self]
  intro x hx
  rw [List.any_eq_false] at this
  simpa using this x hx
 ·intro h
  unfold zEg at h ⊢
  split
  ·rename_i yJ
   refine ⟨_,rfl,yJ,?_⟩
   have hp:=List.findIdx_getElem (w:=yJ)
   rw [List.take_add_one,List.getElem?_eq_getElem yJ,List.filter_append]
   simp only [Option.toList,List.filter_cons,hp,Bool.not_true,Bool.false_eq_true,if_false,List.filter_nil,List.append_nil]
   symm
   rw [List.filter_eq_self]
   intro x hx
   obtain ⟨j,hj,rfl⟩:=List.mem_take_iff_getElem.1 hx
   have:=List.not_of_lt_findIdx (show j<l.findIdx φ by omega)
   simpa using this
  ·rename_i hn;rw [if_neg hn] at h;exact absurd rfl h
theorem zKW {α:Type} {S:List α} {p:Nat} {x:α} (h:p<S.length):(S.set p x).take (p+1)=S.take p++[x]:=by
 rw [zDk (d:=x) (by simpa using h),List.take_set_of_le (Nat.le_refl p)]
 simp [List.getD_eq_getElem?_getD,h]
theorem zNH {α:Type} {S:List α} {i j:Nat} {x d:α} (h:i≠j):(S.set i x).getD j d=S.getD j d:=by
 simp [List.getD_eq_getElem?_getD,List.getElem?_set,h]
theorem zNg {α:Type} (p:α→Bool) (l:List α) (j:Nat) (d:α) (h:j<l.length):(l.take (j+1)).filter p=if p (l.getD j d)=true then (l.take j).filter p++[l.getD j d] else (l.take j).filter p:=by
 rw [zDk (d:=d) h,List.filter_append]
 split
 ·rw [List.filter_cons_of_pos (by assumption)];rfl
 ·rw [List.filter_cons_of_neg (by assumption)];simp
theorem f119 (n:Nw) (cs:List (Int×Int)) (f:Int) (ho:NwOk n) (g:Int×Int) (hg:0≤g.2∧g.2<n.n.length):FG 119 [prV g,.ref (zDO n cs),.ref (I f)] (.bool (decide ((zAj n).getD g.2.toNat 0≠f))):=by
 have wD:=ho.nl
 refine zAf Try.f119 ?_
 refine zAd 2<|zAa<|zAd 5<|S_a [(0,.ob),(1,.ob),(0,.v ((I ((zAj n).getD g.snd.toNat 0)).ref))] (ap ((by exact zAv (by omega)):decide (0≤g.snd)=true)<|ap ((by exact zAv (by omega)):decide (g.snd.toNat<8)=true)<|ap (zGt (F:=zAj n) (m:=8) (j:=g.snd.toNat) (by omega):zCj (PV.agg (zAt (zAj n) 8)).ref (g.snd.toNat*(fun x=>x.size) Try.prog.types[3]) none=some (I ((zAj n).getD g.snd.toNat 0)).ref) an)<|zAc 4<|zAa<|zAn<|E_a [] an (PV.bool ((zAj n).getD g.snd.toNat 0 != f)) [] ?_ rfl
 congr 1;rw [Bool.eq_iff_iff];simp
theorem f57_1 (n:Nw) (cs:List (Int×Int)) (f:Int) (ho:NwOk n) (l:List (Int×Int)) (hl:l.length<4294967296) (hr:∀ x∈l,(fun z:Int×Int=>0≤z.2∧z.2<n.n.length) x):FG 57 [.sl (l.map prV),.func 119 [] [.ref (zDO n cs),.ref (I f)]] (I (zEg (fun x=>decide ((zAj n).getD x.2.toNat 0≠f)) l)):=by
 refine zAf Try.f57 ?_
 refine zAd 1<|zAa<|zAh<|zAd 1<|S_a [(0,.n l.length)] (ap (lnS prV l) an)<|zAc 1<|zAa<|zAk 0 ?_
 refine zAD (fun i=>i≤l.length∧∀ j,j<i→(fun x=>decide ((zAj n).getD x.2.toNat 0≠f)) (l.getD j default)=false) (fun i=>[(8,I (i:Nat))]) (fun i=>l.length-i) (0:Nat) (by simp) fun i ⟨hi,ha⟩=>?_
 by_cases yW:i<l.length
 ·have hri:=zCu (d:=default) hr i yW
  refine zAd 1<|zAa<|zAh<|zBj ((↑i:Int)<(↑l.length:Int)) (by omega)<|zAl<|zAh<|zAk 1<|zAd 2<|zAa<|zAd 3<|S_a [(2,.v (PV.agg [I (l.getD i default).fst,I (l.getD i default).snd]))] (ap (zDn default (by omega):(List.map prV l)[i]? = some (PV.agg [I (l.getD i default).fst,I (l.getD i default).snd])) an)<|zAc 1<|S_a [(8,.ret (PV.bool (decide ((zAj n).getD (l.getD i default).snd.toNat 0≠f))) [])] (ap (f119 n cs f (by omega) (l.getD i default) (by omega)) an)<|zAa<|zDo ((zAj n).getD (l.getD i default).snd.toNat 0≠f) (fun k0=>(zAd 2<|zAa<|zAn<|E_a [] an (I (↑i:Int)) [] ?_ rfl)) (fun k0=>(zAl<|zAg<|S_a [(1,.v (I (↑(i+1):Int)))] (ap (wrN i) an)<|zAc 1<|zAa ?_))
  ·rw [zBS (i:=i) yW (fun j hj=>by rw [← zAH (d:=default)];exact ha j hj) (by rw [← zAH (d:=default)];first | assumption | exact decide_eq_true ‹_›)]
  ·refine ⟨i+1,⟨by omega,fun j hj=>?_⟩,by omega,by kernel_rfl,by kernel_rfl⟩
   rcases Nat.lt_succ_iff_lt_or_eq.1 hj with h | rfl
   ·exact ha j h
   ·first | assumption | exact decide_eq_false ‹_› | (simp only [Bool.not_eq_false',decide_eq_true_eq];assumption)
 ·refine zAd 1<|zAa<|zAh<|zBv ((↑i:Int)<(↑l.length:Int)) (by omega)<|zAS 0<|zAd 1<|zAa<|zAn<|E_a [] an (I (-1)) [] ?_ rfl
  rw [zCc fun j hj=>by rw [← zAH (d:=default)];exact ha j (by omega)]
theorem f116_1 (n:Nw) (cs:List (Int×Int)) (f:Int) (ho:NwOk n) (l:List (Int×Int)) (hl:l.length<4294967296) (hr:∀ x∈l,(fun z:Int×Int=>0≤z.2∧z.2<n.n.length) x):FG 116 [.own 2 (l.map prV),.func 119 [] [.ref (zDO n cs),.ref (I f)]] (.own 2 ((l.filter fun x => !(decide ((zAj n).getD x.2.toNat 0≠f))).map prV)):=by
 have h1:=zS4 (fun x=>decide ((zAj n).getD x.2.toNat 0≠f)) l
 have uA:=f57_1 n cs f ho l hl hr
 by_cases hm:zEg (fun x=>decide ((zAj n).getD x.2.toNat 0≠f)) l = -1
 ·rw [hm] at uA
  rw [h1.1 hm]
  refine zAf Try.f116 ?_
  refine zAd 1<|zAa<|zAd 2<|S_a [(3,.ob),(0,.v (prs l)),(3,.ret (I (-1)) [])] (ap (blz (List.map prV l))<|ap (frT prV l)<|ap uA an)<|zAc 1<|zAa<|zAh<|zAd 2<|zAa<|zEb<|zAd 1<|S_a [(2,.yes)] (ap ((by exact zBL (by simp<;>omega)):(Nat.beq 0 0&&(List.map prV l).length.beq (List.map prV l).length)=true) an)<|zAa<|zAn<|E_a [(1,.yes),(1,.v (PV.own 2 (List.map prV l)))] (ap (blz (List.map prV l))<|ap ((zA6 zBt):PV.own 2 (List.take (List.map prV l).length (List.drop 0 (List.map prV l)))=PV.own 2 (List.map prV l)) an) (PV.own 2 (List.map prV l)) [] rfl rfl
 ·obtain ⟨i0,jc,hil0,hf0⟩:=h1.2 hm
  rw [jc] at uA
  clear h1 hm
  refine zAf Try.f116 ?_
  refine zAd 1<|zAa<|zAd 2<|S_a [(3,.ob),(0,.v (prs l)),(3,.ret (I (↑i0:Int)) [])] (ap (blz (List.map prV l))<|ap (frT prV l)<|ap uA an)<|zAc 1<|zAa<|zAh<|zAd 2<|zAa<|zAK<|zAl<|zAh<|zAd 1<|S_a [(1,.v (I (↑(i0+1):Int)))] (ap (wrN i0) an)<|zAc 1<|zAa<|zAk 0 ?_
  refine zAD (fun (i,j,S)=>j≤l.length∧i<j∧S.length=l.length∧S.take i=(l.take j).filter (fun x => !(decide ((zAj n).getD x.2.toNat 0≠f)))∧∀ r,j≤r→S.getD r default=l.getD r default) (fun (i,j,S)=>[(0,.own 2 (S.map prV)),(5,I (i:Nat)),(6,I (j:Nat))]) (fun (_,j,_)=>l.length-j) (i0,i0+1,l) ⟨by omega,by omega,rfl,hf0,fun _ _=>rfl⟩ fun (i,j,S) ⟨hj,hij,hS,ht,hd⟩=>?_
  by_cases jL:j<l.length
  ·have hri:=zCu (d:=default) hr j jL
   have hx:=hd j (Nat.le_refl j)
   have yM:=zNg (fun x => !(decide ((zAj n).getD x.2.toNat 0≠f))) l j default jL
   rw [← hx] at yM hri
   clear uA
   have gK:=hd
   clear hd hx
   refine zAh<|zAd 2<|S_a [(0,.n S.length)] (ap (lnS prV S) an)<|zAc 1<|zAa<|zBj ((↑j:Int)<(↑S.length:Int)) (by omega)<|zAl<|zAh<|zAk 1<|zAd 2<|S_a [(2,.ob),(1,.n j)] (ap ((by exact zAv (by simp only [List.length_map,zzLn]<;>omega)):decide (j<(List.map prV S).length)=true)<|ap ((by simp):some (0+j)=some j) an)<|S_a [(0,.cs true ([I (S.getD j default).fst,I (S.getD j default).snd]))] (ap (zDd (q:=PV.own 2 (List.map prV S)) (xs:=List.map prV S) (x:=PV.agg [I (S.getD j default).fst,I (S.getD j default).snd]) rfl (zDn default (by omega)):zAr 0 (PV.own 2 (List.map prV S)) [] j 0 Try.prog.types[42].size=some (true,[I (S.getD j default).fst,I (S.getD j default).snd])) an)<|zAc 2<|zAa<|zAd 2<|S_a [(8,.ret (PV.bool (decide ((zAj n).getD (S.getD j default).snd.toNat 0≠f))) [])] (ap (f119 n cs f (by omega) (S.getD j default) (by omega)) an)<|zAc 1<|zAa<|zEc ((zAj n).getD (S.getD j default).snd.toNat 0≠f) (fun k0=>(zAd 3<|S_a [(2,.ob),(1,.n i)] (ap ((by exact zAv (by simp only [List.length_map,zzLn]<;>omega)):decide (i<(List.map prV S).length)=true)<|ap ((by simp):some (0+i)=some i) an)<|S_a [(8,.root (PV.own 2 (List.map prV (S.set i (S.getD j default)))) true)] (ap (zV9 (zDn default (by omega)) zN1:zBQ (PV.own 2 (List.map prV S)) [] i 0 (PV.agg [I (S.getD j default).fst,I (S.getD j default).snd]).cells=some (PV.own 2 (List.map prV (S.set i (S.getD j default))))∧zAN (PV.own 2 (List.map prV S)) (PV.own 2 (List.map prV (S.set i (S.getD j default)))) []=true) an)<|zAa<|zAg<|zAc 1<|S_a [(1,.v (I (↑(i+1):Int)))] (ap (wrN i) an)<|zAc 1<|zAa<|zAg<|zAc 1<|S_a [(1,.v (I (↑(j+1):Int)))] (ap (wrN j) an)<|zAc 1<|zAa ?_)) (fun k0=>(zAl<|zAg<|zAc 1<|S_a [(1,.v (I (↑(j+1):Int)))] (ap (wrN j) an)<|zAc 1<|zAa ?_))
   ·have hb:((fun x => !(decide ((zAj n).getD x.2.toNat 0≠f))) (S.getD j default))=true:=by first | assumption | (simp only [Bool.not_eq_true',decide_eq_false_iff_not];assumption)
    rw [if_pos hb] at yM
    refine ⟨(i+1,j+1,S.set i (S.getD j default)),⟨by omega,by omega,by simpa using hS,?_,fun r wT=>?_⟩,by simp only;omega,by kernel_rfl,by kernel_rfl⟩
    ·rw [yM,← ht,zKW (by omega)]
    ·rw [zNH (by omega)];exact gK r (by omega)
   ·have hb:((fun x => !(decide ((zAj n).getD x.2.toNat 0≠f))) (S.getD j default))=false:=by first | assumption | (simp only [Bool.not_eq_false',decide_eq_true_eq];assumption)
    rw [if_neg (fun h=>Bool.noConfusion (hb.symm.trans h))] at yM
    exact ⟨(i,j+1,S),⟨by omega,by omega,hS,by rw [yM,ht],fun r wT=>gK r (by omega)⟩,by simp only;omega,by kernel_rfl,by kernel_rfl⟩
  ·refine zAh<|zAd 2<|S_a [(0,.n S.length)] (ap (lnS prV S) an)<|zAc 1<|zAa<|zBv ((↑j:Int)<(↑S.length:Int)) (by omega)<|zAS 0<|zAd 2<|S_a [(3,.ob),(0,.yes),(0,.yes),(0,.v (PV.bor 0 [] 2 i (S.length-i)))] (ap ((by exact zA8 (by simp only [List.length_map,zzLn,zAY]<;>omega)):i.ble (List.map prV S).length=true)<|ap ((by exact zA8 (by simp only [List.length_map,zzLn,zAY]<;>omega)):(List.map prV S).length.ble (List.map prV S).length=true)<|ap ((by simp<;>omega):(i.beq 0||i.blt (List.map prV S).length)=true)<|ap ((by simp):PV.bor 0 [] 2 (0+i) ((List.map prV S).length-i)=PV.bor 0 [] 2 i (S.length-i)) an)<|zRo (g:=prV) (fun q=>q) 0 2 i (S.length-i) S ((0,0)) (by first | omega | (simp<;>omega)) ⟨rfl,rfl⟩ (fun _=>(by first | exact zLa | exact ⟨rfl,rfl,rfl,rfl,Nat.le_refl _,rfl⟩)) zPQ.nil (zAa<|zAd 2<|S_a [(4,.yes)] (ap ((by exact zA8 (by simp<;>omega)):i.ble (List.map prV (List.take i S++List.replicate (S.length-i) (0,0)++List.drop (i+(S.length-i)) S)).length=true) an)<|zAc 1<|zAa<|zAn<|E_a [(1,.yes),(1,.v (PV.own 2 (List.map prV (List.take i (List.take i S++List.replicate (S.length-i) (0,0)++List.drop (i+(S.length-i)) S)))))] (ap ((by exact zA8 (by simp<;>omega)):(0+((↑i:Int).toNat-0)).ble (List.map prV (List.take i S++List.replicate (S.length-i) (0,0)++List.drop (i+(S.length-i)) S)).length=true)<|ap ((by simp):PV.own 2 (List.take i (List.drop 0 (List.map prV (List.take i S++List.replicate (S.length-i) (0,0)++List.drop (i+(S.length-i)) S))))=PV.own 2 (List.map prV (List.take i (List.take i S++List.replicate (S.length-i) (0,0)++List.drop (i+(S.length-i)) S)))) an) (PV.own 2 (List.map prV (List.take i (List.take i S++List.replicate (S.length-i) (0,0)++List.drop (i+(S.length-i)) S)))) [] ?_ rfl)
   rw [List.take_of_length_le (Nat.le_of_not_lt jL)] at ht
   rw [← ht,List.append_assoc,List.take_append_of_le_length (by rw [List.length_take];omega),List.take_take,Nat.min_self]
def ofL (n:Nw) (f:Int) (l:List (Int×Int)):List (Int×Int):=l.filter fun x => !decide ((zAj n).getD x.2.toNat 0≠f)
theorem f91 (n:Nw) (cs l:List (Int×Int)) (f:Int) (ho:NwOk n) (hl:l.length≤1000) (hr:∀ g∈l,(0≤g.1∧g.1<n.h)∧(0≤g.2∧g.2<n.n.length)):FG 91 [zDO n cs,prs l,I f] (.own 2 ((ofL n f l).map prV)):=by
 have h1:=f116_1 n cs f ho l (by omega) fun x hx=>(hr x hx).2
 refine zAf Try.f91 ?_
 refine zAd 3<|zAa<|zAd 1<|S_a [(6,.ret (PV.own 2 (List.map prV l)) [])] (ap (f117 l (by omega)) an)<|zAc 1<|S_a [(3,.ob),(1,.v (PV.own 2 (List.map prV l))),(14,.ret (PV.own 2 (List.map prV (List.filter (fun x => !decide ((zAj n).getD x.snd.toNat 0≠f)) l))) []),(1,.yes)] (ap ((by exact zA8 (by simp only [List.length_map,zzLn,zAY]<;>omega)):(List.map prV l).length.ble (List.map prV l).length=true)<|ap ((zA6 zBt):PV.own 2 (List.take (List.map prV l).length (List.drop 0 (List.map prV l)))=PV.own 2 (List.map prV l))<|ap h1<|ap ((by exact zED _):(PV.own 2 (List.map prV (List.filter (fun x => !decide ((zAj n).getD x.snd.toNat 0≠f)) l))).free=true) an)<|zAc 1<|zAa<|zAn<|E_a [(1,.yes),(1,.v (PV.own 2 (List.map prV (List.filter (fun x => !decide ((zAj n).getD x.snd.toNat 0≠f)) l))))] (ap (blz (List.map prV (List.filter (fun x => !decide ((zAj n).getD x.snd.toNat 0≠f)) l)))<|ap ((zA6 zBt):PV.own 2 (List.take (List.map prV (List.filter (fun x => !decide ((zAj n).getD x.snd.toNat 0≠f)) l)).length (List.drop 0 (List.map prV (List.filter (fun x => !decide ((zAj n).getD x.snd.toNat 0≠f)) l))))=PV.own 2 (List.map prV (List.filter (fun x => !decide ((zAj n).getD x.snd.toNat 0≠f)) l))) an) (PV.own 2 (List.map prV (List.filter (fun x => !decide ((zAj n).getD x.snd.toNat 0≠f)) l))) [] rfl rfl
end Go.Eng
set_option maxRecDepth 10000
set_option maxHeartbeats 4000000
namespace Go.Eng
open Go Go.Proofs
def zWK (n:Nw) (cs:List (Int×Int)) (e:Int) (st:List Int):Int:=if zPn n cs e=0 then if (!st.all fun x=>inB x 0 (n.s.length-1))=true then 1 else if st.Nodup then 0 else 5 else zPn n cs e
structure OffOk (n:Nw) (cs:List (Int×Int)) (e:Int) (st:List Int):Prop where
 err:zWK n cs e st=0
 ev:EvOk n cs e
 rng:∀ s∈st,0≤s∧s<n.s.length
 nd:st.Nodup
abbrev zXs (n:Nw) (cs:List (Int×Int)) (e:Int) (l:List (Int×Int)):PV := .func 113 [] [.ref (zDO n cs),.ref (prs l),.ref (I e)]
theorem f105_2 (n:Nw) (hb:n.s.length≤6) (x:Int):FG 105 [I x,.ref (.func 85 [nwV n] [])] (.bool (!(inB x 0 (n.s.length-1)))):=by
 refine zAf Try.f105 ?_
 refine zAd 1<|zAa<|zAd 2<|S_a [(8,.ret (PV.bool (inB x 0 ((↑n.s.length:Int)-1))) [])] (ap (f85 n x (by omega)) an)<|zAc 2<|zAa<|zAn<|E_a [] an (PV.bool !inB x 0 ((↑n.s.length:Int)-1)) [] rfl rfl
theorem f123_2 (n:Nw) (hb:n.s.length≤6) (l:List (Int)) (hl:l.length<4294967296):FG 123 [.sl (l.map I),.func 105 [] [.ref (.func 85 [nwV n] [])]] (I (zEg (fun x => !(inB x 0 (n.s.length-1))) l)):=by
 refine zAf Try.f123 ?_
 refine zAd 1<|zAa<|zAh<|zAd 1<|S_a [(0,.n l.length)] (ap (lnS I l) an)<|zAc 1<|zAa<|zAk 0 ?_
 refine zAD (fun i=>i≤l.length∧∀ j,j<i→(fun x => !(inB x 0 (n.s.length-1))) (l.getD j 0)=false) (fun i=>[(8,I (i:Nat))]) (fun i=>l.length-i) (0:Nat) (by simp) fun i ⟨hi,ha⟩=>?_
 refine zAd 1<|zAa<|zAh<|zDo ((↑i:Int)<(↑l.length:Int)) (fun k0=>(zAl<|zAh<|zAk 1<|zAd 2<|zAa<|zAd 3<|S_a [(2,.v (I (l.getD i 0)))] (ap (zDn (0) (by omega):(List.map I l)[i]? = some (I (l.getD i 0))) an)<|zAc 1<|S_a [(7,.ret (PV.bool !inB (l.getD i 0) 0 ((↑n.s.length:Int)-1)) [])] (ap (f105_2 n (by omega) (l.getD i 0)) an)<|zAa<|zFh (!inB (l.getD i 0) 0 ((↑n.s.length:Int)-1)) (fun k1=>(zAd 2<|zAa<|zAn<|E_a [] an (I (↑i:Int)) [] ?_ rfl)) (fun k1=>(zAl<|zAg<|S_a [(1,.v (I (↑(i+1):Int)))] (ap (wrN i) an)<|zAc 1<|zAa ?_)))) (fun k0=>(zAS 0<|zAd 1<|zAa<|zAn<|E_a [] an (I (-1)) [] ?_ rfl))
 ·rw [zBS (i:=i) (by omega) (fun j hj=>by rw [← zAH (d:=0)];exact ha j hj) (by rw [← zAH (d:=0)];first | assumption | exact decide_eq_true ‹_› | (simp only [Bool.not_eq_true',decide_eq_false_iff_not];assumption))]
 ·refine ⟨i+1,⟨by omega,fun j hj=>?_⟩,by omega,by kernel_rfl,by kernel_rfl⟩
  rcases Nat.lt_succ_iff_lt_or_eq.1 hj with h | rfl
  ·exact ha j h
  ·first | assumption | exact decide_eq_false ‹_› | (simp only [Bool.not_eq_false',decide_eq_true_eq];first | assumption | (apply Decidable.of_not_not;assumption))
 ·rw [zCc fun j hj=>by rw [← zAH (d:=0)];exact ha j (by omega)]
theorem f104_2 (n:Nw) (hb:n.s.length≤6) (l:List (Int)) (hl:l.length<4294967296):FG 104 [.sl (l.map I),.func 105 [] [.ref (.func 85 [nwV n] [])]] (.bool (l.any (fun x => !(inB x 0 (n.s.length-1))))):=by
 refine zAf Try.f104 ?_
 refine zAd 1<|zAa<|zAd 2<|S_a [(7,.ret (I (zEg (fun x => !inB x 0 ((↑n.s.length:Int)-1)) l)) [])] (ap (f123_2 n (by omega) l (by omega)) an)<|zAc 2<|zAa<|zAn<|E_a [] an (PV.bool (decide (zEg (fun x => !inB x 0 ((↑n.s.length:Int)-1)) l≥0))) [] ?_ rfl
 rw [zDP]
theorem f68_2 (n:Nw) (hb:n.s.length≤6) (l:List (Int)) (hl:l.length<4294967296):FG 68 [.sl (l.map I),.func 85 [nwV n] []] (.bool (l.all (fun x=>inB x 0 (n.s.length-1)))):=by
 refine zAf Try.f68 ?_
 refine zAd 2<|zAa<|zAd 2<|S_a [(12,.ret (PV.bool (l.any fun x => !inB x 0 ((↑n.s.length:Int)-1))) [])] (ap (f104_2 n (by omega) l (by omega)) an)<|zAc 2<|zAa<|zAn<|E_a [] an (PV.bool !l.any fun x => !inB x 0 ((↑n.s.length:Int)-1)) [] ?_ rfl
 simp [List.not_any_eq_all_not]
theorem f89_1 (n:Nw) (cs:List (Int×Int)) (e:Int) (st:List Int) (ho:OffOk n cs e st) (yM:st.length<1000000):FG 89 [nwV n,prs cs,I e,zBp st] (.tup [zDO n cs,prs (zA2 n (zAU n cs e.toNat)),.agg [zXs n cs e (zA2 n (zAU n cs e.toNat))],I 0]):=by
 have uF:=ho.ev
 have wR:=uF.cr
 have qh:=wR.w
 have hn:=wR.nw
 have he:=uF.ev
 have hs6:=hn.sl.2
 have LA:=zBT (n:=n) (cs:=cs) e.toNat
 have hgl:=zEH (w:=zAU n cs e.toNat) hn
 have hin:(!st.all fun x=>inB x 0 (n.s.length-1))=false:=by
  simp only [Bool.not_eq_false',List.all_eq_true]
  intro s hs;have:=ho.rng s hs
  simp only [inB,Bool.and_eq_true,decide_eq_true_eq];omega
 refine zAf Try.f89 ?_
 refine zAd 6<|zAa<|zAd 3<|S_a [(10,.ret (PV.tup [zDO n cs,I 0]) [])] (ap (f41_1 n cs e (by omega)) an)<|zAc 6<|zAa<|zAh<|zAk 0<|zAd 3<|zAa<|zAK<|zAd 3<|S_a [(7,.ret (PV.bool (st.all fun x=>inB x 0 ((↑n.s.length:Int)-1))) [])] (ap (f68_2 n (by omega) st (by omega)) an)<|zAc 2<|zAa<|zFh (!st.all fun x=>inB x 0 ((↑n.s.length:Int)-1)) (fun k0=>(zAd 5<|zAa<|zAn<|E_a [] an (PV.tup [PV.nilp,PV.sl [],PV.agg [PV.nilf],I 1]) [] ?_ rfl)) (fun k0=>(zAl<|zAh<|zAd 1<|S_a [(0,.n st.length)] (ap (lnS I st) an)<|zAc 1<|zAa<|zAk 1 ?_))
 ·rw [hin] at k0;cases k0
 ·refine zAD (fun i=>i≤st.length) (fun (i:Nat)=>[(38,I (i:Nat))]) (fun i=>st.length-i) (0:Nat) (by omega) fun i hi=>?_
  by_cases yW:i<st.length
  ·have kS:has (st.take i) (st.getD i 0)=false:=by
    rw [zUS,decide_eq_false_iff_not]
    intro hm
    have yV:=ho.nd
    rw [← List.take_append_drop i st,List.nodup_append] at yV
    refine yV.2.2 _ hm _ ?_ rfl
    rw [List.drop_eq_getElem_cons yW,zAH yW];exact List.mem_cons_self
   refine zAd 1<|zAa<|zAh<|zBj ((↑i:Int)<(↑st.length:Int)) (by omega)<|zAl<|zAh<|zAk 2<|zAd 1<|S_a [(2,.v (I (st.getD i 0)))] (ap (zDn (0) (by omega):(List.map I st)[i]? = some (I (st.getD i 0))) an)<|zAc 3<|zAa<|zAd 2<|S_a [(3,.ob),(0,.ob),(0,.v (zBp (List.take i st)))] (ap ((by exact zA8 (by simp only [List.length_map,zzLn,zAY]<;>omega)):i.ble (List.map I st).length=true)<|ap ((by exact all_map _):((List.map I st).all fun x=>x.cells.length.beq ((fun x=>x.size) Try.prog.types[3]))=true)<|ap ((by simp):PV.sl (List.take i (List.drop 0 (List.map I st)))=zBp (List.take i st)) an)<|zAc 1<|S_a [(8,.ret (PV.bool (has (List.take i st) (st.getD i 0))) [])] (ap (f20 (List.take i st) (st.getD i 0) (by first | omega | (simp<;>omega))) an)<|zAa<|zFh (has (List.take i st) (st.getD i 0)) (fun k1=>(zAd 5<|zAa<|zAn<|E_a [] an (PV.tup [PV.nilp,PV.sl [],PV.agg [PV.nilf],I 5]) [] ?_ rfl)) (fun k1=>(zAl<|zAg<|S_a [(1,.v (I (↑(i+1):Int)))] (ap (wrN i) an)<|zAc 1<|zAa ?_))
   ·rw [kS] at k1;cases k1
   ·exact ⟨i+1,by omega,by omega,by kernel_rfl,by kernel_rfl⟩
  ·refine zAd 1<|zAa<|zAh<|zBv ((↑i:Int)<(↑st.length:Int)) (by omega)<|zAS 1<|zAd 3<|S_a [(7,.ret (hdV (zAU n cs e.toNat)) [])] (ap (f43 n cs e (by omega) (by omega)) an)<|S_a [(7,.ret (PV.own 2 (List.map prV (zA2 n (zAU n cs e.toNat)))) [])] (ap (f42 n cs (zAU n cs e.toNat) (by omega) (by omega)) an)<|zAc 1<|S_a [(3,.v (prs (zA2 n (zAU n cs e.toNat))))] (ap ((zTX (zA7 _)):PV.sl (zAz (List.map prV (zA2 n (zAU n cs e.toNat))))=prs (zA2 n (zAU n cs e.toNat))) an)<|zAa<|zAd 8<|zAa<|zAn<|E_a [] an (PV.tup [(PV.agg (I n.h::prs n.l::PV.sl (List.map ntV n.n)::PV.sl (List.map zBp n.s)::prs cs::PV.map (List.map zBE (List.map pr2 n.l))::(zAt (zAj n) 8++zAt (zAZ n) 8))).ref,prs (zA2 n (zAU n cs e.toNat)),PV.agg [PV.func 113 [] [(PV.agg (I n.h::prs n.l::PV.sl (List.map ntV n.n)::PV.sl (List.map zBp n.s)::prs cs::PV.map (List.map zBE (List.map pr2 n.l))::(zAt (zAj n) 8++zAt (zAZ n) 8))).ref.ref,(prs (zA2 n (zAU n cs e.toNat))).ref,(I e).ref]],I 0]) [] rfl rfl
theorem f113 (n:Nw) (cs l:List (Int×Int)) (e:Int) (c:Int×Int) (ho:CrW n cs) (hl:cs.length≤16) (he:0≤e∧e≤1000) (gW:l.length≤1000) (hm:∀ g∈l,(0≤g.1∧g.1<n.h)∧(0≤g.2∧g.2<n.n.length)) (hc:(0≤c.1∧c.1<n.n.length)∧(0≤c.2∧c.2<n.s.length)):FG 113 [prV c,.ref (zDO n cs),.ref (prs l),.ref (I e)] (.sl ((zES n (zAU n (cs++[c]) e.toNat) l).map prV)):=by
 refine zAf Try.f113 ?_
 refine zAd 2<|zAa<|zAd 4<|S_a [(11,.ret (PV.own 2 (List.map prV (zES n (zAU n (cs++[c]) e.toNat) l))) [])] (ap (f45 n cs l e c (by omega) (by omega) (by omega) (by omega) (by omega) (by omega)) an)<|zAc 1<|zAa<|zAn<|E_a [(1,.envv ([(4,(PV.agg [I c.fst,I c.snd]).box),(5,prs (zES n (zAU n (cs++[c]) e.toNat) l))]) (prs (zES n (zAU n (cs++[c]) e.toNat) l)))] (ap (And.intro (Eq.trans (by kernel_rfl:Env.frz [(4,(PV.agg [I c.fst,I c.snd]).box),(5,PV.own 2 (List.map prV (zES n (zAU n (cs++[c]) e.toNat) l)))] 5 []=some [(4,(PV.agg [I c.fst,I c.snd]).box),(5,PV.sl (zAz (List.map prV (zES n (zAU n (cs++[c]) e.toNat) l))))]) ((by simp only [show zAz (List.map prV (zES n (zAU n (cs++[c]) e.toNat) l))=List.map prV (zES n (zAU n (cs++[c]) e.toNat) l) from (by first | exact zA7 _ | exact zBz _ | exact zBm _ | exact zBD (zBz _) | exact zBD (zBm _) | exact zEA (by simp [zC9]) (zA7 _))]):some [(4,(PV.agg [I c.fst,I c.snd]).box),(5,PV.sl (zAz (List.map prV (zES n (zAU n (cs++[c]) e.toNat) l))))]=some [(4,(PV.agg [I c.fst,I c.snd]).box),(5,prs (zES n (zAU n (cs++[c]) e.toNat) l))])) (zUi (by first | exact zA7 _ | exact zBz _ | exact zBm _):PV.mapW (inl 5 [] (PV.own 2 (List.map prV (zES n (zAU n (cs++[c]) e.toNat) l)))) (PV.bor 5 [] 2 0 (List.map prV (zES n (zAU n (cs++[c]) e.toNat) l)).length)=prs (zES n (zAU n (cs++[c]) e.toNat) l))) an) (prs (zES n (zAU n (cs++[c]) e.toNat) l)) [] rfl rfl
end Go.Eng
namespace Go.Eng
open Go Go.Proofs
end Go.Eng
namespace Go.Eng
open Go Go.Proofs
theorem Tr.ge {n:Nw} {w:List Int} {S:Nat→Nat→Prop} (ht:Tr n w S) {h c:Nat} (hh:h<n.h.toNat) (hc:c<8) {v:Int}:v≤w.getD (h*8+c) 0↔v≤-1∨∃ i,i<n.n.length∧(zAj n).getD i 0=(c:Int)∧S h i∧v≤i:=by
 have ha:=ht.at_ h c hh hc
 constructor
 ·intro hv
  rcases ha with h1 | ⟨i,g1,g2,g3,g4⟩
  ·exact .inl (by omega)
  ·exact .inr ⟨i,g1,g2,g4,by omega⟩
 ·rintro (h1 | ⟨i,g1,g2,g3,g4⟩)
  ·rcases ha with h2 | ⟨i,_,_,g3,_⟩<;>omega
  ·have:=ht.top h i hh g1 g3
   rw [g2,Int.toNat_natCast] at this
   omega
theorem zMp {n:Nw} {cs:List (Int×Int)} (ho:CrW n cs):Tr n (zK9 n cs) fun a i=>zI3 n cs a i=true :=
 (Tr.begN ho n.h.toNat (Nat.le_refl _)).same fun a i ha _=>⟨fun h=>h.2,fun h=>⟨ha,h⟩⟩
theorem zLF {n:Nw} {cs ds:List (Int×Int)} (h1:CrW n cs) (h2:CrW n ds) (h3:CrW n (cs++ds)) {c:Nat} (hc:c<8):∀ (e:Nat) (h:Nat) (v:Int),h<n.h.toNat→(v≤(zAU n (cs++ds) e).getD (h*8+c) 0↔v≤(zAU n cs e).getD (h*8+c) 0∨v≤(zAU n ds e).getD (h*8+c) 0)
 | 0,h,v,hh=>by
  have e:∀ i:Int,zI3 n (cs++ds) h i=(zI3 n cs h i||zI3 n ds h i):=fun i=>by simp [zI3]
  show v≤(zK9 n (cs++ds)).getD _ 0↔v≤(zK9 n cs).getD _ 0∨v≤(zK9 n ds).getD _ 0
  rw [(zMp h3).ge hh hc,(zMp h1).ge hh hc,(zMp h2).ge hh hc]
  constructor
  ·rintro (g | ⟨i,g1,g2,g3,g4⟩)
   ·exact .inl (.inl g)
   ·rw [e,Bool.or_eq_true] at g3
    rcases g3 with g3 | g3
    ·exact .inl (.inr ⟨i,g1,g2,g3,g4⟩)
    ·exact .inr (.inr ⟨i,g1,g2,g3,g4⟩)
  ·rintro ((g | ⟨i,g1,g2,g3,g4⟩) | (g | ⟨i,g1,g2,g3,g4⟩))
   ·exact .inl g
   ·exact .inr ⟨i,g1,g2,by rw [e,g3];rfl,g4⟩
   ·exact .inl g
   ·exact .inr ⟨i,g1,g2,by rw [e,g3,Bool.or_true],g4⟩
 | e + 1,h,v,hh=>by
  have ih:=zLF h1 h2 h3 hc e
  have vM:∀ o,o∈zHG n h n.h.toNat→o<n.h.toNat:=fun o hm=>List.mem_range.1 (List.mem_filter.1 hm).1
  show v≤(zCU n (zAU n (cs++ds) e)).getD _ 0↔v≤(zCU n (zAU n cs e)).getD _ 0∨v≤(zCU n (zAU n ds e)).getD _ 0
  rw [zJg h1.nw (zBT _) hh hc,zJg h1.nw (zBT _) hh hc,zJg h1.nw (zBT _) hh hc,ih h v hh]
  constructor
  ·rintro ((g | g) | ⟨o,g1,g2⟩)
   ·exact .inl (.inl g)
   ·exact .inr (.inl g)
   ·rcases (ih o v (vM o g1)).1 g2 with g | g
    ·exact .inl (.inr ⟨o,g1,g⟩)
    ·exact .inr (.inr ⟨o,g1,g⟩)
  ·rintro ((g | ⟨o,g1,g2⟩) | (g | ⟨o,g1,g2⟩))
   ·exact .inl (.inl g)
   ·exact .inr ⟨o,g1,(ih o v (vM o g1)).2 (.inl g2)⟩
   ·exact .inl (.inr g)
   ·exact .inr ⟨o,g1,(ih o v (vM o g1)).2 (.inr g2)⟩
theorem zQm {n:Nw} {d:Int×Int} (h1:CrW n [d]) {c:Nat} (hc:c<8):∀ (e:Nat) (h:Nat) (v:Int),h<n.h.toNat→-1<v→(v≤(zAU n [d] e).getD (h*8+c) 0↔v≤d.1∧0≤(zAU n [d] e).getD (h*8+c) 0)
 | 0,h,v,hh,hv=>by
  have hd:=(h1.cs d List.mem_cons_self).1
  have e:∀ i:Int,zI3 n [d] h i=true→d.1=i:=fun i hi=>by
   simp only [zI3,List.any_cons,List.any_nil,Bool.or_false,hrB,Bool.and_eq_true,decide_eq_true_eq] at hi
   exact hi.1
  show v≤(zK9 n [d]).getD _ 0↔v≤d.1∧0≤(zK9 n [d]).getD _ 0
  rw [(zMp h1).ge hh hc,(zMp h1).ge hh hc]
  constructor
  ·rintro (g | ⟨i,g1,g2,g3,g4⟩)
   ·omega
   ·have:=e i g3
    exact ⟨by omega,.inr ⟨i,g1,g2,g3,by omega⟩⟩
  ·rintro ⟨g0,(g | ⟨i,g1,g2,g3,g4⟩)⟩
   ·omega
   ·have:=e i g3
    exact .inr ⟨i,g1,g2,g3,by omega⟩
 | e + 1,h,v,hh,hv=>by
  have ih:=zQm h1 hc e
  have vM:∀ o,o∈zHG n h n.h.toNat→o<n.h.toNat:=fun o hm=>List.mem_range.1 (List.mem_filter.1 hm).1
  show v≤(zCU n (zAU n [d] e)).getD _ 0↔v≤d.1∧0≤(zCU n (zAU n [d] e)).getD _ 0
  rw [zJg h1.nw (zBT _) hh hc,zJg h1.nw (zBT _) hh hc,ih h v hh hv]
  constructor
  ·rintro (⟨g1,g2⟩ | ⟨o,g1,g2⟩)
   ·exact ⟨g1,.inl g2⟩
   ·have:=(ih o v (vM o g1) hv).1 g2
    exact ⟨this.1,.inr ⟨o,g1,this.2⟩⟩
  ·rintro ⟨g0,(g | ⟨o,g1,g2⟩)⟩
   ·exact .inl ⟨g0,g⟩
   ·exact .inr ⟨o,g1,(ih o v (vM o g1) hv).2 ⟨g0,g2⟩⟩
theorem zSj {n:Nw} {w:List Int} {g:Int×Int}:g∈zA2 n w↔∃ h i:Nat,h<n.h.toNat∧i<n.n.length∧g=((h:Int),(i:Int))∧zPp n w h i=true:=by
 refine ⟨zJt,?_⟩
 rintro ⟨h,i,h1,h2,rfl,h3⟩
 simp only [zA2,zTf,List.mem_flatMap,List.mem_range,zPE,List.mem_map,List.mem_filter]
 exact ⟨h,h1,i,⟨h2,h3⟩,rfl⟩
theorem zRH {n:Nw} {w:List Int} {h i:Nat} (hh:h<n.h.toNat) (hi:i<n.n.length):((h:Int),(i:Int))∈zA2 n w↔zPp n w h i=true:=by
 rw [zSj]
 constructor
 ·rintro ⟨h',i',_,_,he,hb⟩
  simp only [Prod.mk.injEq] at he
  obtain rfl:h=h':=by omega
  obtain rfl:i=i':=by omega
  exact hb
 ·exact fun hb=>⟨h,i,hh,hi,rfl,hb⟩
theorem zTz {n:Nw} {w w':List Int} {g:Int×Int} (hg:g∈zA2 n w):(g∈zES n w' (zA2 n w))↔g∉zA2 n w':=by
 obtain ⟨h,i,h1,h2,rfl,h3⟩:=zJt hg
 rw [zRH h1 h2]
 simp only [zES,List.mem_filter,hg,true_and,zUG,decide_eq_true_eq,Int.toNat_natCast]
 simp only [zPp,Bool.and_eq_true,decide_eq_true_eq] at h3 ⊢
 constructor
 ·exact fun a b=>a b.1
 ·exact fun a b=>a ⟨b,h3.2⟩
theorem zEP {n:Nw} {cs:List (Int×Int)} {d:Int×Int} {e:Nat} (h1:CrW n cs) (h2:CrW n [d]) (h3:CrW n (cs++[d])) (hl:(zAZ n).getD d.1.toNat 0=d.1) {g:Int×Int} (hg:g∈zA2 n (zAU n (cs++[d]) e)):g∈zA2 n (zAU n cs e):=by
 obtain ⟨h,i,hh,hi,rfl,hb⟩:=zJt hg
 rw [zRH hh hi]
 have ho:=h1.nw
 have hf:=zCA ho i hi
 have h8:=ho.nl.2
 have hd:=(h2.cs d List.mem_cons_self).1
 simp only [zPp,Bool.and_eq_true,decide_eq_true_eq] at hb ⊢
 refine ⟨?_,hb.2⟩
 have hu:=fun v=>zLF h1 h2 h3 (c:=((zAj n).getD i 0).toNat) (by omega) e h v hh
 have ho1:=fun v=>zQm h2 (c:=((zAj n).getD i 0).toNat) (by omega) e h v hh
 generalize (zAU n (cs++[d]) e).getD (h*8+((zAj n).getD i 0).toNat) 0=U at *
 generalize (zAU n cs e).getD (h*8+((zAj n).getD i 0).toNat) 0=A at *
 generalize (zAU n [d] e).getD (h*8+((zAj n).getD i 0).toNat) 0=B at *
 have e1:=(hu A).2 (.inl (Int.le_refl _))
 have e2:=(hu B).2 (.inr (Int.le_refl _))
 rcases (hu i).1 (by omega) with g1 | g1
 ·omega
 ·have g2:=(ho1 i (by omega)).1 g1
  have g3:=(ho1 d.1 (by omega)).2 ⟨Int.le_refl _,g2.2⟩
  have e3:d.1=i:=by omega
  exact absurd (by rw [e3,Int.toNat_natCast] at hl;exact hl) hb.2
end Go.Eng
set_option maxRecDepth 10000
set_option maxHeartbeats 4000000
namespace Go.Eng
open Go Go.Proofs
theorem zRl {n:Nw} (ho:NwOk n) {i j:Nat} (hi:i<n.n.length) (hj:j<n.n.length) (hc:chn n j i):(zAZ n).getD j 0=(zAZ n).getD i 0:=by
 obtain ⟨a,a1,a2,a3,_,a5⟩:=zIH ho hi
 obtain ⟨b,b1,b2,b3,_,b5⟩:=zIH ho hj
 rw [a1,b1]
 have h1:=a5 b b2 (by unfold chn at *;omega)
 have h2:=b5 a a2 (by unfold chn at *;omega)
 omega
theorem zQB {n:Nw} (ho:NwOk n) {i:Nat} (hi:i<n.n.length) (hn:∀ k,k<n.n.length→(n.n.getD k default).1≠i):(zAZ n).getD i 0=i:=by
 obtain ⟨a,a1,a2,a3,a4,_⟩:=zIH ho hi
 rw [a1]
 by_cases e:a=i
 ·rw [e]
 ·obtain ⟨k,_,_,h3,h4,_⟩:=zSO ho a i (by omega) a2 a3.symm
  exact absurd h4 (hn k h3)
section
variable [Yo]
theorem f13 (n:Nw) (ho:NwOk n):∀ (k i:Nat),i<n.n.length→n.n.length-i≤k→FG 13 [nwV n,I i] (I ((zAZ n).getD i 0))
 | 0,i,hi,hk=>absurd hi (by omega)
 | k + 1,i,hi,hk=>by
  have wD:=ho.nl
  refine zAf Try.f13 ?_
  refine zAd 2<|zAa<|zAh<|zAd 2<|S_a [(0,.n n.n.length)] (ap (lnS ntV n.n) an)<|zAc 1<|zAa<|zAk 0 ?_
  refine zAD (fun j=>j≤n.n.length∧∀ r,r<j→(n.n.getD r default).1≠i) (fun (j:Nat)=>[(10,I (j:Nat))]) (fun j=>n.n.length-j) (0:Nat) ⟨Nat.zero_le _,fun r hr=>absurd hr (Nat.not_lt_zero r)⟩ fun j ⟨hj,ha⟩=>?_
  by_cases jL:j<n.n.length
  ·have hon:(n.n.getD j default).1≠i→∀ r,r<j+1→(n.n.getD r default).1≠i:=fun h r hr=>by
    rcases Nat.lt_succ_iff_lt_or_eq.1 hr with h2 | rfl
    ·exact ha r h2
    ·exact h
   clear ha
   by_cases he:(n.n.getD j default).1=i
   ·obtain ⟨hij,hc⟩:=zUD ho jL he
    have ih:=f13 n ho k j jL (by omega)
    rw [zRl ho hi jL hc] at ih
    refine zAd 1<|zAa<|zAh<|zBj ((↑j:Int)<(↑n.n.length:Int)) (by omega)<|zAl<|zAh<|zAk 1<|zAd 1<|S_a [(2,.v (PV.agg [I (n.n.getD j default).fst,PV.bool (n.n.getD j default).snd]))] (ap (zDn default (by omega):(List.map ntV n.n)[j]? = some (PV.agg [I (n.n.getD j default).fst,PV.bool (n.n.getD j default).snd])) an)<|zAc 4<|zAa<|zAd 4<|zAa<|zBj ((n.n.getD j default).fst=(↑i:Int)) (by omega)<|zAd 2<|S_a [(8,.ret (I ((zAZ n).getD i 0)) [])] (ap ih an)<|zAc 1<|zAa<|zAn<|E_a [] an (I ((zAZ n).getD i 0)) [] rfl rfl
   ·refine zAd 1<|zAa<|zAh<|zBj ((↑j:Int)<(↑n.n.length:Int)) (by omega)<|zAl<|zAh<|zAk 1<|zAd 1<|S_a [(2,.v (PV.agg [I (n.n.getD j default).fst,PV.bool (n.n.getD j default).snd]))] (ap (zDn default (by omega):(List.map ntV n.n)[j]? = some (PV.agg [I (n.n.getD j default).fst,PV.bool (n.n.getD j default).snd])) an)<|zAc 4<|zAa<|zAd 4<|zAa<|zBv ((n.n.getD j default).fst=(↑i:Int)) (by omega)<|zAl<|zAg<|S_a [(1,.v (I (↑(j+1):Int)))] (ap (wrN j) an)<|zAc 1<|zAa ?_
    exact ⟨j+1,⟨by omega,hon he⟩,by omega,by kernel_rfl,by kernel_rfl⟩
  ·rw [zQB ho hi fun r hr=>ha r (by omega)]
   clear ha
   refine zAd 1<|zAa<|zAh<|zBv ((↑j:Int)<(↑n.n.length:Int)) (by omega)<|zAS 0<|zAd 2<|zAa<|zAn<|E_a [] an (I (↑i:Int)) [] rfl rfl
theorem f8_ex (n:Nw) (l:List Int) (a:Nat) (t most:Int) (ho:NwOk n) (h:zDU l a) (hm:0≤most∧most≤16):∃ v h',zBC Try.prog zBN 8 [zO5,nwV n,I most] [zB3 l a t] v h'∧∃ (cs:List (Int×Int)) (a':Nat) (t':Int),v = .own 2 (cs.map prV)∧h'=[zB3 l a' t']∧(cs.length:Int)≤most∧(∀ c∈cs,(0≤c.1∧c.1<n.n.length)∧(0≤c.2∧c.2<n.s.length))∧zDU l a':=by
 have wD:=ho.nl
 have hs6:=ho.sl
 have g1:=zCv h
 have s1:=zCw l a t most
 refine zLX Try.f8 _ ?_
 refine zAd 2<|zAa<|zAd 1<|zAa<|zAh<|zAd 2<|S_a [(6,.ret (I (zAp l a t most)) ([zB3 l (zAB l a) (zAI l a t)]))] (ap (f38 l a t most (by omega) (by omega)) an)<|zAc 1<|zAa<|zAk 0 ?_
 have gJ:0≤zAp l a t most∧zAp l a t most≤most:=by omega
 generalize zAp l a t most=M at *
 clear s1
 generalize zAI l a t=T0 at *
 generalize zAB l a=A0 at *
 refine zAD (fun (i,q,a,_)=>(i:Int)≤M∧q.length=i∧(∀ c∈q,(0≤c.1∧c.1<n.n.length)∧(0≤c.2∧c.2<n.s.length))∧zDU l a) (fun ((i:Nat),(q:List (Int×Int)),(a:Nat),(t:Int))=>[(7,.own 2 (q.map prV)),(11,I (i:Nat)),(50000000,zB3 l a t)]) (fun (i,_,_,_)=>M.toNat-i) ((0:Nat),([]:List (Int×Int)),A0,T0) ⟨by omega,rfl,fun c hc=>absurd hc List.not_mem_nil,g1⟩ fun (i,q,a,t) ⟨hiM,qf,hq,ha⟩=>?_
 by_cases yW:(i:Int)<M
 ·have g2:=zCv ha
  have g3:=zCv g2
  have s2:=zCw l a t ((n.n.length-1:Nat):Int)
  have s3:=zCw l (zAB l a) (zAI l a t) ((n.s.length-1:Nat):Int)
  have kR:∀ c∈q++[(zAp l a t ((n.n.length-1:Nat):Int),zAp l (zAB l a) (zAI l a t) ((n.s.length-1:Nat):Int))],(0≤c.1∧c.1<n.n.length)∧(0≤c.2∧c.2<n.s.length):=fun c hc=>by
   rcases List.mem_append.1 hc with hc | hc
   ·exact hq c hc
   ·rw [List.mem_singleton] at hc;subst hc;simp only;omega
  clear hq
  refine zAd 1<|zAa<|zAh<|zBj ((↑i:Int)<M) (by omega)<|zAl<|zAh<|zAk 1<|zAg<|zAc 4<|S_a [(0,.n n.n.length)] (ap (lnS ntV n.n) an)<|S_a [(1,.v (I (↑(n.n.length-1):Int)))] (ap ((zCo (by omega) (by omega)):I (IntKind.i64.wrap ((↑n.n.length:Int)-1))=I (↑(n.n.length-1):Int)) an)<|S_a [(6,.ret (I (zAp l a t (↑(n.n.length-1):Int))) ([zB3 l (zAB l a) (zAI l a t)]))] (ap (f38 l a t ((↑(n.n.length-1):Int)) (by omega) (by omega)) an)<|zAc 3<|S_a [(0,.n n.s.length)] (ap (lnS zBp n.s) an)<|S_a [(1,.v (I (↑(n.s.length-1):Int)))] (ap ((zCo (by omega) (by omega)):I (IntKind.i64.wrap ((↑n.s.length:Int)-1))=I (↑(n.s.length-1):Int)) an)<|S_a [(6,.ret (I (zAp l (zAB l a) (zAI l a t) (↑(n.s.length-1):Int))) ([zB3 l (zAB l (zAB l a)) (zAI l (zAB l a) (zAI l a t))]))] (ap (f38 l (zAB l a) (zAI l a t) ((↑(n.s.length-1):Int)) (by omega) (by omega)) an)<|zAc 2<|S_a [(4,.ob),(0,.ob),(0,.yes),(2,.v (PV.own 2 (List.map prV (q++[(zAp l a t (↑(n.n.length-1):Int),zAp l (zAB l a) (zAI l a t) (↑(n.s.length-1):Int))]))))] (ap (blz (List.map prV q))<|ap ((by exact zA8 (by simp only [List.length_map,zzLn,zAY]<;>omega)):((List.map prV q).length + [PV.agg [I (zAp l a t (↑(n.n.length-1):Int)),I (zAp l (zAB l a) (zAI l a t) (↑(n.s.length-1):Int))]].length).ble zAY=true)<|ap ((by exact zBL (by simp<;>omega)):(0+(List.map prV q).length).beq (List.map prV q).length=true)<|ap ((zA6 (zBP (by kernel_rfl))):PV.own 2 (List.map prV q++[PV.agg [I (zAp l a t (↑(n.n.length-1):Int)),I (zAp l (zAB l a) (zAI l a t) (↑(n.s.length-1):Int))]])=PV.own 2 (List.map prV (q++[(zAp l a t (↑(n.n.length-1):Int),zAp l (zAB l a) (zAI l a t) (↑(n.s.length-1):Int))]))) an)<|zAc 1<|zAa<|zAg<|S_a [(1,.v (I (↑(i+1):Int)))] (ap (wrN i) an)<|zAc 1<|zAa ?_
  exact ⟨(i+1,q++[(zAp l a t ((n.n.length-1:Nat):Int),zAp l (zAB l a) (zAI l a t) ((n.s.length-1:Nat):Int))],zAB l (zAB l a),zAI l (zAB l a) (zAI l a t)),⟨by omega,by rw [List.length_append,qf];rfl,kR,g3⟩,by simp only;omega,by kernel_rfl,by kernel_rfl⟩
 ·refine zAd 1<|zAa<|zAh<|zBv ((↑i:Int)<M) (by omega)<|zAS 0<|zAd 1<|S_a [(2,.yes)] (ap ((by exact zBL (by simp<;>omega)):(Nat.beq 0 0&&(List.map prV q).length.beq (List.map prV q).length)=true) an)<|zAa<|zAn<|E_q [(1,.yes),(1,.v (PV.own 2 (List.map prV q)))] (ap (blz (List.map prV q))<|ap ((zA6 zBt):PV.own 2 (List.take (List.map prV q).length (List.drop 0 (List.map prV q)))=PV.own 2 (List.map prV q)) an) (PV.own 2 (List.map prV q)) ([(PV.agg [PV.sl (List.map u8 l),I (↑a:Int),PV.int IntKind.u32 t]).box]) ?_
  exact ⟨q,a,t,rfl,rfl,by omega,hq,ha⟩
end
end Go.Eng
set_option maxRecDepth 10000
set_option maxHeartbeats 4000000
namespace Go.Eng
open Go Go.Proofs
end Go.Eng
set_option maxRecDepth 100000
set_option maxHeartbeats 4000000
namespace Go.Eng
open Go Go.Proofs
def zDS:Nw:=⟨4,[(0,1),(1,2),(2,3)],[(-1,false),(0,true)],[[0],[0,3]]⟩
def zFk:List (Int×Int):=[(0,1),(1,0)]
def zIA:List (Int×Int):=[(2,0),(3,0)]
theorem zTM:NwOk zDS:=zUa (by decide +kernel)
theorem zKw:CrOk zDS zFk:=zUC (by decide +kernel)
theorem zOG:zA2 zDS (zAU zDS zFk (1:Int).toNat)=zIA:=by decide +kernel
theorem zU0:OffOk zDS zFk 1 [0,1]:=⟨by decide +kernel,zTw (by decide +kernel),by decide,by decide⟩
theorem zWL:zES zDS (zAU zDS (zFk++[(1,0)]) (1:Int).toNat) zIA=[]:=by decide +kernel
theorem zWB:zES zDS (zAU zDS (zFk++[(1,1)]) (1:Int).toNat) zIA=zIA:=by decide +kernel
def zX1:List (PV×PV):=[(.agg [I 1,I 0],.sl []),(.agg [I 1,I 1],.sl (zIA.map prV))]
abbrev zRQ:List PV:=[.addr 50000000 [] 0 0 none,.addr 50000001 [] 0 0 none,.addr 50000002 [] 0 0 none,.addr 50000003 [] 0 0 none,.addr 50000004 [] 0 0 none]
abbrev zQ8 (b:Bool) (l:List PV):List PV:=[.box (.bool b),.box (.own 2 l),.box (.own 2 [prV (1,0),prV (1,1)]),.box (.omap [(prV (1,0),.sl []),(prV (1,1),prs zIA)]),.box (.func 114 [] zRQ)]
theorem zPk:zBC Try.prog zBN 114 (.nils 0::prs zIA::zRQ) (zQ8 false []) (.tup []) (zQ8 true [prV (1,1)]):=zBC.closed 60
theorem zQv:FG 90 [zDO zDS zFk,.agg [zXs zDS zFk 1 zIA],prs zIA,I 0,zBp [0,1]] (.tup [.own 2 [.agg [I 1,I 1]],.bool true]):=by
 have h0:FG 113 [.agg [I 1,I 0],.ref (zDO zDS zFk),.ref (prs zIA),.ref (I 1)] (.sl []):=by
  have:=f113 zDS zFk zIA 1 (1,0) zKw.w (by decide) (by decide) (by decide) (by decide) (by decide)
  rw [zWL] at this;exact this
 have h1:FG 113 [.agg [I 1,I 1],.ref (zDO zDS zFk),.ref (prs zIA),.ref (I 1)] (.sl (zIA.map prV)):=by
  have:=f113 zDS zFk zIA 1 (1,1) zKw.w (by decide) (by decide) (by decide) (by decide) (by decide)
  rw [zWB] at this;exact this
 refine zAf Try.f90 ?_
 refine zAd 3<|zAa<|zAd 3<|zAa<|zAd 1<|zAa<|zAh<|zAd 1<|zAc 1<|zAc 1<|zAa<|zAk 0 ?_
 refine zAD (fun j=>j≤2) (fun (j:Nat)=>[(12,.box (.omap (zX1.take j))),(13,.box (.own 2 (([(1,0),(1,1)]:List (Int×Int)).take j |>.map prV))),(23,I (j:Nat))]) (fun j=>2-j) (0:Nat) (by omega) fun j hj=>?_
 have hj3:j=0∨j=1∨j=2:=by omega
 rcases hj3 with e | e | e
 ·subst e
  refine zAd 1<|zAa<|zAh<|zEb<|zAl<|zAh<|zAk 1<|zAd 3<|zAa<|zAd 10<|zAa<|zAg<|zAc 2<|zAc 1<|zAc 6<|S_a [(9,.ret (PV.sl []) [])] (ap h0 an)<|zAc 4<|zAa<|zAg<|zAc 2<|zAa ?_
  exact ⟨1,by omega,by omega,by kernel_rfl,by kernel_rfl⟩
 ·subst e
  refine zAd 1<|zAa<|zAh<|zEb<|zAl<|zAh<|zAk 1<|zAd 3<|zAa<|zAd 10<|zAa<|zAg<|zAc 2<|zAc 1<|zAc 6<|S_a [(9,.ret (prs zIA) [])] (ap h1 an)<|zAc 4<|zAa<|zAg<|zAc 2<|zAa ?_
  exact ⟨2,by omega,by omega,by kernel_rfl,by kernel_rfl⟩
 ·subst e
  have y7:=zPk
  refine zAd 1<|zAa<|zAh<|zAK<|zAS 0<|zAd 1<|zAa<|zAd 2<|zAa<|zAd 1<|zAa<|zAd 2<|zAa<|zAd 2<|S_a [(8,.ret (PV.tup []) (zQ8 true [prV (1,1)]))] (ap y7 an)<|zAa<|zAd 1<|zAc 1<|zAc 1<|zAc 1<|zAa<|zAn<|E_a [] an (PV.tup [PV.own 2 [PV.agg [I (1,1).fst,I (1,1).snd]],PV.bool true]) [] rfl rfl
theorem zPt:FG 51 [nwV zDS,prs zFk,I 1,zBp [0,1]] (.tup [.own 2 [.agg [I 1,I 1]],I 0]):=by
 have ho:=f89_1 zDS zFk 1 [0,1] zU0 (by decide)
 rw [zOG] at ho
 have gp:FG 91 [zDO zDS zFk,prs zIA,I 0] (.own 2 (zIA.map prV)):=by
  have:=f91 zDS zFk zIA 0 zTM (by decide) (by decide)
  rwa [show ofL zDS 0 zIA=zIA from by decide +kernel] at this
 have hc:=zQv
 refine zAf Try.f51 ?_
 refine zAd 3<|zAa<|zAd 4<|S_a [(12,.ret (PV.tup [zDO zDS zFk,prs zIA,PV.agg [zXs zDS zFk 1 zIA],I 0]) [])] (ap ho an)<|zAc 10<|zAa<|zAh<|zAd 2<|zAa<|zAK<|zAl<|zAd 1<|zAa<|zAh<|zAd 2<|zAc 1<|zAc 1<|zAa<|zAk 0 ?_
 refine zAD (fun j=>j≤2) (fun (j:Nat)=>[(14,.own 2 (([(1,1)]:List (Int×Int)).take j |>.map prV)),(34,I (j:Nat))]) (fun j=>2-j) (0:Nat) (by omega) fun j hj=>?_
 have hj3:j=0∨j=1∨j=2:=by omega
 rcases hj3 with e | e | e
 ·subst e
  refine zAd 1<|zAa<|zAh<|zEb<|zAl<|zAh<|zAk 1<|zAd 2<|zAa<|zAh<|zAd 8<|zAa<|zAK<|zAl<|zAd 5<|S_a [(9,.ret (PV.own 2 (List.map prV zIA)) [])] (ap gp an)<|zAc 2<|S_a [(14,.ret (PV.tup [PV.own 2 [PV.agg [I 1,I 1]],PV.bool true]) [])] (ap hc an)<|zAc 5<|zAa<|zAh<|zAd 2<|zAa<|zAK<|zAl<|zAg<|zAc 4<|zAa<|zAg<|zAc 2<|zAa ?_
  exact ⟨1,by omega,by omega,by kernel_rfl,by kernel_rfl⟩
 ·subst e
  refine zAd 1<|zAa<|zAh<|zEb<|zAl<|zAh<|zAk 1<|zAd 2<|zAa<|zAh<|zAd 8<|zAa<|zEb<|zAS 1<|zAg<|zAc 2<|zAa ?_
  exact ⟨2,by omega,by omega,by kernel_rfl,by kernel_rfl⟩
 ·subst e
  refine zAd 1<|zAa<|zAh<|zAK<|zAS 0<|zAd 3<|zAa<|zAn<|E_a [] an (PV.tup [PV.own 2 [PV.agg [I (1,1).fst,I (1,1).snd]],I 0]) [] rfl rfl
end Go.Eng
set_option maxRecDepth 10000
set_option maxHeartbeats 4000000
namespace Go.Eng
open Go Go.Proofs
theorem f49_2 (n:Nw) (cs:List (Int×Int)) (h:Int) (x:Int) (ho:CrOk n cs) (hh:0≤h∧h<n.h) (hx:0≤x∧x<n.n.length) (hm:∀ j,j≤12→(zAU n cs j).getD (h.toNat*8+((zAj n).getD x.toNat 0).toNat) 0≠x):FG 49 [nwV n,prs cs,I h,I x] (.tup [.own 1 [],I 6]):=by
 have hn:=ho.nw
 have qh:=ho.w
 have hb:=hn.h
 have wD:=hn.nl
 have hin:inB x 0 (n.n.length-1)=true:=by simp only [inB,Bool.and_eq_true,decide_eq_true_eq];omega
 have hih:inB h 0 (n.h-1)=true:=by simp only [inB,Bool.and_eq_true,decide_eq_true_eq];omega
 have hfb:=zCA hn x.toNat (by omega)
 refine zAf Try.f49 ?_
 refine zAd 4<|zAa<|zAd 2<|S_a [(8,.ret (PV.tup [zDO n cs,I 0]) [])] (ap (f82_1 n cs (by omega)) an)<|zAc 5<|zAa<|zAh<|zAk 0<|zAd 3<|zAa<|zAK<|zAd 2<|S_a [(8,.ret (PV.bool (inB h 0 (n.h-1))) [])] (ap (f69 n h (by omega)) an)<|zAc 2<|zGl 32 (!inB h 0 (n.h-1)) (fun k0=>(zAc 6<|zAa<|zEb<|zAd 2<|zAa<|zAn<|E_a [] an (PV.tup [PV.own 1 [],I 1]) [] ?_ rfl)) (fun k0=>(zAc 2<|S_a [(8,.ret (PV.bool (inB x 0 ((↑n.n.length:Int)-1))) [])] (ap (f73 n x (by first | omega | (simp<;>omega))) an)<|zAc 3<|zAa<|zFh (!inB x 0 ((↑n.n.length:Int)-1)) (fun k1=>(zAd 2<|zAa<|zAn<|E_a [] an (PV.tup [PV.own 1 [],I 1]) [] ?_ rfl)) (fun k1=>(zAl<|zAd 4<|S_a [(0,.ob),(1,.ob),(0,.v ((I ((zAj n).getD x.toNat 0)).ref))] (ap ((by exact zAv (by omega)):decide (0≤x)=true)<|ap ((by exact zAv (by omega)):decide (x.toNat<8)=true)<|ap (zGt (F:=zAj n) (m:=8) (j:=x.toNat) (by omega):zCj (PV.agg (zAt (zAj n) 8)).ref (x.toNat*(fun x=>x.size) Try.prog.types[3]) none=some (I ((zAj n).getD x.toNat 0)).ref) an)<|zAc 3<|zAa<|zAd 1<|S_a [(5,.ret (hdV (zK9 n cs)) [])] (ap (f83 n cs (by omega)) an)<|zAc 3<|zAa<|zAh<|zAk 1 ?_))))
 ·exact absurd (by assumption:(!inB h 0 (n.h-1))=true) (by rw [hih];simp)
 ·exact absurd (by assumption:(!inB x 0 (n.n.length-1))=true) (by rw [hin];simp)
 ·generalize hc:((zAj n).getD x.toNat 0)=c at *
  refine zAD (fun (j,S)=>j≤12∧S=zQF n cs (j+1)) (fun (j,S)=>[(13,zTS S)]) (fun (j,_)=>12-j) ((0:Nat),[zK9 n cs]) ⟨by omega,rfl⟩ fun (j,S) ⟨hj,hS⟩=>?_
  have LB:S.length=j+1:=by rw [hS];simp [zQF]
  have wx:S.getD (S.length-1) []=zAU n cs j:=by rw [LB,hS];exact zLi (by omega)
  have LA:(S.getD (S.length-1) []).length=80:=by rw [wx];exact zBT j
  have hI:=hm j hj
  rw [← wx] at hI
  have hSS:S++[zCU n (S.getD (S.length-1) [])]=zQF n cs (j+1+1):=by rw [zLD (k:=j+1),← hS,wx];rfl
  by_cases gY:j<12
  ·refine zAh<|zAh<|zAg<|S_a [(1,.v (PV.bor 13 [(0,0)] 80 0 S.length))] (ap ((by simp):PV.bor 13 [(0,0)] 80 0 (List.map hdV S).length=PV.bor 13 [(0,0)] 80 0 S.length) an)<|S_a [(1,.v (PV.bor 13 [(0,0)] 80 0 S.length))] (ap ((by simp):PV.bor 13 [(0,0)] 80 0 (List.map hdV S).length=PV.bor 13 [(0,0)] 80 0 S.length) an)<|zAc 1<|S_a [(1,.v (I (↑(S.length-1):Int)))] (ap ((zCo (by omega) (by omega)):I (IntKind.i64.wrap ((↑S.length:Int)-1))=I (↑(S.length-1):Int)) an)<|zAc 2<|S_a [(2,.ob),(1,.n (S.length-1))] (ap ((by exact zAv (by omega)):decide (S.length-1<S.length)=true)<|ap ((by simp):some (0+(S.length-1))=some (S.length-1)) an)<|S_a [(0,.ob),(1,.ob)] (ap ((by exact zAv (by omega)):decide (0≤h)=true)<|ap ((by exact zAv (by omega)):decide (h.toNat<10)=true) an)<|S_a [(0,.ob),(1,.ob)] (ap ((by exact zAv (by omega)):decide (0≤c)=true)<|ap ((by exact zAv (by omega)):decide (c.toNat<8)=true) an)<|S_a [(0,.cs true ([I ((S.getD (S.length-1) []).getD (h.toNat*8+c.toNat) 0)]))] (ap (zDd (q:=PV.own 80 (List.map hdV S)) (xs:=List.map hdV S) (x:=PV.agg (zAt (S.getD (S.length-1) []) 80)) (zMQ (xs:=[PV.own 80 (List.map hdV S)]) (x:=PV.own 80 (List.map hdV S)) (y:=PV.own 80 (List.map hdV S)) rfl rfl) (zDn [] (by omega)) (zFd (F:=S.getD (S.length-1) []) (m:=80) (j:=h.toNat*8+c.toNat) (by first | rfl | exact zB5 (by kernel_rfl) | exact zB1 (by kernel_rfl) | exact zBZ (by kernel_rfl) (by kernel_rfl) | exact zB6 (by kernel_rfl) | exact zB8 (by kernel_rfl) (by kernel_rfl) | exact zB2 (by kernel_rfl) | (simp;done)) (by omega)):zAr 13 (PV.own 80 (List.map hdV S)).box [(0,0)] (S.length-1) (0+h.toNat*(fun x=>x.size) Try.prog.types[89]+c.toNat*(fun x=>x.size) Try.prog.types[3]) 1=some (true,[I ((S.getD (S.length-1) []).getD (h.toNat*8+c.toNat) 0)])) an)<|zAc 2<|zAa<|zKL ((S.getD (S.length-1) []).getD (h.toNat*8+c.toNat) 0=x) (by omega)<|zAl<|zAk 2<|zAh<|zAh<|zAg<|S_a [(1,.v (PV.bor 13 [(0,0)] 80 0 S.length))] (ap ((by simp):PV.bor 13 [(0,0)] 80 0 (List.map hdV S).length=PV.bor 13 [(0,0)] 80 0 S.length) an)<|zAc 2<|zAa<|zBv ((↑S.length:Int)>12) (by omega)<|zAl<|zAg<|S_a [(1,.v (PV.bor 13 [(0,0)] 80 0 S.length))] (ap ((by simp):PV.bor 13 [(0,0)] 80 0 (List.map hdV S).length=PV.bor 13 [(0,0)] 80 0 S.length) an)<|zAc 1<|S_a [(1,.v (PV.bor 13 [(0,0)] 80 0 S.length))] (ap ((by simp):PV.bor 13 [(0,0)] 80 0 (List.map hdV S).length=PV.bor 13 [(0,0)] 80 0 S.length) an)<|S_a [(1,.v (PV.bor 13 [(0,0)] 80 0 S.length))] (ap ((by simp):PV.bor 13 [(0,0)] 80 0 (List.map hdV S).length=PV.bor 13 [(0,0)] 80 0 S.length) an)<|zAc 1<|S_a [(1,.v (I (↑(S.length-1):Int)))] (ap ((zCo (by omega) (by omega)):I (IntKind.i64.wrap ((↑S.length:Int)-1))=I (↑(S.length-1):Int)) an)<|S_a [(2,.ob),(1,.n (S.length-1))] (ap ((by exact zAv (by omega)):decide (S.length-1<S.length)=true)<|ap ((by simp):some (0+(S.length-1))=some (S.length-1)) an)<|S_a [(0,.cs true (zAt (S.getD (S.length-1) []) 80))] (ap (zDd (q:=PV.own 80 (List.map hdV S)) (xs:=List.map hdV S) (x:=PV.agg (zAt (S.getD (S.length-1) []) 80)) (zMQ (xs:=[PV.own 80 (List.map hdV S)]) (x:=PV.own 80 (List.map hdV S)) (y:=PV.own 80 (List.map hdV S)) rfl rfl) (zDn [] (by omega)):zAr 13 (PV.own 80 (List.map hdV S)).box [(0,0)] (S.length-1) 0 Try.prog.types[91].size=some (true,zAt (S.getD (S.length-1) []) 80)) an)<|S_a [(7,.ret (hdV (zCU n (S.getD (S.length-1) []))) [])] (ap (f84 n cs (S.getD (S.length-1) []) (by omega) (by omega)) an)<|zAc 1<|S_a [(4,.ob),(0,.ob),(0,.yes),(2,.v (PV.own 80 (List.map hdV (S++[zCU n (S.getD (S.length-1) [])]))))] (ap ((by exact zA8 (by simp only [List.length_map,zzLn,zAY]<;>omega)):(0+S.length).ble (List.map hdV S).length=true)<|ap ((by exact zA8 (by simp only [List.length_map,zzLn,zAY]<;>omega)):((List.map hdV S).length + [PV.agg (zAt (zCU n (S.getD (S.length-1) [])) 80)].length).ble zAY=true)<|ap ((by exact zBL (by simp<;>omega)):(0+S.length).beq (List.map hdV S).length=true)<|ap ((zA6 (zBP (by kernel_rfl))):PV.own 80 (List.map hdV S++[PV.agg (zAt (zCU n (S.getD (S.length-1) [])) 80)])=PV.own 80 (List.map hdV (S++[zCU n (S.getD (S.length-1) [])]))) an)<|zAc 1<|zAa ?_
   exact ⟨(j+1,S++[zCU n (S.getD (S.length-1) [])]),⟨by omega,hSS⟩,by simp only;omega,by kernel_rfl,by kernel_rfl⟩
  ·refine zAh<|zAh<|zAg<|S_a [(1,.v (PV.bor 13 [(0,0)] 80 0 S.length))] (ap ((by simp):PV.bor 13 [(0,0)] 80 0 (List.map hdV S).length=PV.bor 13 [(0,0)] 80 0 S.length) an)<|S_a [(1,.v (PV.bor 13 [(0,0)] 80 0 S.length))] (ap ((by simp):PV.bor 13 [(0,0)] 80 0 (List.map hdV S).length=PV.bor 13 [(0,0)] 80 0 S.length) an)<|zAc 1<|S_a [(1,.v (I (↑(S.length-1):Int)))] (ap ((zCo (by omega) (by omega)):I (IntKind.i64.wrap ((↑S.length:Int)-1))=I (↑(S.length-1):Int)) an)<|zAc 2<|S_a [(2,.ob),(1,.n (S.length-1))] (ap ((by exact zAv (by omega)):decide (S.length-1<S.length)=true)<|ap ((by simp):some (0+(S.length-1))=some (S.length-1)) an)<|S_a [(0,.ob),(1,.ob)] (ap ((by exact zAv (by omega)):decide (0≤h)=true)<|ap ((by exact zAv (by omega)):decide (h.toNat<10)=true) an)<|S_a [(0,.ob),(1,.ob)] (ap ((by exact zAv (by omega)):decide (0≤c)=true)<|ap ((by exact zAv (by omega)):decide (c.toNat<8)=true) an)<|S_a [(0,.cs true ([I ((S.getD (S.length-1) []).getD (h.toNat*8+c.toNat) 0)]))] (ap (zDd (q:=PV.own 80 (List.map hdV S)) (xs:=List.map hdV S) (x:=PV.agg (zAt (S.getD (S.length-1) []) 80)) (zMQ (xs:=[PV.own 80 (List.map hdV S)]) (x:=PV.own 80 (List.map hdV S)) (y:=PV.own 80 (List.map hdV S)) rfl rfl) (zDn [] (by omega)) (zFd (F:=S.getD (S.length-1) []) (m:=80) (j:=h.toNat*8+c.toNat) (by first | rfl | exact zB5 (by kernel_rfl) | exact zB1 (by kernel_rfl) | exact zBZ (by kernel_rfl) (by kernel_rfl) | exact zB6 (by kernel_rfl) | exact zB8 (by kernel_rfl) (by kernel_rfl) | exact zB2 (by kernel_rfl) | (simp;done)) (by omega)):zAr 13 (PV.own 80 (List.map hdV S)).box [(0,0)] (S.length-1) (0+h.toNat*(fun x=>x.size) Try.prog.types[89]+c.toNat*(fun x=>x.size) Try.prog.types[3]) 1=some (true,[I ((S.getD (S.length-1) []).getD (h.toNat*8+c.toNat) 0)])) an)<|zAc 2<|zAa<|zKL ((S.getD (S.length-1) []).getD (h.toNat*8+c.toNat) 0=x) (by omega)<|zAl<|zAk 2<|zAh<|zAh<|zAg<|S_a [(1,.v (PV.bor 13 [(0,0)] 80 0 S.length))] (ap ((by simp):PV.bor 13 [(0,0)] 80 0 (List.map hdV S).length=PV.bor 13 [(0,0)] 80 0 S.length) an)<|zAc 2<|zAa<|zBj ((↑S.length:Int)>12) (by omega)<|zAd 2<|zAa<|zAn<|E_a [] an (PV.tup [PV.own 1 [],I 6]) [] rfl rfl
end Go.Eng
set_option maxRecDepth 100000
set_option maxHeartbeats 4000000
namespace Go.Eng
open Go Go.Proofs
theorem zUf:FG 47 [] (.tup [nwO zDS,.own 2 (zFk.map prV)]):=zBC.closed 20
theorem zTs:FG 9 [nwV zDS,prs zFk,I 1] (.tup [.own 2 [.agg [I 2,I 0],.agg [I 3,I 0]],I 0]):=by
 have:=f9_1 zDS zFk 1 (zTw (by decide +kernel))
 rw [zOG] at this;exact this
theorem zM8:FG 48 [nwV zDS,prs zFk] (.tup [I 3,I 0]):=f48_1 zDS zFk 3 zKw (by decide) (by decide +kernel) (by decide +kernel)
theorem zTd:FG 49 [nwV zDS,prs zFk,I 2,I 0] (.tup [.own 1 [I 3,I 2],I 0]):=by
 have:=f49_1 zDS zFk 2 0 1 zKw (by decide) (by decide) (by decide) (by decide +kernel) (by decide +kernel)
 rw [show bkL zDS zFk ((zAj zDS).getD (0:Int).toNat 0).toNat 0 1 [2]=[3,2] from by decide +kernel] at this;exact this
theorem zVT:FG 49 [nwV zDS,prs zFk,I 1,I 0] (.tup [.own 1 [],I 6]):=f49_2 zDS zFk 1 0 zKw (by decide) (by decide) (by decide +kernel)
theorem zQX:FG 52 [nwV zDS,prs zFk] (.tup [I 3,I 0]):=by
 have:=f52_1 zDS zFk zKw
 rw [if_pos (show zA2 zDS (zAU zDS zFk 12)=[] from by decide +kernel),if_pos (show zA2 zDS (zAU zDS zFk 12)=[] from by decide +kernel),show zVb zDS zFk 12=3 from by decide +kernel] at this;exact this
theorem zO1:FG 15 [nwV zDS,prs zFk,I 0] (.tup [.own 1 [I 3],I 0]):=by
 have:=f15_1 zDS zFk 0 (zTw (by decide +kernel))
 rw [show zGK (msl zDS (zA2 zDS (zAU zDS zFk (0:Int).toNat)))=[3] from by decide +kernel] at this;exact this
theorem zRd:FG 16 [nwV zDS] (.tup [.own 1 [],I 0]):=by
 have:=f16_1 zDS zTM
 rw [show zIO (zTC zDS) zDS.n.length=[] from by decide +kernel] at this;exact this
theorem f14:FG 14 [] (.bool true):=by
 have h1:=zUf
 have h2:=zTs
 have h3:=zM8
 have h4:=zTd
 have h5:=zVT
 have h6:=zPt
 have h7:=zQX
 have h8:=zO1
 have h9:=zRd
 have l1:FG 50 [.sl [.agg [I 2,I 0],.agg [I 3,I 0]],.sl [.agg [I 2,I 0],.agg [I 3,I 0]]] (.bool true):=f50 [(2,0),(3,0)] [(2,0),(3,0)] (by decide)
 have l2:FG 33 [.sl [I 3,I 2],.sl [I 3,I 2]] (.bool true):=f33 [3,2] [3,2] (by decide)
 have l3:FG 53 [.sl [.agg [I 1,I 1]],.sl [.agg [I 1,I 1]]] (.bool true):=f53 [(1,1)] [(1,1)] (by decide)
 have l4:FG 33 [.sl [I 3],.sl [I 3]] (.bool true):=f33 [3] [3] (by decide)
 refine zAf Try.f14 ?_
 refine zAd 1<|zAa<|zAh<|zAg<|S_a [(4,.ret (PV.tup [nwO zDS,PV.own 2 (List.map prV zFk)]) [])] (ap h1 an)<|zAc 6<|zAa<|zAd 2<|S_a [(21,.ret (PV.tup [PV.own 2 [PV.agg [I 2,I 0],PV.agg [I 3,I 0]],I 0]) [])] (ap h2 an)<|zAc 5<|zAa<|zAd 2<|S_a [(19,.ret (PV.tup [I 3,I 0]) [])] (ap h3 an)<|zAc 5<|zAa<|zAd 2<|S_a [(23,.ret (PV.tup [PV.own 1 [I 3,I 2],I 0]) [])] (ap h4 an)<|zAc 5<|zAa<|zAd 2<|S_a [(23,.ret (PV.tup [PV.own 1 [],I 6]) [])] (ap h5 an)<|zAc 5<|zAa<|zAh<|zAd 19<|S_a [(10,.ret (PV.bool true) [])] (ap l1 an)<|zAc 9<|S_a [(10,.ret (PV.bool true) [])] (ap l2 an)<|zAc 2<|zAa<|zAK<|zAl<|zAd 3<|S_a [(24,.ret (PV.tup [PV.own 2 [PV.agg [I 1,I 1]],I 0]) [])] (ap h6 an)<|zAc 5<|zAa<|zAd 2<|S_a [(19,.ret (PV.tup [I 3,I 0]) [])] (ap h7 an)<|zAc 5<|zAa<|zAd 2<|S_a [(21,.ret (PV.tup [PV.own 1 [I 3],I 0]) [])] (ap h8 an)<|zAc 5<|zAa<|zAd 1<|S_a [(16,.ret (PV.tup [PV.own 1 [],I 0]) [])] (ap h9 an)<|zAc 5<|zAa<|zAd 18<|S_a [(10,.ret (PV.bool true) [])] (ap l3 an)<|zAc 8<|S_a [(10,.ret (PV.bool true) [])] (ap l4 an)<|zAc 3<|zAc 4<|zAa<|zAn<|E_a [] an (PV.bool true) [] rfl rfl
end Go.Eng
set_option maxRecDepth 10000
set_option maxHeartbeats 4000000
namespace Go.Eng
open Go Go.Proofs
theorem zVf {n:Nw} {cs:List (Int×Int)} (h:zGE n=0) (hl:cs.length≤16) (hc:∀ c∈cs,(0≤c.1∧c.1<n.n.length)∧(0≤c.2∧c.2<n.s.length)):CrOk n cs:=by
 refine zUC ?_
 have ha:(cs.all fun c=>zGJ n c)=true:=List.all_eq_true.2 fun c hm=>by
  have:=hc c hm
  simp only [zGJ,inB,Bool.and_eq_true,decide_eq_true_eq];omega
 have wq:¬ (cs.length:Int)>16:=by omega
 simp only [zPx,h,wq,ha,if_true,if_false];rfl
theorem zUW {n:Nw} {cs:List (Int×Int)} {e:Int} (h:CrOk n cs) (he:0≤e∧e≤12):EvOk n cs e:=by
 refine zTw ?_
 have hi:inB e 0 12=true:=by simp only [inB,Bool.and_eq_true,decide_eq_true_eq];omega
 simp only [zPn,h.err,hi,if_true]
theorem zTk {l:List (Int×Int)} {g:Int×Int} (h:g∈l):has l g=true:=List.any_eq_true.2 ⟨g,h,decide_eq_true rfl⟩
theorem zWF {l:List (Int×Int)} {g:Int×Int} (h:g∉l):has l g=false:=List.any_eq_false.2 fun y hy=>by
 rw [decide_eq_true_eq];rintro rfl;exact h hy
theorem f3 (nums crs:List Int) (wh whr whe:Int) (vb:nums.length<9223372036854775808) (wq:crs.length<9223372036854775808) (hw1:0≤wh∧wh≤255) (uu:0≤whr∧whr≤255) (hw3:0≤whe∧whe≤255):FG 3 [.sl (nums.map u8),.sl (crs.map u8),.int .u8 wh,.int .u8 whr,.int .u8 whe] (.bool true):=by
 obtain ⟨v1,h1,kq,n,a1,t1,rfl,rfl,wy,hH,hN,hS,yZ⟩:=f6_ex nums 0 0 7 5 4 ⟨Nat.zero_le _,vb⟩ (by omega) (by omega) (by omega)
 have ho:=zUa wy
 have wD:=ho.nl
 have hs6:=ho.sl
 obtain ⟨v2,h2,ga,cs,a2,t2,rfl,rfl,yO,wR,jU⟩:=f8_ex n crs 0 0 6 ho ⟨Nat.zero_le _,wq⟩ (by omega)
 have m1:=Int.tmod_nonneg (n.n.length:Int) hw1.1
 have m2:=Int.tmod_lt_of_pos wh (show (0:Int)<n.n.length by omega)
 have m3:=Int.tmod_nonneg (n.s.length:Int) uu.1
 have m4:=Int.tmod_lt_of_pos whr (show (0:Int)<n.s.length by omega)
 have m5:=Int.tmod_nonneg (6:Int) hw3.1
 have m6:=Int.tmod_lt_of_pos whe (show (0:Int)<6 by omega)
 have vP:=zVf wy (by omega) wR
 have hd:∀ c∈[(wh.tmod n.n.length,whr.tmod n.s.length)],(0≤c.1∧c.1<n.n.length)∧(0≤c.2∧c.2<n.s.length):=fun c hc=>by
  rw [List.mem_singleton] at hc;subst hc;exact ⟨⟨m1,m2⟩,m3,m4⟩
 have hdo:=zVf wy (by simp) hd
 have gb:=zVf (cs:=cs++[(wh.tmod n.n.length,whr.tmod n.s.length)]) wy (by simp;omega) fun c hc=>by
  rcases List.mem_append.1 hc with hc | hc
  ·exact wR c hc
  ·exact hd c hc
 have c1:=f9_1 n cs (whe.tmod 6) (zUW vP ⟨m5,by omega⟩)
 have c2:=f9_1 n (cs++[(wh.tmod n.n.length,whr.tmod n.s.length)]) (whe.tmod 6) (zUW gb ⟨m5,by omega⟩)
 have c3:=f11_1 n cs (whe.tmod 6) (wh.tmod n.n.length,whr.tmod n.s.length) (zUW vP ⟨m5,by omega⟩) (by simp only [zGJ,inB,Bool.and_eq_true,decide_eq_true_eq];omega)
 have q1:∀ g∈zA2 n (zAU n cs (whe.tmod 6).toNat),has (zES n (zAU n (cs++[(wh.tmod n.n.length,whr.tmod n.s.length)]) (whe.tmod 6).toNat) (zA2 n (zAU n cs (whe.tmod 6).toNat))) g = !has (zA2 n (zAU n (cs++[(wh.tmod n.n.length,whr.tmod n.s.length)]) (whe.tmod 6).toNat)) g:=fun g hg=>by
  have:=zTz (w':=zAU n (cs++[(wh.tmod n.n.length,whr.tmod n.s.length)]) (whe.tmod 6).toNat) hg
  by_cases hm:g∈zA2 n (zAU n (cs++[(wh.tmod n.n.length,whr.tmod n.s.length)]) (whe.tmod 6).toNat)
  ·rw [zTk hm,zWF fun h=>this.1 h hm];rfl
  ·rw [zWF hm,zTk (this.2 hm)];rfl
 have q2:∀ g∈zES n (zAU n (cs++[(wh.tmod n.n.length,whr.tmod n.s.length)]) (whe.tmod 6).toNat) (zA2 n (zAU n cs (whe.tmod 6).toNat)),has (zA2 n (zAU n cs (whe.tmod 6).toNat)) g=true:=fun g hg=>zTk (List.mem_filter.1 hg).1
 have q3:(zAZ n).getD (wh.tmod n.n.length).toNat 0=wh.tmod n.n.length→∀ g∈zA2 n (zAU n (cs++[(wh.tmod n.n.length,whr.tmod n.s.length)]) (whe.tmod 6).toNat),has (zA2 n (zAU n cs (whe.tmod 6).toNat)) g=true:=fun qa g hg=>zTk (zEP vP.w hdo.w gb.w qa hg)
 have qa:FG 13 [nwV n,I (wh.tmod n.n.length)] (I ((zAZ n).getD (wh.tmod n.n.length).toNat 0)):=by
  have:=f13 n ho n.n.length (wh.tmod n.n.length).toNat (by omega) (by omega)
  rwa [Int.toNat_of_nonneg m1] at this
 have b1:=zEH (w:=zAU n cs (whe.tmod 6).toNat) ho
 have b2:=zEH (w:=zAU n (cs++[(wh.tmod n.n.length,whr.tmod n.s.length)]) (whe.tmod 6).toNat) ho
 have b3:(zES n (zAU n (cs++[(wh.tmod n.n.length,whr.tmod n.s.length)]) (whe.tmod 6).toNat) (zA2 n (zAU n cs (whe.tmod 6).toNat))).length≤80:=Nat.le_trans (List.length_filter_le _ _) b1
 generalize zES n (zAU n (cs++[(wh.tmod n.n.length,whr.tmod n.s.length)]) (whe.tmod 6).toNat) (zA2 n (zAU n cs (whe.tmod 6).toNat))=M at *
 generalize zA2 n (zAU n cs (whe.tmod 6).toNat)=G at *
 generalize zA2 n (zAU n (cs++[(wh.tmod n.n.length,whr.tmod n.s.length)]) (whe.tmod 6).toNat)=G2 at *
 generalize (zAZ n).getD (wh.tmod n.n.length).toNat 0=la at *
 clear vP hdo gb hd wR
 refine zAf Try.f3 ?_
 refine zAd 1<|zAa<|zAd 1<|S_a [(6,.ret (zB3 nums 0 0) [])] (ap (f7 nums) an)<|S_a [(10,.ret (nwO n) ([zB3 nums a1 t1]))] (ap kq an)<|zAc 1<|S_a [(3,.v (PV.agg [I n.h,prs n.l,PV.sl (List.map ntV n.n),PV.sl (List.map zBp n.s)]))] (ap ((by simp only [show zAz (List.map prV n.l)=List.map prV n.l from (by first | exact zA7 _ | exact zBz _ | exact zBm _ | exact zBD (zBz _) | exact zBD (zBm _) | exact zEA (by simp [zC9]) (zA7 _)),show zAz (List.map ntV n.n)=List.map ntV n.n from (by first | exact zA7 _ | exact zBz _ | exact zBm _ | exact zBD (zBz _) | exact zBD (zBm _) | exact zEA (by simp [zC9]) (zA7 _)),show zAz (List.map zKr n.s)=List.map zBp n.s from (by first | exact zA7 _ | exact zBz _ | exact zBm _ | exact zBD (zBz _) | exact zBD (zBm _) | exact zEA (by simp [zC9]) (zA7 _))]):PV.agg [I n.h,PV.sl (zAz (List.map prV n.l)),PV.sl (zAz (List.map ntV n.n)),PV.sl (zAz (List.map zKr n.s))]=PV.agg [I n.h,prs n.l,PV.sl (List.map ntV n.n),PV.sl (List.map zBp n.s)]) an)<|zAa<|zAd 1<|S_a [(6,.ret (zB3 crs 0 0) [])] (ap (f7 crs) an)<|zAc 1<|S_a [(8,.ret (PV.own 2 (List.map prV cs)) ([zB3 crs a2 t2]))] (ap ga an)<|zAc 1<|zAa<|zAd 1<|S_a [(0,.v (I whe))] (ap ((zCo rfl (by omega)):I (IntKind.i64.wrap whe)=I whe) an)<|zAc 2<|zAa<|zAd 1<|S_a [(0,.v (I wh))] (ap ((zCo rfl (by omega)):I (IntKind.i64.wrap wh)=I wh) an)<|zAc 2<|S_a [(0,.n n.n.length)] (ap (lnS ntV n.n) an)<|S_a [(0,.v (I (wh.tmod (↑n.n.length:Int))))] (ap (zQs (by omega) rfl:zGI Try.prog BinOp.rem 3 (I wh) (I (↑n.n.length:Int))=some (I (wh.tmod (↑n.n.length:Int)))) an)<|zAc 1<|S_a [(0,.v (I whr))] (ap ((zCo rfl (by omega)):I (IntKind.i64.wrap whr)=I whr) an)<|zAc 2<|S_a [(0,.n n.s.length)] (ap (lnS zBp n.s) an)<|S_a [(0,.v (I (whr.tmod (↑n.s.length:Int))))] (ap (zQs (by omega) rfl:zGI Try.prog BinOp.rem 3 (I whr) (I (↑n.s.length:Int))=some (I (whr.tmod (↑n.s.length:Int)))) an)<|zAc 3<|zAa<|zAd 3<|S_a [(5,.ob),(0,.v (prs cs)),(4,.ret (PV.tup [PV.own 2 (List.map prV G),I 0]) []),(1,.yes)] (ap (blz (List.map prV cs))<|ap (frT prV cs)<|ap c1<|ap ((by exact zQ0 (zED _) rfl):(PV.tup [PV.own 2 (List.map prV G),I 0]).free=true) an)<|zAc 5<|zAa<|zAd 2<|S_a [(3,.ob),(0,.v (prs cs)),(2,.ret (PV.own 2 (List.map prV cs)) []),(1,.yes)] (ap (blz (List.map prV cs))<|ap (frT prV cs)<|ap (f10 cs (by omega))<|ap ((by exact zED _):(PV.own 2 (List.map prV cs)).free=true) an)<|zAc 2<|S_a [(4,.ob),(0,.ob),(0,.yes),(2,.v (PV.own 2 (List.map prV (cs++[(wh.tmod (↑n.n.length:Int),whr.tmod (↑n.s.length:Int))]))))] (ap (blz (List.map prV cs))<|ap ((by exact zA8 (by simp only [List.length_map,zzLn,zAY]<;>omega)):((List.map prV cs).length + [PV.agg [I (wh.tmod (↑n.n.length:Int)),I (whr.tmod (↑n.s.length:Int))]].length).ble zAY=true)<|ap ((by exact zBL (by simp<;>omega)):(0+(List.map prV cs).length).beq (List.map prV cs).length=true)<|ap ((zA6 (zBP (by kernel_rfl))):PV.own 2 (List.map prV cs++[PV.agg [I (wh.tmod (↑n.n.length:Int)),I (whr.tmod (↑n.s.length:Int))]])=PV.own 2 (List.map prV (cs++[(wh.tmod (↑n.n.length:Int),whr.tmod (↑n.s.length:Int))]))) an)<|zAc 1<|S_a [(5,.ob),(0,.v (prs (cs++[(wh.tmod (↑n.n.length:Int),whr.tmod (↑n.s.length:Int))]))),(4,.ret (PV.tup [PV.own 2 (List.map prV G2),I 0]) []),(1,.yes)] (ap (blz (List.map prV (cs++[(wh.tmod (↑n.n.length:Int),whr.tmod (↑n.s.length:Int))])))<|ap (frT prV (cs++[(wh.tmod (↑n.n.length:Int),whr.tmod (↑n.s.length:Int))]))<|ap c2<|ap ((by exact zQ0 (zED _) rfl):(PV.tup [PV.own 2 (List.map prV G2),I 0]).free=true) an)<|zAc 5<|zAa<|zAd 4<|S_a [(5,.ob),(0,.v (prs cs)),(6,.ret (PV.tup [PV.own 2 (List.map prV M),I 0]) []),(1,.yes)] (ap (blz (List.map prV cs))<|ap (frT prV cs)<|ap c3<|ap ((by exact zQ0 (zED _) rfl):(PV.tup [PV.own 2 (List.map prV M),I 0]).free=true) an)<|zAc 5<|zAa<|zAh<|zAd 10<|zAa<|zAK<|zAl<|zAh<|zAd 1<|S_a [(0,.n G.length)] (ap (lnS prV G) an)<|zAc 1<|zAa<|zAk 0 ?_
 refine zAD (fun i=>i≤G.length) (fun (i:Nat)=>[(88,I (i:Nat))]) (fun i=>G.length-i) (0:Nat) (Nat.zero_le _) fun i hi=>?_
 by_cases yW:i<G.length
 ·have hq:=zCu (d:=default) q1 i yW
  clear q1 q2 q3
  refine zAd 1<|zAa<|zAh<|zBj ((↑i:Int)<(↑G.length:Int)) (by omega)<|zAl<|zAh<|zAk 1<|zAh<|zAg<|S_a [(2,.ob),(1,.n i)] (ap ((by exact zAv (by simp only [List.length_map,zzLn]<;>omega)):decide (i<(List.map prV G).length)=true)<|ap ((by simp):some (0+i)=some i) an)<|S_a [(0,.cs true ([I (G.getD i default).fst,I (G.getD i default).snd]))] (ap (zDd (q:=PV.own 2 (List.map prV G)) (xs:=List.map prV G) (x:=PV.agg [I (G.getD i default).fst,I (G.getD i default).snd]) rfl (zDn default (by omega)):zAr 15 (PV.own 2 (List.map prV G)) [] i 0 Try.prog.types[42].size=some (true,[I (G.getD i default).fst,I (G.getD i default).snd])) an)<|zAc 2<|zAa<|zAd 2<|S_a [(3,.ob),(0,.v (prs M)),(4,.ret (PV.bool (has M (G.getD i default))) [])] (ap (blz (List.map prV M))<|ap (frT prV M)<|ap (f12 M (G.getD i default) (by omega)) an)<|zAc 2<|S_a [(3,.ob),(0,.v (prs G2)),(4,.ret (PV.bool (has G2 (G.getD i default))) [])] (ap (blz (List.map prV G2))<|ap (frT prV G2)<|ap (f12 G2 (G.getD i default) (by omega)) an)<|zAc 1<|zAa<|zFh (has M (G.getD i default)==has G2 (G.getD i default)) (fun k0=>(zAd 1<|zAa<|zAn<|E_a [] an (PV.bool false) [] ?_ rfl)) (fun k0=>(zAl<|zAg<|S_a [(1,.v (I (↑(i+1):Int)))] (ap (wrN i) an)<|zAc 1<|zAa ?_))
  ·exfalso
   rw [hq] at k0
   revert k0
   cases has G2 (G.getD i default)<;>simp
  ·exact ⟨i+1,by omega,by omega,by kernel_rfl,by kernel_rfl⟩
 clear q1
 refine zAd 1<|zAa<|zAh<|zBv ((↑i:Int)<(↑G.length:Int)) (by omega)<|zAS 0<|zAh<|zAd 1<|S_a [(0,.n M.length)] (ap (lnS prV M) an)<|zAc 1<|zAa<|zAk 2 ?_
 refine zAD (fun i=>i≤M.length) (fun (i:Nat)=>[(102,I (i:Nat))]) (fun i=>M.length-i) (0:Nat) (Nat.zero_le _) fun j hj=>?_
 by_cases jL:j<M.length
 ·have hq:=zCu (d:=default) q2 j jL
  clear q2 q3
  refine zAd 1<|zAa<|zAh<|zBj ((↑j:Int)<(↑M.length:Int)) (by omega)<|zAl<|zAh<|zAk 3<|zAh<|zAg<|S_a [(2,.ob),(1,.n j)] (ap ((by exact zAv (by simp only [List.length_map,zzLn]<;>omega)):decide (j<(List.map prV M).length)=true)<|ap ((by simp):some (0+j)=some j) an)<|S_a [(0,.cs true ([I (M.getD j default).fst,I (M.getD j default).snd]))] (ap (zDd (q:=PV.own 2 (List.map prV M)) (xs:=List.map prV M) (x:=PV.agg [I (M.getD j default).fst,I (M.getD j default).snd]) rfl (zDn default (by omega)):zAr 19 (PV.own 2 (List.map prV M)) [] j 0 Try.prog.types[42].size=some (true,[I (M.getD j default).fst,I (M.getD j default).snd])) an)<|zAc 2<|zAa<|zAd 2<|S_a [(3,.ob),(0,.v (prs G)),(4,.ret (PV.bool (has G (M.getD j default))) [])] (ap (blz (List.map prV G))<|ap (frT prV G)<|ap (f12 G (M.getD j default) (by omega)) an)<|zAc 1<|zAa<|zFh (!has G (M.getD j default)) (fun k0=>(zAd 1<|zAa<|zAn<|E_a [] an (PV.bool false) [] ?_ rfl)) (fun k0=>(zAl<|zAg<|S_a [(1,.v (I (↑(j+1):Int)))] (ap (wrN j) an)<|zAc 1<|zAa ?_))
  ·exfalso;rw [hq] at k0;simp at k0
  ·exact ⟨j+1,by omega,by omega,by kernel_rfl,by kernel_rfl⟩
 clear q2
 refine zAd 1<|zAa<|zAh<|zBv ((↑j:Int)<(↑M.length:Int)) (by omega)<|zAS 2<|zAh<|zAd 1<|S_a [(0,.n G2.length)] (ap (lnS prV G2) an)<|zAc 1<|zAa<|zAk 4 ?_
 refine zAD (fun i=>i≤G2.length) (fun (i:Nat)=>[(113,I (i:Nat))]) (fun i=>G2.length-i) (0:Nat) (Nat.zero_le _) fun k hk=>?_
 by_cases vW:k<G2.length
 ·have hq:=fun h=>zCu (d:=default) (q3 h) k vW
  clear q3
  refine zAd 1<|zAa<|zAh<|zBj ((↑k:Int)<(↑G2.length:Int)) (by omega)<|zAl<|zAh<|zAk 5<|zAh<|zAg<|S_a [(2,.ob),(1,.n k)] (ap ((by exact zAv (by simp only [List.length_map,zzLn]<;>omega)):decide (k<(List.map prV G2).length)=true)<|ap ((by simp):some (0+k)=some k) an)<|S_a [(0,.cs true ([I (G2.getD k default).fst,I (G2.getD k default).snd]))] (ap (zDd (q:=PV.own 2 (List.map prV G2)) (xs:=List.map prV G2) (x:=PV.agg [I (G2.getD k default).fst,I (G2.getD k default).snd]) rfl (zDn default (by omega)):zAr 17 (PV.own 2 (List.map prV G2)) [] k 0 Try.prog.types[42].size=some (true,[I (G2.getD k default).fst,I (G2.getD k default).snd])) an)<|zAc 2<|zAa<|zAd 3<|S_a [(8,.ret (I la) [])] (ap qa an)<|zAc 4<|zLr 124 (la=wh.tmod (↑n.n.length:Int)) (fun k1=>(zAc 2<|S_a [(3,.ob),(0,.v (prs G)),(4,.ret (PV.bool (has G (G2.getD k default))) [])] (ap (blz (List.map prV G))<|ap (frT prV G)<|ap (f12 G (G2.getD k default) (by omega)) an)<|zAc 2<|zAa<|zFh (!has G (G2.getD k default)) (fun k2=>(zAd 1<|zAa<|zAn<|E_a [] an (PV.bool false) [] ?_ rfl)) (fun k2=>(zAl<|zAg<|S_a [(1,.v (I (↑(k+1):Int)))] (ap (wrN k) an)<|zAc 1<|zAa ?_)))) (fun k1=>(zAc 5<|zAa<|zAK<|zAl<|zAg<|S_a [(1,.v (I (↑(k+1):Int)))] (ap (wrN k) an)<|zAc 1<|zAa ?_))
  ·exfalso;rw [hq k1] at k2;simp at k2
  ·exact ⟨k+1,by omega,by omega,by kernel_rfl,by kernel_rfl⟩
  ·exact ⟨k+1,by omega,by omega,by kernel_rfl,by kernel_rfl⟩
 have uD:=f14
 clear q3
 refine zAd 1<|zAa<|zAh<|zBv ((↑k:Int)<(↑G2.length:Int)) (by omega)<|zAS 4<|zAh<|zAg<|S_a [(4,.ret (PV.bool true) [])] (ap uD an)<|zAc 1<|zAa<|zAn<|E_a [] an (PV.bool true) [] rfl rfl
end Go.Eng
set_option maxRecDepth 100000
namespace Go.Proofs.Ytppbomajegnkeaa
open Go.ChangeShapes Go.WideShapes Go.ChangeAt Go.RowKit Go.Eng
theorem newsFurther_gives (ss:List (Bool×List Sh)) (wM:zE4 Try.prog Try.f3.params.toList=some ss) (qs:List PV) (hq:zKX ss qs):@zBC (yo1 Try.prog zBN) Try.prog zBN 3 qs [] (.bool true) []:=by
 have he:zE4 Try.prog Try.f3.params.toList=some [(false,[.list false [.num .u8]]),(false,[.list false [.num .u8]]),(false,[.num .u8]),(false,[.num .u8]),(false,[.num .u8])]:=by kernel_rfl
 rw [he] at wM
 cases wM
 obtain ⟨p0,qs0,rfl,h0,hq0⟩:=hq
 obtain ⟨p1,qs1,rfl,h1,kT⟩:=hq0
 obtain ⟨p2,qs2,rfl,h2,kR⟩:=kT
 obtain ⟨p3,qs3,rfl,h3,hq3⟩:=kR
 obtain ⟨p4,qs4,rfl,h4,hq4⟩:=hq3
 simp only [zKX] at hq4
 subst hq4
 obtain ⟨x0,rfl,l0,b0⟩:=zQL h0
 unfold maxLen at l0
 simp only [IntKind.min,IntKind.max,IntKind.signed,IntKind.bits] at b0
 simp at b0
 obtain ⟨x1,rfl,l1,b1⟩:=zQL h1
 unfold maxLen at l1
 simp only [IntKind.min,IntKind.max,IntKind.signed,IntKind.bits] at b1
 simp at b1
 obtain ⟨x2,rfl,b2⟩:=zPV h2
 simp only [IntKind.min,IntKind.max,IntKind.signed,IntKind.bits] at b2
 simp at b2
 obtain ⟨x3,rfl,b3⟩:=zPV h3
 simp only [IntKind.min,IntKind.max,IntKind.signed,IntKind.bits] at b3
 simp at b3
 obtain ⟨x4,rfl,b4⟩:=zPV h4
 simp only [IntKind.min,IntKind.max,IntKind.signed,IntKind.bits] at b4
 simp at b4
 exact f3 x0 x1 x2 x3 x4 (by omega) (by omega) (by omega) (by omega) (by omega)
theorem newsFurther_lifted (os:Os) (started:os.Started) (H:Type) (enc:TypeId×Value→H) :
  ReturnsInHanded {} Try.checked os 3 .any (Rows.newsFurtherSpec.pre6 enc Try.prog Try.f3 Rows.newsFurtherRow.domain false) (Rows.newsFurtherSpec.post enc Try.prog Try.f3 false true false false):=by
 refine returnsInHanded_of_change (C:=Try.checked) Try.own started (by kernel_rfl) Try.func3
  (ChangeSpec.witness6 (enc:=enc) (C:=Try.checked) false ⟨#[],#[.slice none 0 0,.slice none 0 0,.int .u8 0,.int .u8 0,.int .u8 0],[]⟩ 8 (by kernel_rfl) (by kernel_rfl) (by kernel_rfl) (by kernel_rfl)) ?_
 intro W base args ds gs before hval0 hW hcnd _
 obtain ⟨p,q,hA0,hV,_,_,_⟩:=id hW
 obtain ⟨rfl,rfl⟩:=trodVars_none hV
 obtain ⟨ss,wM⟩:∃ ss,zE4 Try.prog Try.f3.params.toList=some ss:=Option.isSome_iff_exists.1 (by kernel_rfl)
 have hZ:ss.length≤1000:=by
  have h:((zE4 Try.prog Try.f3.params.toList).map fun s=>Nat.ble s.length 1000)=some true:=by kernel_rfl
  rw [wM] at h
  simpa using h
 exact zT8 zE9 hnm zMJ hin Try.laidOut rfl Try.underlying4 (by kernel_rfl) (by kernel_rfl) (fun ds hd=>by match ds,hd with | [d0,d1,d2,d3,d4],_=>rfl) wM hZ (newsFurther_gives ss wM) hval0 hW
theorem newsFurther_holds:Rows.NewsFurtherSaid :=
 OpenClaim.holds_of_wide 3 Try.f3 rfl rfl rfl rfl rfl rfl rfl ⟨rfl,rfl,rfl,rfl,rfl⟩ rfl rfl rfl rfl rfl (by kernel_rfl) Try.func3 (by kernel_rfl)
  (of_decide_eq_true (by kernel_rfl)) (by unfold Func.isWrapper;first | (rw [if_pos (by decide +kernel)];kernel_rfl) | (rw [if_neg (by decide +kernel)];exact ⟨rfl,rfl⟩))
  (fun os started H enc _=>newsFurther_lifted os started H enc)
end Go.Proofs.Ytppbomajegnkeaa
