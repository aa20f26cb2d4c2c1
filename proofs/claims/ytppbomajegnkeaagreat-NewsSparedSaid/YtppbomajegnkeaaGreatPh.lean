/- For all numbers, cries, which and when the law NewsSpared ends in true: without a cry that is told all yn hold the same, without another one some hold something else; without conditions. -/
import Derived.Test.YtppbomajegnkeaaGreatPg
import Derived.Test.YtppbomajegnkeaaGreatPd
import Derived.Test.YtppbomajegnkeaaGreatPe
set_option linter.unusedVariables false
set_option linter.unusedSimpArgs false
set_option linter.unusedSectionVars false
set_option maxRecDepth 10000
set_option maxHeartbeats 4000000
namespace Go.Eng
open Go Go.Proofs
theorem zTG {n:Nw} {cs:List (Int×Int)} {c:Int×Int} (h:CrW n cs) (hl:cs.length<1000) (hc:(0≤c.1∧c.1<n.n.length)∧(0≤c.2∧c.2<n.s.length)):CrW n (cs++[c]) :=
 ⟨h.nw,by simp;omega,fun x hx=>by
  rcases List.mem_append.1 hx with h1 | h1
  ·exact h.cs x h1
  ·rw [List.mem_singleton] at h1;subst h1;exact hc⟩
theorem zXW (n:Nw) (c:Int×Int):FG 171 [zDT n [],prV c] (.box (zCS n (.own 2 (([]++[c]).map prV)) (mapM (n.l.map pr2)) (zAi n) (zBo n))):=by
 refine zAe Tryz.f171 ?_
 refine zAd 2<|zAa<|zAd 5<|zAa<|zAd 4<|zAc 1<|zAc 4<|zAc 1<|zAc 1<|zAc 3<|zAa<|zAd 1<|zAc 1<|zAc 4<|zAc 1<|zAa<|zAd 1<|zAc 1<|zAc 5<|zAa<|zAd 1<|zAa<|zAn<|E_a [] an ((PV.agg (I n.h::prs n.l::PV.sl (List.map ntV n.n)::PV.sl (List.map zA5 n.s)::PV.own 2 [PV.agg [I c.fst,I c.snd]]::PV.map (List.map zBJ (List.map pr2 n.l))::(zAX (zAi n) 8++zAX (zBo n) 8))).box) [] rfl rfl
theorem zZm (n:Nw) (c:Int×Int) (x0:Int×Int):FG 171 [zDT n [x0],prV c] (.box (zCS n (.own 2 (([x0]++[c]).map prV)) (mapM (n.l.map pr2)) (zAi n) (zBo n))):=by
 refine zAe Tryz.f171 ?_
 refine zAd 2<|zAa<|zAd 5<|zAa<|zAd 4<|zAc 1<|zAc 4<|zAc 1<|zAc 1<|zAc 3<|zAa<|zAd 1<|zAc 1<|zAc 4<|zAc 1<|zAa<|zAd 1<|zAc 1<|zAc 5<|zAa<|zAd 1<|zAa<|zAn<|E_a [] an ((PV.agg (I n.h::prs n.l::PV.sl (List.map ntV n.n)::PV.sl (List.map zA5 n.s)::PV.own 2 [PV.agg [I x0.fst,I x0.snd],PV.agg [I c.fst,I c.snd]]::PV.map (List.map zBJ (List.map pr2 n.l))::(zAX (zAi n) 8++zAX (zBo n) 8))).box) [] rfl rfl
theorem zX4 (n:Nw) (c:Int×Int) (x0 x1:Int×Int):FG 171 [zDT n [x0,x1],prV c] (.box (zCS n (.own 2 (([x0,x1]++[c]).map prV)) (mapM (n.l.map pr2)) (zAi n) (zBo n))):=by
 refine zAe Tryz.f171 ?_
 refine zAd 2<|zAa<|zAd 5<|zAa<|zAd 4<|zAc 1<|zAc 4<|zAc 1<|zAc 1<|zAc 3<|zAa<|zAd 1<|zAc 1<|zAc 4<|zAc 1<|zAa<|zAd 1<|zAc 1<|zAc 5<|zAa<|zAd 1<|zAa<|zAn<|E_a [] an ((PV.agg (I n.h::prs n.l::PV.sl (List.map ntV n.n)::PV.sl (List.map zA5 n.s)::PV.own 2 [PV.agg [I x0.fst,I x0.snd],PV.agg [I x1.fst,I x1.snd],PV.agg [I c.fst,I c.snd]]::PV.map (List.map zBJ (List.map pr2 n.l))::(zAX (zAi n) 8++zAX (zBo n) 8))).box) [] rfl rfl
theorem zZk (n:Nw) (c:Int×Int) (x0 x1 x2:Int×Int):FG 171 [zDT n [x0,x1,x2],prV c] (.box (zCS n (.own 2 (([x0,x1,x2]++[c]).map prV)) (mapM (n.l.map pr2)) (zAi n) (zBo n))):=by
 refine zAe Tryz.f171 ?_
 refine zAd 2<|zAa<|zAd 5<|zAa<|zAd 4<|zAc 1<|zAc 4<|zAc 1<|zAc 1<|zAc 3<|zAa<|zAd 1<|zAc 1<|zAc 4<|zAc 1<|zAa<|zAd 1<|zAc 1<|zAc 5<|zAa<|zAd 1<|zAa<|zAn<|E_a [] an ((PV.agg (I n.h::prs n.l::PV.sl (List.map ntV n.n)::PV.sl (List.map zA5 n.s)::PV.own 2 [PV.agg [I x0.fst,I x0.snd],PV.agg [I x1.fst,I x1.snd],PV.agg [I x2.fst,I x2.snd],PV.agg [I c.fst,I c.snd]]::PV.map (List.map zBJ (List.map pr2 n.l))::(zAX (zAi n) 8++zAX (zBo n) 8))).box) [] rfl rfl
theorem zYU (n:Nw) (c:Int×Int) (x0 x1 x2 x3:Int×Int):FG 171 [zDT n [x0,x1,x2,x3],prV c] (.box (zCS n (.own 2 (([x0,x1,x2,x3]++[c]).map prV)) (mapM (n.l.map pr2)) (zAi n) (zBo n))):=by
 refine zAe Tryz.f171 ?_
 refine zAd 2<|zAa<|zAd 5<|zAa<|zAd 4<|zAc 1<|zAc 4<|zAc 1<|zAc 1<|zAc 3<|zAa<|zAd 1<|zAc 1<|zAc 4<|zAc 1<|zAa<|zAd 1<|zAc 1<|zAc 5<|zAa<|zAd 1<|zAa<|zAn<|E_a [] an ((PV.agg (I n.h::prs n.l::PV.sl (List.map ntV n.n)::PV.sl (List.map zA5 n.s)::PV.own 2 [PV.agg [I x0.fst,I x0.snd],PV.agg [I x1.fst,I x1.snd],PV.agg [I x2.fst,I x2.snd],PV.agg [I x3.fst,I x3.snd],PV.agg [I c.fst,I c.snd]]::PV.map (List.map zBJ (List.map pr2 n.l))::(zAX (zAi n) 8++zAX (zBo n) 8))).box) [] rfl rfl
theorem zYG (n:Nw) (c:Int×Int) (x0 x1 x2 x3 x4:Int×Int):FG 171 [zDT n [x0,x1,x2,x3,x4],prV c] (.box (zCS n (.own 2 (([x0,x1,x2,x3,x4]++[c]).map prV)) (mapM (n.l.map pr2)) (zAi n) (zBo n))):=by
 refine zAe Tryz.f171 ?_
 refine zAd 2<|zAa<|zAd 5<|zAa<|zAd 4<|zAc 1<|zAc 4<|zAc 1<|zAc 1<|zAc 3<|zAa<|zAd 1<|zAc 1<|zAc 4<|zAc 1<|zAa<|zAd 1<|zAc 1<|zAc 5<|zAa<|zAd 1<|zAa<|zAn<|E_a [] an ((PV.agg (I n.h::prs n.l::PV.sl (List.map ntV n.n)::PV.sl (List.map zA5 n.s)::PV.own 2 [PV.agg [I x0.fst,I x0.snd],PV.agg [I x1.fst,I x1.snd],PV.agg [I x2.fst,I x2.snd],PV.agg [I x3.fst,I x3.snd],PV.agg [I x4.fst,I x4.snd],PV.agg [I c.fst,I c.snd]]::PV.map (List.map zBJ (List.map pr2 n.l))::(zAX (zAi n) 8++zAX (zBo n) 8))).box) [] rfl rfl
theorem zZf (n:Nw) (c:Int×Int) (x0 x1 x2 x3 x4 x5:Int×Int):FG 171 [zDT n [x0,x1,x2,x3,x4,x5],prV c] (.box (zCS n (.own 2 (([x0,x1,x2,x3,x4,x5]++[c]).map prV)) (mapM (n.l.map pr2)) (zAi n) (zBo n))):=by
 refine zAe Tryz.f171 ?_
 refine zAd 2<|zAa<|zAd 5<|zAa<|zAd 4<|zAc 1<|zAc 4<|zAc 1<|zAc 1<|zAc 3<|zAa<|zAd 1<|zAc 1<|zAc 4<|zAc 1<|zAa<|zAd 1<|zAc 1<|zAc 5<|zAa<|zAd 1<|zAa<|zAn<|E_a [] an ((PV.agg (I n.h::prs n.l::PV.sl (List.map ntV n.n)::PV.sl (List.map zA5 n.s)::PV.own 2 [PV.agg [I x0.fst,I x0.snd],PV.agg [I x1.fst,I x1.snd],PV.agg [I x2.fst,I x2.snd],PV.agg [I x3.fst,I x3.snd],PV.agg [I x4.fst,I x4.snd],PV.agg [I x5.fst,I x5.snd],PV.agg [I c.fst,I c.snd]]::PV.map (List.map zBJ (List.map pr2 n.l))::(zAX (zAi n) 8++zAX (zBo n) 8))).box) [] rfl rfl
theorem zYc (n:Nw) (c:Int×Int) (x0 x1 x2 x3 x4 x5 x6:Int×Int):FG 171 [zDT n [x0,x1,x2,x3,x4,x5,x6],prV c] (.box (zCS n (.own 2 (([x0,x1,x2,x3,x4,x5,x6]++[c]).map prV)) (mapM (n.l.map pr2)) (zAi n) (zBo n))):=by
 refine zAe Tryz.f171 ?_
 refine zAd 2<|zAa<|zAd 5<|zAa<|zAd 4<|zAc 1<|zAc 4<|zAc 1<|zAc 1<|zAc 3<|zAa<|zAd 1<|zAc 1<|zAc 4<|zAc 1<|zAa<|zAd 1<|zAc 1<|zAc 5<|zAa<|zAd 1<|zAa<|zAn<|E_a [] an ((PV.agg (I n.h::prs n.l::PV.sl (List.map ntV n.n)::PV.sl (List.map zA5 n.s)::PV.own 2 [PV.agg [I x0.fst,I x0.snd],PV.agg [I x1.fst,I x1.snd],PV.agg [I x2.fst,I x2.snd],PV.agg [I x3.fst,I x3.snd],PV.agg [I x4.fst,I x4.snd],PV.agg [I x5.fst,I x5.snd],PV.agg [I x6.fst,I x6.snd],PV.agg [I c.fst,I c.snd]]::PV.map (List.map zBJ (List.map pr2 n.l))::(zAX (zAi n) 8++zAX (zBo n) 8))).box) [] rfl rfl
theorem zY6 (n:Nw) (c:Int×Int) (x0 x1 x2 x3 x4 x5 x6 x7:Int×Int):FG 171 [zDT n [x0,x1,x2,x3,x4,x5,x6,x7],prV c] (.box (zCS n (.own 2 (([x0,x1,x2,x3,x4,x5,x6,x7]++[c]).map prV)) (mapM (n.l.map pr2)) (zAi n) (zBo n))):=by
 refine zAe Tryz.f171 ?_
 refine zAd 2<|zAa<|zAd 5<|zAa<|zAd 4<|zAc 1<|zAc 4<|zAc 1<|zAc 1<|zAc 3<|zAa<|zAd 1<|zAc 1<|zAc 4<|zAc 1<|zAa<|zAd 1<|zAc 1<|zAc 5<|zAa<|zAd 1<|zAa<|zAn<|E_a [] an ((PV.agg (I n.h::prs n.l::PV.sl (List.map ntV n.n)::PV.sl (List.map zA5 n.s)::PV.own 2 [PV.agg [I x0.fst,I x0.snd],PV.agg [I x1.fst,I x1.snd],PV.agg [I x2.fst,I x2.snd],PV.agg [I x3.fst,I x3.snd],PV.agg [I x4.fst,I x4.snd],PV.agg [I x5.fst,I x5.snd],PV.agg [I x6.fst,I x6.snd],PV.agg [I x7.fst,I x7.snd],PV.agg [I c.fst,I c.snd]]::PV.map (List.map zBJ (List.map pr2 n.l))::(zAX (zAi n) 8++zAX (zBo n) 8))).box) [] rfl rfl
theorem zYp (n:Nw) (c:Int×Int) (x0 x1 x2 x3 x4 x5 x6 x7 x8:Int×Int):FG 171 [zDT n [x0,x1,x2,x3,x4,x5,x6,x7,x8],prV c] (.box (zCS n (.own 2 (([x0,x1,x2,x3,x4,x5,x6,x7,x8]++[c]).map prV)) (mapM (n.l.map pr2)) (zAi n) (zBo n))):=by
 refine zAe Tryz.f171 ?_
 refine zAd 2<|zAa<|zAd 5<|zAa<|zAd 4<|zAc 1<|zAc 4<|zAc 1<|zAc 1<|zAc 3<|zAa<|zAd 1<|zAc 1<|zAc 4<|zAc 1<|zAa<|zAd 1<|zAc 1<|zAc 5<|zAa<|zAd 1<|zAa<|zAn<|E_a [] an ((PV.agg (I n.h::prs n.l::PV.sl (List.map ntV n.n)::PV.sl (List.map zA5 n.s)::PV.own 2 [PV.agg [I x0.fst,I x0.snd],PV.agg [I x1.fst,I x1.snd],PV.agg [I x2.fst,I x2.snd],PV.agg [I x3.fst,I x3.snd],PV.agg [I x4.fst,I x4.snd],PV.agg [I x5.fst,I x5.snd],PV.agg [I x6.fst,I x6.snd],PV.agg [I x7.fst,I x7.snd],PV.agg [I x8.fst,I x8.snd],PV.agg [I c.fst,I c.snd]]::PV.map (List.map zBJ (List.map pr2 n.l))::(zAX (zAi n) 8++zAX (zBo n) 8))).box) [] rfl rfl
theorem zW0 (n:Nw) (c:Int×Int) (x0 x1 x2 x3 x4 x5 x6 x7 x8 x9:Int×Int):FG 171 [zDT n [x0,x1,x2,x3,x4,x5,x6,x7,x8,x9],prV c] (.box (zCS n (.own 2 (([x0,x1,x2,x3,x4,x5,x6,x7,x8,x9]++[c]).map prV)) (mapM (n.l.map pr2)) (zAi n) (zBo n))):=by
 refine zAe Tryz.f171 ?_
 refine zAd 2<|zAa<|zAd 5<|zAa<|zAd 4<|zAc 1<|zAc 4<|zAc 1<|zAc 1<|zAc 3<|zAa<|zAd 1<|zAc 1<|zAc 4<|zAc 1<|zAa<|zAd 1<|zAc 1<|zAc 5<|zAa<|zAd 1<|zAa<|zAn<|E_a [] an ((PV.agg (I n.h::prs n.l::PV.sl (List.map ntV n.n)::PV.sl (List.map zA5 n.s)::PV.own 2 [PV.agg [I x0.fst,I x0.snd],PV.agg [I x1.fst,I x1.snd],PV.agg [I x2.fst,I x2.snd],PV.agg [I x3.fst,I x3.snd],PV.agg [I x4.fst,I x4.snd],PV.agg [I x5.fst,I x5.snd],PV.agg [I x6.fst,I x6.snd],PV.agg [I x7.fst,I x7.snd],PV.agg [I x8.fst,I x8.snd],PV.agg [I x9.fst,I x9.snd],PV.agg [I c.fst,I c.snd]]::PV.map (List.map zBJ (List.map pr2 n.l))::(zAX (zAi n) 8++zAX (zBo n) 8))).box) [] rfl rfl
theorem zXp (n:Nw) (c:Int×Int) (x0 x1 x2 x3 x4 x5 x6 x7 x8 x9 x10:Int×Int):FG 171 [zDT n [x0,x1,x2,x3,x4,x5,x6,x7,x8,x9,x10],prV c] (.box (zCS n (.own 2 (([x0,x1,x2,x3,x4,x5,x6,x7,x8,x9,x10]++[c]).map prV)) (mapM (n.l.map pr2)) (zAi n) (zBo n))):=by
 refine zAe Tryz.f171 ?_
 refine zAd 2<|zAa<|zAd 5<|zAa<|zAd 4<|zAc 1<|zAc 4<|zAc 1<|zAc 1<|zAc 3<|zAa<|zAd 1<|zAc 1<|zAc 4<|zAc 1<|zAa<|zAd 1<|zAc 1<|zAc 5<|zAa<|zAd 1<|zAa<|zAn<|E_a [] an ((PV.agg (I n.h::prs n.l::PV.sl (List.map ntV n.n)::PV.sl (List.map zA5 n.s)::PV.own 2 [PV.agg [I x0.fst,I x0.snd],PV.agg [I x1.fst,I x1.snd],PV.agg [I x2.fst,I x2.snd],PV.agg [I x3.fst,I x3.snd],PV.agg [I x4.fst,I x4.snd],PV.agg [I x5.fst,I x5.snd],PV.agg [I x6.fst,I x6.snd],PV.agg [I x7.fst,I x7.snd],PV.agg [I x8.fst,I x8.snd],PV.agg [I x9.fst,I x9.snd],PV.agg [I x10.fst,I x10.snd],PV.agg [I c.fst,I c.snd]]::PV.map (List.map zBJ (List.map pr2 n.l))::(zAX (zAi n) 8++zAX (zBo n) 8))).box) [] rfl rfl
theorem zXw (n:Nw) (c:Int×Int) (x0 x1 x2 x3 x4 x5 x6 x7 x8 x9 x10 x11:Int×Int):FG 171 [zDT n [x0,x1,x2,x3,x4,x5,x6,x7,x8,x9,x10,x11],prV c] (.box (zCS n (.own 2 (([x0,x1,x2,x3,x4,x5,x6,x7,x8,x9,x10,x11]++[c]).map prV)) (mapM (n.l.map pr2)) (zAi n) (zBo n))):=by
 refine zAe Tryz.f171 ?_
 refine zAd 2<|zAa<|zAd 5<|zAa<|zAd 4<|zAc 1<|zAc 4<|zAc 1<|zAc 1<|zAc 3<|zAa<|zAd 1<|zAc 1<|zAc 4<|zAc 1<|zAa<|zAd 1<|zAc 1<|zAc 5<|zAa<|zAd 1<|zAa<|zAn<|E_a [] an ((PV.agg (I n.h::prs n.l::PV.sl (List.map ntV n.n)::PV.sl (List.map zA5 n.s)::PV.own 2 [PV.agg [I x0.fst,I x0.snd],PV.agg [I x1.fst,I x1.snd],PV.agg [I x2.fst,I x2.snd],PV.agg [I x3.fst,I x3.snd],PV.agg [I x4.fst,I x4.snd],PV.agg [I x5.fst,I x5.snd],PV.agg [I x6.fst,I x6.snd],PV.agg [I x7.fst,I x7.snd],PV.agg [I x8.fst,I x8.snd],PV.agg [I x9.fst,I x9.snd],PV.agg [I x10.fst,I x10.snd],PV.agg [I x11.fst,I x11.snd],PV.agg [I c.fst,I c.snd]]::PV.map (List.map zBJ (List.map pr2 n.l))::(zAX (zAi n) 8++zAX (zBo n) 8))).box) [] rfl rfl
theorem zXd (n:Nw) (c:Int×Int) (x0 x1 x2 x3 x4 x5 x6 x7 x8 x9 x10 x11 x12:Int×Int):FG 171 [zDT n [x0,x1,x2,x3,x4,x5,x6,x7,x8,x9,x10,x11,x12],prV c] (.box (zCS n (.own 2 (([x0,x1,x2,x3,x4,x5,x6,x7,x8,x9,x10,x11,x12]++[c]).map prV)) (mapM (n.l.map pr2)) (zAi n) (zBo n))):=by
 refine zAe Tryz.f171 ?_
 refine zAd 2<|zAa<|zAd 5<|zAa<|zAd 4<|zAc 1<|zAc 4<|zAc 1<|zAc 1<|zAc 3<|zAa<|zAd 1<|zAc 1<|zAc 4<|zAc 1<|zAa<|zAd 1<|zAc 1<|zAc 5<|zAa<|zAd 1<|zAa<|zAn<|E_a [] an ((PV.agg (I n.h::prs n.l::PV.sl (List.map ntV n.n)::PV.sl (List.map zA5 n.s)::PV.own 2 [PV.agg [I x0.fst,I x0.snd],PV.agg [I x1.fst,I x1.snd],PV.agg [I x2.fst,I x2.snd],PV.agg [I x3.fst,I x3.snd],PV.agg [I x4.fst,I x4.snd],PV.agg [I x5.fst,I x5.snd],PV.agg [I x6.fst,I x6.snd],PV.agg [I x7.fst,I x7.snd],PV.agg [I x8.fst,I x8.snd],PV.agg [I x9.fst,I x9.snd],PV.agg [I x10.fst,I x10.snd],PV.agg [I x11.fst,I x11.snd],PV.agg [I x12.fst,I x12.snd],PV.agg [I c.fst,I c.snd]]::PV.map (List.map zBJ (List.map pr2 n.l))::(zAX (zAi n) 8++zAX (zBo n) 8))).box) [] rfl rfl
theorem zXo (n:Nw) (c:Int×Int) (x0 x1 x2 x3 x4 x5 x6 x7 x8 x9 x10 x11 x12 x13:Int×Int):FG 171 [zDT n [x0,x1,x2,x3,x4,x5,x6,x7,x8,x9,x10,x11,x12,x13],prV c] (.box (zCS n (.own 2 (([x0,x1,x2,x3,x4,x5,x6,x7,x8,x9,x10,x11,x12,x13]++[c]).map prV)) (mapM (n.l.map pr2)) (zAi n) (zBo n))):=by
 refine zAe Tryz.f171 ?_
 refine zAd 2<|zAa<|zAd 5<|zAa<|zAd 4<|zAc 1<|zAc 4<|zAc 1<|zAc 1<|zAc 3<|zAa<|zAd 1<|zAc 1<|zAc 4<|zAc 1<|zAa<|zAd 1<|zAc 1<|zAc 5<|zAa<|zAd 1<|zAa<|zAn<|E_a [] an ((PV.agg (I n.h::prs n.l::PV.sl (List.map ntV n.n)::PV.sl (List.map zA5 n.s)::PV.own 2 [PV.agg [I x0.fst,I x0.snd],PV.agg [I x1.fst,I x1.snd],PV.agg [I x2.fst,I x2.snd],PV.agg [I x3.fst,I x3.snd],PV.agg [I x4.fst,I x4.snd],PV.agg [I x5.fst,I x5.snd],PV.agg [I x6.fst,I x6.snd],PV.agg [I x7.fst,I x7.snd],PV.agg [I x8.fst,I x8.snd],PV.agg [I x9.fst,I x9.snd],PV.agg [I x10.fst,I x10.snd],PV.agg [I x11.fst,I x11.snd],PV.agg [I x12.fst,I x12.snd],PV.agg [I x13.fst,I x13.snd],PV.agg [I c.fst,I c.snd]]::PV.map (List.map zBJ (List.map pr2 n.l))::(zAX (zAi n) 8++zAX (zBo n) 8))).box) [] rfl rfl
theorem zXz (n:Nw) (c:Int×Int) (x0 x1 x2 x3 x4 x5 x6 x7 x8 x9 x10 x11 x12 x13 x14:Int×Int):FG 171 [zDT n [x0,x1,x2,x3,x4,x5,x6,x7,x8,x9,x10,x11,x12,x13,x14],prV c] (.box (zCS n (.own 2 (([x0,x1,x2,x3,x4,x5,x6,x7,x8,x9,x10,x11,x12,x13,x14]++[c]).map prV)) (mapM (n.l.map pr2)) (zAi n) (zBo n))):=by
 refine zAe Tryz.f171 ?_
 refine zAd 2<|zAa<|zAd 5<|zAa<|zAd 4<|zAc 1<|zAc 4<|zAc 1<|zAc 1<|zAc 3<|zAa<|zAd 1<|zAc 1<|zAc 4<|zAc 1<|zAa<|zAd 1<|zAc 1<|zAc 5<|zAa<|zAd 1<|zAa<|zAn<|E_a [] an ((PV.agg (I n.h::prs n.l::PV.sl (List.map ntV n.n)::PV.sl (List.map zA5 n.s)::PV.own 2 [PV.agg [I x0.fst,I x0.snd],PV.agg [I x1.fst,I x1.snd],PV.agg [I x2.fst,I x2.snd],PV.agg [I x3.fst,I x3.snd],PV.agg [I x4.fst,I x4.snd],PV.agg [I x5.fst,I x5.snd],PV.agg [I x6.fst,I x6.snd],PV.agg [I x7.fst,I x7.snd],PV.agg [I x8.fst,I x8.snd],PV.agg [I x9.fst,I x9.snd],PV.agg [I x10.fst,I x10.snd],PV.agg [I x11.fst,I x11.snd],PV.agg [I x12.fst,I x12.snd],PV.agg [I x13.fst,I x13.snd],PV.agg [I x14.fst,I x14.snd],PV.agg [I c.fst,I c.snd]]::PV.map (List.map zBJ (List.map pr2 n.l))::(zAX (zAi n) 8++zAX (zBo n) 8))).box) [] rfl rfl
theorem zWR (n:Nw) (c:Int×Int) (x0 x1 x2 x3 x4 x5 x6 x7 x8 x9 x10 x11 x12 x13 x14 x15:Int×Int):FG 171 [zDT n [x0,x1,x2,x3,x4,x5,x6,x7,x8,x9,x10,x11,x12,x13,x14,x15],prV c] (.box (zCS n (.own 2 (([x0,x1,x2,x3,x4,x5,x6,x7,x8,x9,x10,x11,x12,x13,x14,x15]++[c]).map prV)) (mapM (n.l.map pr2)) (zAi n) (zBo n))):=by
 refine zAe Tryz.f171 ?_
 refine zAd 2<|zAa<|zAd 5<|zAa<|zAd 4<|zAc 1<|zAc 4<|zAc 1<|zAc 1<|zAc 3<|zAa<|zAd 1<|zAc 1<|zAc 4<|zAc 1<|zAa<|zAd 1<|zAc 1<|zAc 5<|zAa<|zAd 1<|zAa<|zAn<|E_a [] an ((PV.agg (I n.h::prs n.l::PV.sl (List.map ntV n.n)::PV.sl (List.map zA5 n.s)::PV.own 2 [PV.agg [I x0.fst,I x0.snd],PV.agg [I x1.fst,I x1.snd],PV.agg [I x2.fst,I x2.snd],PV.agg [I x3.fst,I x3.snd],PV.agg [I x4.fst,I x4.snd],PV.agg [I x5.fst,I x5.snd],PV.agg [I x6.fst,I x6.snd],PV.agg [I x7.fst,I x7.snd],PV.agg [I x8.fst,I x8.snd],PV.agg [I x9.fst,I x9.snd],PV.agg [I x10.fst,I x10.snd],PV.agg [I x11.fst,I x11.snd],PV.agg [I x12.fst,I x12.snd],PV.agg [I x13.fst,I x13.snd],PV.agg [I x14.fst,I x14.snd],PV.agg [I x15.fst,I x15.snd],PV.agg [I c.fst,I c.snd]]::PV.map (List.map zBJ (List.map pr2 n.l))::(zAX (zAi n) 8++zAX (zBo n) 8))).box) [] rfl rfl
theorem f171 (n:Nw) (cs:List (Int×Int)) (c:Int×Int) (hl:cs.length≤16):FG 171 [zDT n cs,prV c] (.box (zCS n (.own 2 ((cs++[c]).map prV)) (mapM (n.l.map pr2)) (zAi n) (zBo n))):=by
 match cs,hl with
 | [],_=>exact zXW n c 
 | [x0],_=>exact zZm n c x0
 | [x0,x1],_=>exact zX4 n c x0 x1
 | [x0,x1,x2],_=>exact zZk n c x0 x1 x2
 | [x0,x1,x2,x3],_=>exact zYU n c x0 x1 x2 x3
 | [x0,x1,x2,x3,x4],_=>exact zYG n c x0 x1 x2 x3 x4
 | [x0,x1,x2,x3,x4,x5],_=>exact zZf n c x0 x1 x2 x3 x4 x5
 | [x0,x1,x2,x3,x4,x5,x6],_=>exact zYc n c x0 x1 x2 x3 x4 x5 x6
 | [x0,x1,x2,x3,x4,x5,x6,x7],_=>exact zY6 n c x0 x1 x2 x3 x4 x5 x6 x7
 | [x0,x1,x2,x3,x4,x5,x6,x7,x8],_=>exact zYp n c x0 x1 x2 x3 x4 x5 x6 x7 x8
 | [x0,x1,x2,x3,x4,x5,x6,x7,x8,x9],_=>exact zW0 n c x0 x1 x2 x3 x4 x5 x6 x7 x8 x9
 | [x0,x1,x2,x3,x4,x5,x6,x7,x8,x9,x10],_=>exact zXp n c x0 x1 x2 x3 x4 x5 x6 x7 x8 x9 x10
 | [x0,x1,x2,x3,x4,x5,x6,x7,x8,x9,x10,x11],_=>exact zXw n c x0 x1 x2 x3 x4 x5 x6 x7 x8 x9 x10 x11
 | [x0,x1,x2,x3,x4,x5,x6,x7,x8,x9,x10,x11,x12],_=>exact zXd n c x0 x1 x2 x3 x4 x5 x6 x7 x8 x9 x10 x11 x12
 | [x0,x1,x2,x3,x4,x5,x6,x7,x8,x9,x10,x11,x12,x13],_=>exact zXo n c x0 x1 x2 x3 x4 x5 x6 x7 x8 x9 x10 x11 x12 x13
 | [x0,x1,x2,x3,x4,x5,x6,x7,x8,x9,x10,x11,x12,x13,x14],_=>exact zXz n c x0 x1 x2 x3 x4 x5 x6 x7 x8 x9 x10 x11 x12 x13 x14
 | [x0,x1,x2,x3,x4,x5,x6,x7,x8,x9,x10,x11,x12,x13,x14,x15],_=>exact zWR n c x0 x1 x2 x3 x4 x5 x6 x7 x8 x9 x10 x11 x12 x13 x14 x15
 | _::_::_::_::_::_::_::_::_::_::_::_::_::_::_::_::_::_,h=>simp at h
def zWo (n:Nw) (w:List Int) (g:Int×Int):Bool:=decide (w.getD (g.1.toNat*8+((zAi n).getD g.2.toNat 0).toNat) 0≠g.2)
def zIB (n:Nw) (w:List Int) (l:List (Int×Int)):List (Int×Int):=l.filter (zWo n w)
theorem zUb {n:Nw} {w:List Int} {l:List (Int×Int)} {i:Nat} (hi:i<l.length):zIB n w (l.take (i+1))=if zWo n w (l.getD i default)=true then zIB n w (l.take i)++[l.getD i default] else zIB n w (l.take i):=by
 unfold zIB;rw [zBX (d:=default) hi,List.filter_append]
 split
 ·rw [List.filter_cons_of_pos (by assumption)];rfl
 ·rw [List.filter_cons_of_neg (by assumption)];simp
theorem f119 (n:Nw) (cs l:List (Int×Int)) (e:Int) (c:Int×Int) (ho:CrW n cs) (hl:cs.length≤16) (he:0≤e∧e≤1000) (qT:l.length≤1000) (hm:∀ g∈l,(0≤g.1∧g.1<n.h)∧(0≤g.2∧g.2<n.n.length)) (hc:(0≤c.1∧c.1<n.n.length)∧(0≤c.2∧c.2<n.s.length)):FG 119 [zDT n cs,prs l,I e,prV c] (.own 2 ((zIB n (zBc n (cs++[c]) e.toNat) l).map prV)):=by
 have hw:=zTG ho (by omega) hc
 have hb:=ho.nw.h
 have hn:=ho.nw
 have vD:=hn.nl
 have hwl:=zBH (n:=n) (cs:=cs++[c]) e.toNat
 have ha:=f92 n (cs++[c]) e hw he
 generalize zBc n (cs++[c]) e.toNat=w at *
 refine zAe Tryz.f119 ?_
 refine zAd 2<|zAa<|zAd 2<|S_a [(7,.ret ((zCS n (PV.own 2 (List.map prV (cs++[c]))) (mapM (List.map pr2 n.l)) (zAi n) (zBo n)).box) [])] (ap (f171 n cs c (by omega)) an)<|zAc 1<|S_a [(7,.v (PV.agg (I n.h::prs n.l::PV.sl (List.map ntV n.n)::PV.sl (List.map zA5 n.s)::prs (cs++[c])::PV.map (List.map zBJ (List.map pr2 n.l))::(zAX (zAi n) 8++zAX (zBo n) 8)))),(4,.ret (hdV w) [])] (ap ((by simp only [show zAv (List.map prV (cs++[c]))=List.map prV (cs++[c]) from (by first | exact zAG _ | exact zA1 _ | exact zAW _ | exact zA7 (zA1 _) | exact zA7 (zAW _) | exact zB4 (by simp [zBE]) (zAG _))]):PV.agg (I n.h::prs n.l::PV.sl (List.map ntV n.n)::PV.sl (List.map zA5 n.s)::PV.sl (zAv (List.map prV (cs++[c])))::PV.map (List.map zBJ (List.map pr2 n.l))::(zAX (zAi n) 8++zAX (zBo n) 8))=PV.agg (I n.h::prs n.l::PV.sl (List.map ntV n.n)::PV.sl (List.map zA5 n.s)::prs (cs++[c])::PV.map (List.map zBJ (List.map pr2 n.l))::(zAX (zAi n) 8++zAX (zBo n) 8)))<|ap ha an)<|zAc 2<|zAa<|zAd 1<|zAa<|zAh<|zAd 1<|S_a [(0,.n l.length)] (ap (lnS prV l) an)<|zAc 1<|zAa<|zAk 0 ?_
 refine zAy (fun (i,q)=>i≤l.length∧q=zIB n w (l.take i)) (fun (i,q)=>[(10,.own 2 (q.map prV)),(20,I (i:Nat))]) (fun (i,_)=>l.length-i) ((0:Nat),([]:List (Int×Int))) ⟨by omega,by simp [zIB]⟩ fun (i,q) ⟨hi,hq⟩=>?_
 have wh:q.length≤i:=by
  rw [hq,zIB];exact Nat.le_trans (List.length_filter_le _ _) (by rw [List.length_take];omega)
 by_cases yP:i<l.length
 ·have yU:=zUb (n:=n) (w:=w) yP
  rw [← hq] at yU
  obtain ⟨kO,qV⟩:=zBU (d:=default) hm i yP
  have hfb:=zBM hn (l.getD i default).2.toNat (by omega)
  clear hm ha hq
  refine zAd 1<|zAa<|zAh<|zA3 ((↑i:Int)<(↑l.length:Int)) (by omega)<|zAm<|zAh<|zAk 1<|zAh<|zAg<|S_a [(2,.v (PV.agg [I (l.getD i default).fst,I (l.getD i default).snd]))] (ap (zCh default (by omega):(List.map prV l)[i]? = some (PV.agg [I (l.getD i default).fst,I (l.getD i default).snd])) an)<|zAc 3<|zAa<|zAd 7<|S_a [(0,.ob),(1,.ob),(0,.v ((I ((zAi n).getD (l.getD i default).snd.toNat 0)).ref))] (ap ((by exact zAq (by omega)):decide (0≤(l.getD i default).snd)=true)<|ap ((by exact zAq (by omega)):decide ((l.getD i default).snd.toNat<8)=true)<|ap (zGq (F:=zAi n) (m:=8) (j:=(l.getD i default).snd.toNat) (by omega):zCo (PV.agg (zAX (zAi n) 8)).ref ((l.getD i default).snd.toNat*(fun x=>x.size) Tryz.prog.types[3]) none=some (I ((zAi n).getD (l.getD i default).snd.toNat 0)).ref) an)<|zAc 1<|S_a [(0,.ob),(1,.ob)] (ap ((by exact zAq (by omega)):decide (0≤(l.getD i default).fst)=true)<|ap ((by exact zAq (by omega)):decide ((l.getD i default).fst.toNat<10)=true) an)<|S_a [(0,.ob),(1,.ob)] (ap ((by exact zAq (by omega)):decide (0≤(zAi n).getD (l.getD i default).snd.toNat 0)=true)<|ap ((by exact zAq (by omega)):decide (((zAi n).getD (l.getD i default).snd.toNat 0).toNat<8)=true) an)<|S_a [(0,.cs true ([I (w.getD ((l.getD i default).fst.toNat*8+((zAi n).getD (l.getD i default).snd.toNat 0).toNat) 0)]))] (ap (zCu (q:=(PV.agg (zAX w 80)).box) (xs:=[PV.agg (zAX w 80)]) (x:=PV.agg (zAX w 80)) rfl rfl (zFg (F:=w) (m:=80) (j:=(l.getD i default).fst.toNat*8+((zAi n).getD (l.getD i default).snd.toNat 0).toNat) (by first | rfl | exact zB9 (by kernel_rfl) | exact zB6 (by kernel_rfl) | exact zDN (by kernel_rfl) (by kernel_rfl) | exact zDE (by kernel_rfl) | exact zDU (by kernel_rfl) (by kernel_rfl) | exact zDG (by kernel_rfl) | (simp;done)) (by omega)):zAr 9 (PV.agg (zAX w 80)).box [] 0 (0+(l.getD i default).fst.toNat*(fun x=>x.size) Tryz.prog.types[128]+((zAi n).getD (l.getD i default).snd.toNat 0).toNat*(fun x=>x.size) Tryz.prog.types[3]) 1=some (true,[I (w.getD ((l.getD i default).fst.toNat*8+((zAi n).getD (l.getD i default).snd.toNat 0).toNat) 0)])) an)<|zAc 3<|zAa<|zDQ (w.getD ((l.getD i default).fst.toNat*8+((zAi n).getD (l.getD i default).snd.toNat 0).toNat) 0=(l.getD i default).snd) (fun k0=>(zAg<|zAc 3<|S_a [(4,.ob),(0,.ob),(0,.yes),(2,.v (PV.own 2 (List.map prV (q++[l.getD i default]))))] (ap (blz (List.map prV q))<|ap ((by exact zA4 (by simp only [List.length_map,zzLn,zAS]<;>omega)):((List.map prV q).length + [PV.agg [I (l.getD i default).fst,I (l.getD i default).snd]].length).ble zAS=true)<|ap ((by exact zBB (by simp<;>omega)):(0+(List.map prV q).length).beq (List.map prV q).length=true)<|ap ((zAZ (zBI (by kernel_rfl))):PV.own 2 (List.map prV q++[PV.agg [I (l.getD i default).fst,I (l.getD i default).snd]])=PV.own 2 (List.map prV (q++[l.getD i default]))) an)<|zAc 1<|zAa<|zAg<|S_a [(1,.v (I (↑(i+1):Int)))] (ap (wrN i) an)<|zAc 1<|zAa ?_)) (fun k0=>(zAm<|zAg<|S_a [(1,.v (I (↑(i+1):Int)))] (ap (wrN i) an)<|zAc 1<|zAa ?_))
  ·have hb:zWo n w (l.getD i default)=true:=by simp only [zWo,decide_eq_true_eq];exact k0
   rw [if_pos hb] at yU
   exact ⟨(i+1,q++[l.getD i default]),⟨by omega,yU.symm⟩,by simp only;omega,by kernel_rfl,by kernel_rfl⟩
  ·have hb:zWo n w (l.getD i default)=false:=by simp only [zWo,decide_eq_false_iff_not];exact fun h=>h k0
   rw [if_neg (by rw [hb];simp)] at yU
   exact ⟨(i+1,q),⟨by omega,yU.symm⟩,by simp only;omega,by kernel_rfl,by kernel_rfl⟩
 ·refine zAd 1<|zAa<|zAh<|zBd ((↑i:Int)<(↑l.length:Int)) (by omega)<|zAM 0<|zAd 1<|S_a [(2,.yes)] (ap ((by exact zBB (by simp<;>omega)):(Nat.beq 0 0&&(List.map prV q).length.beq (List.map prV q).length)=true) an)<|zAa<|zAn<|E_a [(1,.yes),(1,.v (PV.own 2 (List.map prV q)))] (ap (blz (List.map prV q))<|ap ((zAZ zBe):PV.own 2 (List.take (List.map prV q).length (List.drop 0 (List.map prV q)))=PV.own 2 (List.map prV q)) an) (PV.own 2 (List.map prV q)) [] ?_ rfl
  rw [List.take_of_length_le (by omega)] at hq
  rw [hq]
end Go.Eng
set_option maxRecDepth 10000
set_option maxHeartbeats 4000000
namespace Go.Eng
open Go Go.Proofs
theorem zT7 {α:Type} (φ:α→Bool) (l:List α):(zEC φ l = -1→l.filter (fun x => !φ x)=l)∧(zEC φ l≠-1→∃ i:Nat,zEC φ l=i∧i<l.length∧l.take i=(l.take (i+1)).filter (fun x => !φ x)):=by
 constructor
 ·intro h
  have:l.any φ=false:=by rw [← zD9,h];rfl
  rw [List.filter_eq_self]
  intro x hx
  rw [List.any_eq_false] at this
  simpa using this x hx
 ·intro h
  unfold zEC at h ⊢
  split
  ·rename_i yK
   refine ⟨_,rfl,yK,?_⟩
   have hp:=List.findIdx_getElem (w:=yK)
   rw [List.take_add_one,List.getElem?_eq_getElem yK,List.filter_append]
   simp only [Option.toList,List.filter_cons,hp,Bool.not_true,Bool.false_eq_true,if_false,List.filter_nil,List.append_nil]
   symm
   rw [List.filter_eq_self]
   intro x hx
   obtain ⟨j,hj,rfl⟩:=List.mem_take_iff_getElem.1 hx
   have:=List.not_of_lt_findIdx (show j<l.findIdx φ by omega)
   simpa using this
  ·rename_i hn;rw [if_neg hn] at h;exact absurd rfl h
theorem zLw {α:Type} {S:List α} {p:Nat} {x:α} (h:p<S.length):(S.set p x).take (p+1)=S.take p++[x]:=by
 rw [zBX (d:=x) (by simpa using h),List.take_set_of_le (Nat.le_refl p)]
 simp [List.getD_eq_getElem?_getD,h]
theorem zNb {α:Type} {S:List α} {i j:Nat} {x d:α} (h:i≠j):(S.set i x).getD j d=S.getD j d:=by
 simp [List.getD_eq_getElem?_getD,List.getElem?_set,h]
theorem zNV {α:Type} (p:α→Bool) (l:List α) (j:Nat) (d:α) (h:j<l.length):(l.take (j+1)).filter p=if p (l.getD j d)=true then (l.take j).filter p++[l.getD j d] else (l.take j).filter p:=by
 rw [zBX (d:=d) h,List.filter_append]
 split
 ·rw [List.filter_cons_of_pos (by assumption)];rfl
 ·rw [List.filter_cons_of_neg (by assumption)];simp
theorem f189 (n:Nw) (cs:List (Int×Int)) (f:Int) (ho:NwOk n) (g:Int×Int) (hg:0≤g.2∧g.2<n.n.length):FG 189 [prV g,.ref (zDT n cs),.ref (I f)] (.bool (decide ((zAi n).getD g.2.toNat 0≠f))):=by
 have vD:=ho.nl
 refine zAe Tryz.f189 ?_
 refine zAd 2<|zAa<|zAd 5<|S_a [(0,.ob),(1,.ob),(0,.v ((I ((zAi n).getD g.snd.toNat 0)).ref))] (ap ((by exact zAq (by omega)):decide (0≤g.snd)=true)<|ap ((by exact zAq (by omega)):decide (g.snd.toNat<8)=true)<|ap (zGq (F:=zAi n) (m:=8) (j:=g.snd.toNat) (by omega):zCo (PV.agg (zAX (zAi n) 8)).ref (g.snd.toNat*(fun x=>x.size) Tryz.prog.types[3]) none=some (I ((zAi n).getD g.snd.toNat 0)).ref) an)<|zAc 4<|zAa<|zAn<|E_a [] an (PV.bool ((zAi n).getD g.snd.toNat 0 != f)) [] ?_ rfl
 congr 1;rw [Bool.eq_iff_iff];simp
theorem f174_1 (n:Nw) (cs:List (Int×Int)) (f:Int) (ho:NwOk n) (l:List (Int×Int)) (hl:l.length<4294967296) (hr:∀ x∈l,(fun z:Int×Int=>0≤z.2∧z.2<n.n.length) x):FG 174 [.sl (l.map prV),.func 189 [] [.ref (zDT n cs),.ref (I f)]] (I (zEC (fun x=>decide ((zAi n).getD x.2.toNat 0≠f)) l)):=by
 refine zAe Tryz.f174 ?_
 refine zAd 1<|zAa<|zAh<|zAd 1<|S_a [(0,.n l.length)] (ap (lnS prV l) an)<|zAc 1<|zAa<|zAk 0 ?_
 refine zAy (fun i=>i≤l.length∧∀ j,j<i→(fun x=>decide ((zAi n).getD x.2.toNat 0≠f)) (l.getD j default)=false) (fun i=>[(8,I (i:Nat))]) (fun i=>l.length-i) (0:Nat) (by simp) fun i ⟨hi,ha⟩=>?_
 by_cases yP:i<l.length
 ·have hri:=zBU (d:=default) hr i yP
  refine zAd 1<|zAa<|zAh<|zA3 ((↑i:Int)<(↑l.length:Int)) (by omega)<|zAm<|zAh<|zAk 1<|zAd 2<|zAa<|zAd 3<|S_a [(2,.v (PV.agg [I (l.getD i default).fst,I (l.getD i default).snd]))] (ap (zCh default (by omega):(List.map prV l)[i]? = some (PV.agg [I (l.getD i default).fst,I (l.getD i default).snd])) an)<|zAc 1<|S_a [(8,.ret (PV.bool (decide ((zAi n).getD (l.getD i default).snd.toNat 0≠f))) [])] (ap (f189 n cs f (by omega) (l.getD i default) (by omega)) an)<|zAa<|zDn ((zAi n).getD (l.getD i default).snd.toNat 0≠f) (fun k0=>(zAd 2<|zAa<|zAn<|E_a [] an (I (↑i:Int)) [] ?_ rfl)) (fun k0=>(zAm<|zAg<|S_a [(1,.v (I (↑(i+1):Int)))] (ap (wrN i) an)<|zAc 1<|zAa ?_))
  ·rw [zB5 (i:=i) yP (fun j hj=>by rw [← zAB (d:=default)];exact ha j hj) (by rw [← zAB (d:=default)];first | assumption | exact decide_eq_true ‹_›)]
  ·refine ⟨i+1,⟨by omega,fun j hj=>?_⟩,by omega,by kernel_rfl,by kernel_rfl⟩
   rcases Nat.lt_succ_iff_lt_or_eq.1 hj with h | rfl
   ·exact ha j h
   ·first | assumption | exact decide_eq_false ‹_› | (simp only [Bool.not_eq_false',decide_eq_true_eq];assumption)
 ·refine zAd 1<|zAa<|zAh<|zBd ((↑i:Int)<(↑l.length:Int)) (by omega)<|zAM 0<|zAd 1<|zAa<|zAn<|E_a [] an (I (-1)) [] ?_ rfl
  rw [zCy fun j hj=>by rw [← zAB (d:=default)];exact ha j (by omega)]
theorem f122_1 (n:Nw) (cs:List (Int×Int)) (f:Int) (ho:NwOk n) (l:List (Int×Int)) (hl:l.length<4294967296) (hr:∀ x∈l,(fun z:Int×Int=>0≤z.2∧z.2<n.n.length) x):FG 122 [.own 2 (l.map prV),.func 189 [] [.ref (zDT n cs),.ref (I f)]] (.own 2 ((l.filter fun x => !(decide ((zAi n).getD x.2.toNat 0≠f))).map prV)):=by
 have h1:=zT7 (fun x=>decide ((zAi n).getD x.2.toNat 0≠f)) l
 have uH:=f174_1 n cs f ho l hl hr
 by_cases hm:zEC (fun x=>decide ((zAi n).getD x.2.toNat 0≠f)) l = -1
 ·rw [hm] at uH
  rw [h1.1 hm]
  refine zAe Tryz.f122 ?_
  refine zAd 1<|zAa<|zAd 2<|S_a [(3,.ob),(0,.v (prs l)),(3,.ret (I (-1)) [])] (ap (blz (List.map prV l))<|ap (frT prV l)<|ap uH an)<|zAc 1<|zAa<|zAh<|zAd 2<|zAa<|zDW<|zAd 1<|S_a [(2,.yes)] (ap ((by exact zBB (by simp<;>omega)):(Nat.beq 0 0&&(List.map prV l).length.beq (List.map prV l).length)=true) an)<|zAa<|zAn<|E_a [(1,.yes),(1,.v (PV.own 2 (List.map prV l)))] (ap (blz (List.map prV l))<|ap ((zAZ zBe):PV.own 2 (List.take (List.map prV l).length (List.drop 0 (List.map prV l)))=PV.own 2 (List.map prV l)) an) (PV.own 2 (List.map prV l)) [] rfl rfl
 ·obtain ⟨i0,jg,hil0,hf0⟩:=h1.2 hm
  rw [jg] at uH
  clear h1 hm
  refine zAe Tryz.f122 ?_
  refine zAd 1<|zAa<|zAd 2<|S_a [(3,.ob),(0,.v (prs l)),(3,.ret (I (↑i0:Int)) [])] (ap (blz (List.map prV l))<|ap (frT prV l)<|ap uH an)<|zAc 1<|zAa<|zAh<|zAd 2<|zAa<|zAH<|zAm<|zAh<|zAd 1<|S_a [(1,.v (I (↑(i0+1):Int)))] (ap (wrN i0) an)<|zAc 1<|zAa<|zAk 0 ?_
  refine zAy (fun (i,j,S)=>j≤l.length∧i<j∧S.length=l.length∧S.take i=(l.take j).filter (fun x => !(decide ((zAi n).getD x.2.toNat 0≠f)))∧∀ r,j≤r→S.getD r default=l.getD r default) (fun (i,j,S)=>[(0,.own 2 (S.map prV)),(5,I (i:Nat)),(6,I (j:Nat))]) (fun (_,j,_)=>l.length-j) (i0,i0+1,l) ⟨by omega,by omega,rfl,hf0,fun _ _=>rfl⟩ fun (i,j,S) ⟨hj,hij,hS,ht,hd⟩=>?_
  by_cases jQ:j<l.length
  ·have hri:=zBU (d:=default) hr j jQ
   have hx:=hd j (Nat.le_refl j)
   have yJ:=zNV (fun x => !(decide ((zAi n).getD x.2.toNat 0≠f))) l j default jQ
   rw [← hx] at yJ hri
   clear uH
   have gh:=hd
   clear hd hx
   refine zAh<|zAd 2<|S_a [(0,.n S.length)] (ap (lnS prV S) an)<|zAc 1<|zAa<|zA3 ((↑j:Int)<(↑S.length:Int)) (by omega)<|zAm<|zAh<|zAk 1<|zAd 2<|S_a [(2,.ob),(1,.n j)] (ap ((by exact zAq (by simp only [List.length_map,zzLn]<;>omega)):decide (j<(List.map prV S).length)=true)<|ap ((by simp):some (0+j)=some j) an)<|S_a [(0,.cs true ([I (S.getD j default).fst,I (S.getD j default).snd]))] (ap (zCu (q:=PV.own 2 (List.map prV S)) (xs:=List.map prV S) (x:=PV.agg [I (S.getD j default).fst,I (S.getD j default).snd]) rfl (zCh default (by omega)):zAr 0 (PV.own 2 (List.map prV S)) [] j 0 Tryz.prog.types[108].size=some (true,[I (S.getD j default).fst,I (S.getD j default).snd])) an)<|zAc 2<|zAa<|zAd 2<|S_a [(8,.ret (PV.bool (decide ((zAi n).getD (S.getD j default).snd.toNat 0≠f))) [])] (ap (f189 n cs f (by omega) (S.getD j default) (by omega)) an)<|zAc 1<|zAa<|zDQ ((zAi n).getD (S.getD j default).snd.toNat 0≠f) (fun k0=>(zAd 3<|S_a [(2,.ob),(1,.n i)] (ap ((by exact zAq (by simp only [List.length_map,zzLn]<;>omega)):decide (i<(List.map prV S).length)=true)<|ap ((by simp):some (0+i)=some i) an)<|S_a [(8,.root (PV.own 2 (List.map prV (S.set i (S.getD j default)))) true)] (ap (zPG (zCh default (by omega)) zG1:zBF (PV.own 2 (List.map prV S)) [] i 0 (PV.agg [I (S.getD j default).fst,I (S.getD j default).snd]).cells=some (PV.own 2 (List.map prV (S.set i (S.getD j default))))∧zAD (PV.own 2 (List.map prV S)) (PV.own 2 (List.map prV (S.set i (S.getD j default)))) []=true) an)<|zAa<|zAg<|zAc 1<|S_a [(1,.v (I (↑(i+1):Int)))] (ap (wrN i) an)<|zAc 1<|zAa<|zAg<|zAc 1<|S_a [(1,.v (I (↑(j+1):Int)))] (ap (wrN j) an)<|zAc 1<|zAa ?_)) (fun k0=>(zAm<|zAg<|zAc 1<|S_a [(1,.v (I (↑(j+1):Int)))] (ap (wrN j) an)<|zAc 1<|zAa ?_))
   ·have hb:((fun x => !(decide ((zAi n).getD x.2.toNat 0≠f))) (S.getD j default))=true:=by first | assumption | (simp only [Bool.not_eq_true',decide_eq_false_iff_not];assumption)
    rw [if_pos hb] at yJ
    refine ⟨(i+1,j+1,S.set i (S.getD j default)),⟨by omega,by omega,by simpa using hS,?_,fun r wj=>?_⟩,by simp only;omega,by kernel_rfl,by kernel_rfl⟩
    ·rw [yJ,← ht,zLw (by omega)]
    ·rw [zNb (by omega)];exact gh r (by omega)
   ·have hb:((fun x => !(decide ((zAi n).getD x.2.toNat 0≠f))) (S.getD j default))=false:=by first | assumption | (simp only [Bool.not_eq_false',decide_eq_true_eq];assumption)
    rw [if_neg (fun h=>Bool.noConfusion (hb.symm.trans h))] at yJ
    exact ⟨(i,j+1,S),⟨by omega,by omega,hS,by rw [yJ,ht],fun r wj=>gh r (by omega)⟩,by simp only;omega,by kernel_rfl,by kernel_rfl⟩
  ·refine zAh<|zAd 2<|S_a [(0,.n S.length)] (ap (lnS prV S) an)<|zAc 1<|zAa<|zBd ((↑j:Int)<(↑S.length:Int)) (by omega)<|zAM 0<|zAd 2<|S_a [(3,.ob),(0,.yes),(0,.yes),(0,.v (PV.bor 0 [] 2 i (S.length-i)))] (ap ((by exact zA4 (by simp only [List.length_map,zzLn,zAS]<;>omega)):i.ble (List.map prV S).length=true)<|ap ((by exact zA4 (by simp only [List.length_map,zzLn,zAS]<;>omega)):(List.map prV S).length.ble (List.map prV S).length=true)<|ap ((by simp<;>omega):(i.beq 0||i.blt (List.map prV S).length)=true)<|ap ((by simp):PV.bor 0 [] 2 (0+i) ((List.map prV S).length-i)=PV.bor 0 [] 2 i (S.length-i)) an)<|zQh (g:=prV) (fun q=>q) 0 2 i (S.length-i) S ((0,0)) (by first | omega | (simp<;>omega)) ⟨rfl,rfl⟩ (fun _=>(by first | exact zLd | exact ⟨rfl,rfl,rfl,rfl,Nat.le_refl _,rfl⟩)) zQd.nil (zAa<|zAd 2<|S_a [(4,.yes)] (ap ((by exact zA4 (by simp<;>omega)):i.ble (List.map prV (List.take i S++List.replicate (S.length-i) (0,0)++List.drop (i+(S.length-i)) S)).length=true) an)<|zAc 1<|zAa<|zAn<|E_a [(1,.yes),(1,.v (PV.own 2 (List.map prV (List.take i (List.take i S++List.replicate (S.length-i) (0,0)++List.drop (i+(S.length-i)) S)))))] (ap ((by exact zA4 (by simp<;>omega)):(0+((↑i:Int).toNat-0)).ble (List.map prV (List.take i S++List.replicate (S.length-i) (0,0)++List.drop (i+(S.length-i)) S)).length=true)<|ap ((by simp):PV.own 2 (List.take i (List.drop 0 (List.map prV (List.take i S++List.replicate (S.length-i) (0,0)++List.drop (i+(S.length-i)) S))))=PV.own 2 (List.map prV (List.take i (List.take i S++List.replicate (S.length-i) (0,0)++List.drop (i+(S.length-i)) S)))) an) (PV.own 2 (List.map prV (List.take i (List.take i S++List.replicate (S.length-i) (0,0)++List.drop (i+(S.length-i)) S)))) [] ?_ rfl)
   rw [List.take_of_length_le (Nat.le_of_not_lt jQ)] at ht
   rw [← ht,List.append_assoc,List.take_append_of_le_length (by rw [List.length_take];omega),List.take_take,Nat.min_self]
def ofL (n:Nw) (f:Int) (l:List (Int×Int)):List (Int×Int):=l.filter fun x => !decide ((zAi n).getD x.2.toNat 0≠f)
theorem f135 (n:Nw) (cs l:List (Int×Int)) (f:Int) (ho:NwOk n) (hl:l.length≤1000) (hr:∀ g∈l,(0≤g.1∧g.1<n.h)∧(0≤g.2∧g.2<n.n.length)):FG 135 [zDT n cs,prs l,I f] (.own 2 ((ofL n f l).map prV)):=by
 have h1:=f122_1 n cs f ho l (by omega) fun x hx=>(hr x hx).2
 refine zAe Tryz.f135 ?_
 refine zAd 3<|zAa<|zAd 1<|S_a [(6,.ret (PV.own 2 (List.map prV l)) [])] (ap (f123 l (by omega)) an)<|zAc 1<|S_a [(3,.ob),(1,.v (PV.own 2 (List.map prV l))),(14,.ret (PV.own 2 (List.map prV (List.filter (fun x => !decide ((zAi n).getD x.snd.toNat 0≠f)) l))) []),(1,.yes)] (ap ((by exact zA4 (by simp only [List.length_map,zzLn,zAS]<;>omega)):(List.map prV l).length.ble (List.map prV l).length=true)<|ap ((zAZ zBe):PV.own 2 (List.take (List.map prV l).length (List.drop 0 (List.map prV l)))=PV.own 2 (List.map prV l))<|ap h1<|ap ((by exact zDO _):(PV.own 2 (List.map prV (List.filter (fun x => !decide ((zAi n).getD x.snd.toNat 0≠f)) l))).free=true) an)<|zAc 1<|zAa<|zAn<|E_a [(1,.yes),(1,.v (PV.own 2 (List.map prV (List.filter (fun x => !decide ((zAi n).getD x.snd.toNat 0≠f)) l))))] (ap (blz (List.map prV (List.filter (fun x => !decide ((zAi n).getD x.snd.toNat 0≠f)) l)))<|ap ((zAZ zBe):PV.own 2 (List.take (List.map prV (List.filter (fun x => !decide ((zAi n).getD x.snd.toNat 0≠f)) l)).length (List.drop 0 (List.map prV (List.filter (fun x => !decide ((zAi n).getD x.snd.toNat 0≠f)) l))))=PV.own 2 (List.map prV (List.filter (fun x => !decide ((zAi n).getD x.snd.toNat 0≠f)) l))) an) (PV.own 2 (List.map prV (List.filter (fun x => !decide ((zAi n).getD x.snd.toNat 0≠f)) l))) [] rfl rfl
end Go.Eng
set_option maxRecDepth 10000
set_option maxHeartbeats 4000000
namespace Go.Eng
open Go Go.Proofs
def zWX (n:Nw) (cs:List (Int×Int)) (e:Int) (st:List Int):Int:=if zP5 n cs e=0 then if (!st.all fun x=>inB x 0 (n.s.length-1))=true then 1 else if st.Nodup then 0 else 5 else zP5 n cs e
structure OffOk (n:Nw) (cs:List (Int×Int)) (e:Int) (st:List Int):Prop where
 err:zWX n cs e st=0
 ev:EvOk n cs e
 rng:∀ s∈st,0≤s∧s<n.s.length
 nd:st.Nodup
abbrev zZp (n:Nw) (cs:List (Int×Int)) (e:Int) (l:List (Int×Int)):PV := .func 173 [] [.ref (zDT n cs),.ref (prs l),.ref (I e)]
theorem f168_2 (n:Nw) (hb:n.s.length≤6) (x:Int):FG 168 [I x,.ref (.func 170 [nwV n] [])] (.bool (!(inB x 0 (n.s.length-1)))):=by
 refine zAe Tryz.f168 ?_
 refine zAd 1<|zAa<|zAd 2<|S_a [(8,.ret (PV.bool (inB x 0 ((↑n.s.length:Int)-1))) [])] (ap (f170 n x (by omega)) an)<|zAc 2<|zAa<|zAn<|E_a [] an (PV.bool !inB x 0 ((↑n.s.length:Int)-1)) [] rfl rfl
theorem f131_2 (n:Nw) (hb:n.s.length≤6) (l:List (Int)) (hl:l.length<4294967296):FG 131 [.sl (l.map I),.func 168 [] [.ref (.func 170 [nwV n] [])]] (I (zEC (fun x => !(inB x 0 (n.s.length-1))) l)):=by
 refine zAe Tryz.f131 ?_
 refine zAd 1<|zAa<|zAh<|zAd 1<|S_a [(0,.n l.length)] (ap (lnS I l) an)<|zAc 1<|zAa<|zAk 0 ?_
 refine zAy (fun i=>i≤l.length∧∀ j,j<i→(fun x => !(inB x 0 (n.s.length-1))) (l.getD j 0)=false) (fun i=>[(8,I (i:Nat))]) (fun i=>l.length-i) (0:Nat) (by simp) fun i ⟨hi,ha⟩=>?_
 refine zAd 1<|zAa<|zAh<|zDn ((↑i:Int)<(↑l.length:Int)) (fun k0=>(zAm<|zAh<|zAk 1<|zAd 2<|zAa<|zAd 3<|S_a [(2,.v (I (l.getD i 0)))] (ap (zCh (0) (by omega):(List.map I l)[i]? = some (I (l.getD i 0))) an)<|zAc 1<|S_a [(7,.ret (PV.bool !inB (l.getD i 0) 0 ((↑n.s.length:Int)-1)) [])] (ap (f168_2 n (by omega) (l.getD i 0)) an)<|zAa<|zGb (!inB (l.getD i 0) 0 ((↑n.s.length:Int)-1)) (fun k1=>(zAd 2<|zAa<|zAn<|E_a [] an (I (↑i:Int)) [] ?_ rfl)) (fun k1=>(zAm<|zAg<|S_a [(1,.v (I (↑(i+1):Int)))] (ap (wrN i) an)<|zAc 1<|zAa ?_)))) (fun k0=>(zAM 0<|zAd 1<|zAa<|zAn<|E_a [] an (I (-1)) [] ?_ rfl))
 ·rw [zB5 (i:=i) (by omega) (fun j hj=>by rw [← zAB (d:=0)];exact ha j hj) (by rw [← zAB (d:=0)];first | assumption | exact decide_eq_true ‹_› | (simp only [Bool.not_eq_true',decide_eq_false_iff_not];assumption))]
 ·refine ⟨i+1,⟨by omega,fun j hj=>?_⟩,by omega,by kernel_rfl,by kernel_rfl⟩
  rcases Nat.lt_succ_iff_lt_or_eq.1 hj with h | rfl
  ·exact ha j h
  ·first | assumption | exact decide_eq_false ‹_› | (simp only [Bool.not_eq_false',decide_eq_true_eq];first | assumption | (apply Decidable.of_not_not;assumption))
 ·rw [zCy fun j hj=>by rw [← zAB (d:=0)];exact ha j (by omega)]
theorem f52_2 (n:Nw) (hb:n.s.length≤6) (l:List (Int)) (hl:l.length<4294967296):FG 52 [.sl (l.map I),.func 168 [] [.ref (.func 170 [nwV n] [])]] (.bool (l.any (fun x => !(inB x 0 (n.s.length-1))))):=by
 refine zAe Tryz.f52 ?_
 refine zAd 1<|zAa<|zAd 2<|S_a [(7,.ret (I (zEC (fun x => !inB x 0 ((↑n.s.length:Int)-1)) l)) [])] (ap (f131_2 n (by omega) l (by omega)) an)<|zAc 2<|zAa<|zAn<|E_a [] an (PV.bool (decide (zEC (fun x => !inB x 0 ((↑n.s.length:Int)-1)) l≥0))) [] ?_ rfl
 rw [zD9]
theorem f108_2 (n:Nw) (hb:n.s.length≤6) (l:List (Int)) (hl:l.length<4294967296):FG 108 [.sl (l.map I),.func 170 [nwV n] []] (.bool (l.all (fun x=>inB x 0 (n.s.length-1)))):=by
 refine zAe Tryz.f108 ?_
 refine zAd 2<|zAa<|zAd 2<|S_a [(12,.ret (PV.bool (l.any fun x => !inB x 0 ((↑n.s.length:Int)-1))) [])] (ap (f52_2 n (by omega) l (by omega)) an)<|zAc 2<|zAa<|zAn<|E_a [] an (PV.bool !l.any fun x => !inB x 0 ((↑n.s.length:Int)-1)) [] ?_ rfl
 simp [List.not_any_eq_all_not]
theorem f121_1 (n:Nw) (cs:List (Int×Int)) (e:Int) (st:List Int) (ho:OffOk n cs e st) (yJ:st.length<1000000):FG 121 [nwV n,prs cs,I e,zA5 st] (.tup [zDT n cs,prs (zB2 n (zBc n cs e.toNat)),.agg [zZp n cs e (zB2 n (zBc n cs e.toNat))],I 0]):=by
 have uL:=ho.ev
 have gB:=uL.cr
 have uj:=gB.w
 have hn:=gB.nw
 have he:=uL.ev
 have hs6:=hn.sl.2
 have hwl:=zBH (n:=n) (cs:=cs) e.toNat
 have hgl:=zIS (w:=zBc n cs e.toNat) hn
 have hin:(!st.all fun x=>inB x 0 (n.s.length-1))=false:=by
  simp only [Bool.not_eq_false',List.all_eq_true]
  intro s hs;have:=ho.rng s hs
  simp only [inB,Bool.and_eq_true,decide_eq_true_eq];omega
 refine zAe Tryz.f121 ?_
 refine zAd 6<|zAa<|zAd 3<|S_a [(10,.ret (PV.tup [zDT n cs,I 0]) [])] (ap (f90_1 n cs e (by omega)) an)<|zAc 6<|zAa<|zAh<|zAk 0<|zAd 3<|zAa<|zAH<|zAd 3<|S_a [(7,.ret (PV.bool (st.all fun x=>inB x 0 ((↑n.s.length:Int)-1))) [])] (ap (f108_2 n (by omega) st (by omega)) an)<|zAc 2<|zAa<|zGb (!st.all fun x=>inB x 0 ((↑n.s.length:Int)-1)) (fun k0=>(zAd 5<|zAa<|zAn<|E_a [] an (PV.tup [PV.nilp,PV.sl [],PV.agg [PV.nilf],I 1]) [] ?_ rfl)) (fun k0=>(zAm<|zAh<|zAd 1<|S_a [(0,.n st.length)] (ap (lnS I st) an)<|zAc 1<|zAa<|zAk 1 ?_))
 ·rw [hin] at k0;cases k0
 ·refine zAy (fun i=>i≤st.length) (fun (i:Nat)=>[(38,I (i:Nat))]) (fun i=>st.length-i) (0:Nat) (by omega) fun i hi=>?_
  by_cases yP:i<st.length
  ·have kZ:has (st.take i) (st.getD i 0)=false:=by
    rw [zWe,decide_eq_false_iff_not]
    intro hm
    have yT:=ho.nd
    rw [← List.take_append_drop i st,List.nodup_append] at yT
    refine yT.2.2 _ hm _ ?_ rfl
    rw [List.drop_eq_getElem_cons yP,zAB yP];exact List.mem_cons_self
   refine zAd 1<|zAa<|zAh<|zA3 ((↑i:Int)<(↑st.length:Int)) (by omega)<|zAm<|zAh<|zAk 2<|zAd 1<|S_a [(2,.v (I (st.getD i 0)))] (ap (zCh (0) (by omega):(List.map I st)[i]? = some (I (st.getD i 0))) an)<|zAc 3<|zAa<|zAd 2<|S_a [(3,.ob),(0,.ob),(0,.v (zA5 (List.take i st)))] (ap ((by exact zA4 (by simp only [List.length_map,zzLn,zAS]<;>omega)):i.ble (List.map I st).length=true)<|ap ((by exact all_map _):((List.map I st).all fun x=>x.cells.length.beq ((fun x=>x.size) Tryz.prog.types[3]))=true)<|ap ((by simp):PV.sl (List.take i (List.drop 0 (List.map I st)))=zA5 (List.take i st)) an)<|zAc 1<|S_a [(8,.ret (PV.bool (has (List.take i st) (st.getD i 0))) [])] (ap (f58 (List.take i st) (st.getD i 0) (by first | omega | (simp<;>omega))) an)<|zAa<|zGb (has (List.take i st) (st.getD i 0)) (fun k1=>(zAd 5<|zAa<|zAn<|E_a [] an (PV.tup [PV.nilp,PV.sl [],PV.agg [PV.nilf],I 5]) [] ?_ rfl)) (fun k1=>(zAm<|zAg<|S_a [(1,.v (I (↑(i+1):Int)))] (ap (wrN i) an)<|zAc 1<|zAa ?_))
   ·rw [kZ] at k1;cases k1
   ·exact ⟨i+1,by omega,by omega,by kernel_rfl,by kernel_rfl⟩
  ·refine zAd 1<|zAa<|zAh<|zBd ((↑i:Int)<(↑st.length:Int)) (by omega)<|zAM 1<|zAd 3<|S_a [(7,.ret (hdV (zBc n cs e.toNat)) [])] (ap (f92 n cs e (by omega) (by omega)) an)<|S_a [(7,.ret (PV.own 2 (List.map prV (zB2 n (zBc n cs e.toNat)))) [])] (ap (f91 n cs (zBc n cs e.toNat) (by omega) (by omega)) an)<|zAc 1<|S_a [(3,.v (prs (zB2 n (zBc n cs e.toNat))))] (ap ((zKo (zAG _)):PV.sl (zAv (List.map prV (zB2 n (zBc n cs e.toNat))))=prs (zB2 n (zBc n cs e.toNat))) an)<|zAa<|zAd 8<|zAa<|zAn<|E_a [] an (PV.tup [(PV.agg (I n.h::prs n.l::PV.sl (List.map ntV n.n)::PV.sl (List.map zA5 n.s)::prs cs::PV.map (List.map zBJ (List.map pr2 n.l))::(zAX (zAi n) 8++zAX (zBo n) 8))).ref,prs (zB2 n (zBc n cs e.toNat)),PV.agg [PV.func 173 [] [(PV.agg (I n.h::prs n.l::PV.sl (List.map ntV n.n)::PV.sl (List.map zA5 n.s)::prs cs::PV.map (List.map zBJ (List.map pr2 n.l))::(zAX (zAi n) 8++zAX (zBo n) 8))).ref.ref,(prs (zB2 n (zBc n cs e.toNat))).ref,(I e).ref]],I 0]) [] rfl rfl
theorem f173 (n:Nw) (cs l:List (Int×Int)) (e:Int) (c:Int×Int) (ho:CrW n cs) (hl:cs.length≤16) (he:0≤e∧e≤1000) (qT:l.length≤1000) (hm:∀ g∈l,(0≤g.1∧g.1<n.h)∧(0≤g.2∧g.2<n.n.length)) (hc:(0≤c.1∧c.1<n.n.length)∧(0≤c.2∧c.2<n.s.length)):FG 173 [prV c,.ref (zDT n cs),.ref (prs l),.ref (I e)] (.sl ((zIB n (zBc n (cs++[c]) e.toNat) l).map prV)):=by
 refine zAe Tryz.f173 ?_
 refine zAd 2<|zAa<|zAd 4<|S_a [(11,.ret (PV.own 2 (List.map prV (zIB n (zBc n (cs++[c]) e.toNat) l))) [])] (ap (f119 n cs l e c (by omega) (by omega) (by omega) (by omega) (by omega) (by omega)) an)<|zAc 1<|zAa<|zAn<|E_a [(1,.envv ([(4,(PV.agg [I c.fst,I c.snd]).box),(5,prs (zIB n (zBc n (cs++[c]) e.toNat) l))]) (prs (zIB n (zBc n (cs++[c]) e.toNat) l)))] (ap (And.intro (Eq.trans (by kernel_rfl:Env.frz [(4,(PV.agg [I c.fst,I c.snd]).box),(5,PV.own 2 (List.map prV (zIB n (zBc n (cs++[c]) e.toNat) l)))] 5 []=some [(4,(PV.agg [I c.fst,I c.snd]).box),(5,PV.sl (zAv (List.map prV (zIB n (zBc n (cs++[c]) e.toNat) l))))]) ((by simp only [show zAv (List.map prV (zIB n (zBc n (cs++[c]) e.toNat) l))=List.map prV (zIB n (zBc n (cs++[c]) e.toNat) l) from (by first | exact zAG _ | exact zA1 _ | exact zAW _ | exact zA7 (zA1 _) | exact zA7 (zAW _) | exact zB4 (by simp [zBE]) (zAG _))]):some [(4,(PV.agg [I c.fst,I c.snd]).box),(5,PV.sl (zAv (List.map prV (zIB n (zBc n (cs++[c]) e.toNat) l))))]=some [(4,(PV.agg [I c.fst,I c.snd]).box),(5,prs (zIB n (zBc n (cs++[c]) e.toNat) l))])) (zVA (by first | exact zAG _ | exact zA1 _ | exact zAW _):PV.mapW (inl 5 [] (PV.own 2 (List.map prV (zIB n (zBc n (cs++[c]) e.toNat) l)))) (PV.bor 5 [] 2 0 (List.map prV (zIB n (zBc n (cs++[c]) e.toNat) l)).length)=prs (zIB n (zBc n (cs++[c]) e.toNat) l))) an) (prs (zIB n (zBc n (cs++[c]) e.toNat) l)) [] rfl rfl
end Go.Eng
namespace Go.Eng
open Go Go.Proofs
end Go.Eng
namespace Go.Eng
open Go Go.Proofs
theorem Tr.ge {n:Nw} {w:List Int} {S:Nat→Nat→Prop} (ht:Tr n w S) {h c:Nat} (hh:h<n.h.toNat) (hc:c<8) {v:Int}:v≤w.getD (h*8+c) 0↔v≤-1∨∃ i,i<n.n.length∧(zAi n).getD i 0=(c:Int)∧S h i∧v≤i:=by
 have ha:=ht.at_ h c hh hc
 constructor
 ·intro hv
  rcases ha with h1 | ⟨i,g1,g2,g3,g4⟩
  ·exact .inl (by omega)
  ·exact .inr ⟨i,g1,g2,g4,by omega⟩
 ·rintro (h1 | ⟨i,g1,g2,g3,g4⟩)
  ·rcases ha with h2 | ⟨i,_,_,g3,_⟩<;>omega
  ·have:=ht.top h i hh g1 g3
   rw [g2,Int.toNat_natCast] at this
   omega
theorem zQl {n:Nw} {cs:List (Int×Int)} (ho:CrW n cs):Tr n (zLN n cs) fun a i=>zJ8 n cs a i=true :=
 (Tr.begN ho n.h.toNat (Nat.le_refl _)).same fun a i ha _=>⟨fun h=>h.2,fun h=>⟨ha,h⟩⟩
end Go.Eng
set_option maxHeartbeats 1000000
namespace Go.Eng
open Go
def zGd (n:Nw) (x y:Int):Bool:=decide ((zAi n).getD y.toNat 0=(zAi n).getD x.toNat 0)
def zGL (n:Nw) (l:List Int) (x:Int):List Int:=if l.findIdx (zGd n x)<l.length then l.set (l.findIdx (zGd n x)) (max (l.getD (l.findIdx (zGd n x)) 0) x) else l++[x]
theorem zVT {n:Nw} {l:List Int} {x:Int} {i:Nat} (hi:i<l.length) (h0:∀ j,j<i→zGd n x (l.getD j 0)=false) (h1:zGd n x (l.getD i 0)=true):zGL n l x=l.set i (max (l.getD i 0) x):=by
 have e:l.findIdx (zGd n x)=i:=by
  rw [List.findIdx_eq hi]
  refine ⟨by rwa [zAB hi] at h1,fun j hj=>?_⟩
  have:=h0 j hj
  rwa [zAB (by omega)] at this
 unfold zGL
 rw [e,if_pos hi]
theorem zTv {n:Nw} {l:List Int} {x:Int} (h0:∀ j,j<l.length→zGd n x (l.getD j 0)=false):zGL n l x=l++[x]:=by
 unfold zGL
 rw [if_neg]
 rw [List.findIdx_lt_length]
 rintro ⟨y,hy,h⟩
 obtain ⟨j,hj,rfl⟩:=List.getElem_of_mem hy
 have:=h0 j hj
 rw [zAB hj] at this
 rw [this] at h;cases h
structure RowK' (n:Nw) (l:List Int):Prop where
 el:∀ x∈l,0≤x∧x<n.n.length
 one:l.Pairwise fun x y=>(zAi n).getD x.toNat 0≠(zAi n).getD y.toNat 0
def lev (n:Nw) (l:List Int) (c:Nat) (v:Int):Prop:=v≤-1∨∃ y∈l,(zAi n).getD y.toNat 0=(c:Int)∧v≤y
theorem zVs {n:Nw}:RowK' n []:=⟨by simp,by simp⟩
theorem zUA:∀ (k:Nat) (l:List Nat),l.Nodup→(∀ x∈l,x<k)→l.length≤k
 | 0,l,_,h=>by
  cases l with
  | nil=>simp
  | cons x l=>exact absurd (h x (by simp)) (by omega)
 | k + 1,l,hn,h=>by
  have h1:=zUA k (l.erase k) (hn.erase k) fun x hx=>by
   have h2:=h x (List.mem_of_mem_erase hx)
   have h3:x≠k:=fun e=>by
    subst e
    rw [hn.erase_eq_filter] at hx
    have:=(List.mem_filter.1 hx).2
    simp at this
   omega
  rw [List.length_erase] at h1
  split at h1<;>omega
theorem zK6 {n:Nw} (ho:NwOk n) {l:List Int} (hl:RowK' n l):l.length≤8:=by
 have h8:=ho.nl
 have:=zUA 8 (l.map fun x=>((zAi n).getD x.toNat 0).toNat) (by
  rw [List.Nodup,List.pairwise_map]
  refine hl.one.imp_of_mem fun {x y} hx hy h=>?_
  have f1:=zBM ho x.toNat (by have:=hl.el x hx;omega)
  have f2:=zBM ho y.toNat (by have:=hl.el y hy;omega)
  omega) fun y hy=>by
   obtain ⟨x,hx,rfl⟩:=List.mem_map.1 hy
   have hb:=hl.el x hx
   have f1:=zBM ho x.toNat (by omega)
   omega
 simpa using this
theorem zV7 {n:Nw} {c:Nat} {v:Int}:lev n [] c v↔v≤-1:=by simp [lev]
theorem zRS (n:Nw) (l:List Int) (x:Int):(∃ a y b,l=a++y::b∧(zAi n).getD y.toNat 0=(zAi n).getD x.toNat 0∧zGL n l x=a++max y x::b)∨((∀ y∈l,(zAi n).getD y.toNat 0≠(zAi n).getD x.toNat 0)∧zGL n l x=l++[x]):=by
 by_cases h:l.findIdx (zGd n x)<l.length
 ·left
  have hp:=List.findIdx_getElem (w:=h)
  refine ⟨l.take (l.findIdx (zGd n x)),l[l.findIdx (zGd n x)],l.drop (l.findIdx (zGd n x)+1),?_,by simpa [zGd] using hp,?_⟩
  ·rw [List.getElem_cons_drop,List.take_append_drop]
  ·unfold zGL
   rw [if_pos h,zAB h,List.set_eq_take_append_cons_drop,if_pos h]
 ·right
  refine ⟨fun y hy he=>h (List.findIdx_lt_length.2 ⟨y,hy,decide_eq_true he⟩),?_⟩
  unfold zGL;rw [if_neg h]
theorem zU2 {n:Nw} {l:List Int} {x:Int} (hl:RowK' n l) (hx:0≤x∧x<n.n.length):RowK' n (zGL n l x)∧∀ c v,lev n (zGL n l x) c v↔lev n l c v∨(zAi n).getD x.toNat 0=(c:Int)∧v≤x:=by
 obtain ⟨h1,h2⟩:=hl
 rcases zRS n l x with ⟨a,y,b,rfl,hy,he⟩ | ⟨hn,he⟩
 ·rw [he]
  have hm:(zAi n).getD (max y x).toNat 0=(zAi n).getD y.toNat 0:=by
   rcases Int.le_total y x with h | h
   ·rw [Int.max_eq_right h,hy]
   ·rw [Int.max_eq_left h]
  have hyy:=h1 y (by simp)
  refine ⟨⟨fun z hz=>?_,?_⟩,fun c v=>?_⟩
  ·rcases List.mem_append.1 hz with h | h
   ·exact h1 z (by simp [h])
   ·rcases List.mem_cons.1 h with rfl | h
    ·omega
    ·exact h1 z (by simp [h])
  ·rw [List.pairwise_append,List.pairwise_cons] at h2 ⊢
   obtain ⟨g1,⟨g2,g3⟩,g4⟩:=h2
   refine ⟨g1,⟨fun z hz=>by rw [hm];exact g2 z hz,g3⟩,fun z hz t ht=>?_⟩
   rcases List.mem_cons.1 ht with rfl | ht
   ·rw [hm];exact g4 z hz y (by simp)
   ·exact g4 z hz t (by simp [ht])
  ·unfold lev
   constructor
   ·rintro (h | ⟨z,hz,h3,h4⟩)
    ·exact .inl (.inl h)
    ·rcases List.mem_append.1 hz with h | h
     ·exact .inl (.inr ⟨z,by simp [h],h3,h4⟩)
     ·rcases List.mem_cons.1 h with rfl | h
      ·rw [hm] at h3
       rcases Int.le_total y x with yN | yN
       ·rw [Int.max_eq_right yN] at h4
        exact .inr ⟨by rw [← hy];exact h3,h4⟩
       ·rw [Int.max_eq_left yN] at h4
        exact .inl (.inr ⟨y,by simp,h3,h4⟩)
      ·exact .inl (.inr ⟨z,by simp [h],h3,h4⟩)
   ·rintro ((h | ⟨z,hz,h3,h4⟩) | ⟨h3,h4⟩)
    ·exact .inl h
    ·rcases List.mem_append.1 hz with h | h
     ·exact .inr ⟨z,by simp [h],h3,h4⟩
     ·rcases List.mem_cons.1 h with rfl | h
      ·exact .inr ⟨max z x,by simp,by rw [hm];exact h3,by omega⟩
      ·exact .inr ⟨z,by simp [h],h3,h4⟩
    ·exact .inr ⟨max y x,by simp,by rw [hm,hy];exact h3,by omega⟩
 ·rw [he]
  refine ⟨⟨fun z hz=>?_,?_⟩,fun c v=>?_⟩
  ·rcases List.mem_append.1 hz with h | h
   ·exact h1 z h
   ·rw [List.mem_singleton.1 h];exact hx
  ·rw [List.pairwise_append]
   exact ⟨h2,by simp,fun z hz t ht=>by rw [List.mem_singleton.1 ht];exact hn z hz⟩
  ·unfold lev
   constructor
   ·rintro (h | ⟨z,hz,h3,h4⟩)
    ·exact .inl (.inl h)
    ·rcases List.mem_append.1 hz with h | h
     ·exact .inl (.inr ⟨z,h,h3,h4⟩)
     ·rw [List.mem_singleton.1 h] at h3 h4
      exact .inr ⟨h3,h4⟩
   ·rintro ((h | ⟨z,hz,h3,h4⟩) | ⟨h3,h4⟩)
    ·exact .inl h
    ·exact .inr ⟨z,by simp [hz],h3,h4⟩
    ·exact .inr ⟨x,by simp,h3,h4⟩
theorem zU9 {n:Nw} {w:List Int} {h:Nat} {l:List Int} (ho:NwOk n) (hl:RowK' n l) (hw:∀ c:Nat,c<8→∀ v,lev n l c v↔v≤w.getD (h*8+c) 0):zDo l=zCZ (hld n w h) n.n.length:=by
 have h8:=ho.nl
 have huniq:∀ x∈l,∀ y∈l,(zAi n).getD x.toNat 0=(zAi n).getD y.toNat 0→x=y:=by
  have key:∀ l:List Int,l.Pairwise (fun x y=>(zAi n).getD x.toNat 0≠(zAi n).getD y.toNat 0)→∀ x∈l,∀ y∈l,(zAi n).getD x.toNat 0=(zAi n).getD y.toNat 0→x=y:=by
   intro l
   induction l with
   | nil=>intro _ x hx;simp at hx
   | cons a l ih =>
    intro hp x hx y hy he
    rw [List.pairwise_cons] at hp
    rcases List.mem_cons.1 hx with h3 | h3<;>rcases List.mem_cons.1 hy with h4 | h4
    ·rw [h3,h4]
    ·rw [h3] at he;exact absurd he (hp.1 y h4)
    ·rw [h4] at he;exact absurd he.symm (hp.1 x h3)
    ·exact ih hp.2 x h3 y h4 he
  exact key l hl.one
 refine zSS (hl.one.imp fun {x y} h he=>h (by rw [he])) fun x=>?_
 simp only [hld,decide_eq_true_eq]
 constructor
 ·intro hx
  have hb:=hl.el x hx
  have hf:=zBM ho x.toNat (by omega)
  have hwc:=hw ((zAi n).getD x.toNat 0).toNat (by omega)
  have h1:=(hwc x).1 (.inr ⟨x,hx,by omega,Int.le_refl _⟩)
  have h2:=(hwc (w.getD (h*8+((zAi n).getD x.toNat 0).toNat) 0)).2 (Int.le_refl _)
  refine ⟨x.toNat,by omega,?_,by omega⟩
  rcases h2 with h2 | ⟨y,hy,h3,h4⟩
  ·omega
  ·have:=huniq x hx y hy (by omega)
   subst this
   omega
 ·rintro ⟨i,hi,h1,rfl⟩
  have hf:=zBM ho i hi
  have hwc:=hw ((zAi n).getD i 0).toNat (by omega)
  rcases (hwc i).2 (by omega) with h2 | ⟨y,hy,h3,h4⟩
  ·omega
  ·have h5:=(hwc y).1 (.inr ⟨y,hy,h3,Int.le_refl _⟩)
   have:y=i:=by omega
   subst this
   exact hy
structure TR (n:Nw) (S:Nat→Nat→Int→Prop) (rows:List (List Int)):Prop where
 len:rows.length=n.h.toNat
 row:∀ h,h<n.h.toNat→RowK' n (rows.getD h [])
 lv:∀ h,h<n.h.toNat→∀ c,c<8→∀ v,lev n (rows.getD h []) c v↔S h c v
theorem TR.same {n:Nw} {S S':Nat→Nat→Int→Prop} {rows:List (List Int)} (hr:TR n S rows) (h:∀ a,a<n.h.toNat→∀ c,c<8→∀ v,S a c v↔S' a c v):TR n S' rows :=
 ⟨hr.len,hr.row,fun a ha c hc v=>(hr.lv a ha c hc v).trans (h a ha c hc v)⟩
theorem TR.put {n:Nw} {S:Nat→Nat→Int→Prop} {rows:List (List Int)} (hr:TR n S rows) {h:Nat} (hh:h<n.h.toNat) {x:Int} (hx:0≤x∧x<n.n.length) :
  TR n (fun a c v=>S a c v∨a=h∧(zAi n).getD x.toNat 0=(c:Int)∧v≤x) (rows.set h (zGL n (rows.getD h []) x)):=by
 obtain ⟨h1,h2⟩:=zU2 (hr.row h hh) hx
 have hg:∀ a,(rows.set h (zGL n (rows.getD h []) x)).getD a []=if h=a then zGL n (rows.getD h []) x else rows.getD a []:=by
  intro a
  have hl:=hr.len
  simp only [List.getD_eq_getElem?_getD,List.getElem?_set]
  by_cases e:h=a
  ·subst e;rw [if_pos rfl,if_pos rfl,if_pos (by omega)];rfl
  ·rw [if_neg e,if_neg e]
 refine ⟨by simpa using hr.len,fun a ha=>?_,fun a ha c hc v=>?_⟩
 ·rw [hg];split
  ·exact h1
  ·exact hr.row a ha
 ·rw [hg]
  by_cases e:h=a
  ·subst e
   rw [if_pos rfl,h2,hr.lv h hh c hc]
   exact ⟨fun h=>h.imp id fun h=>⟨rfl,h⟩,fun h=>h.imp id fun h=>h.2⟩
  ·rw [if_neg e,hr.lv a ha c hc]
   exact ⟨.inl,fun h=>h.elim id fun h=>absurd h.1.symm e⟩
def zEk (n:Nw) (cs:List (Int×Int)) (e:Nat):List (List Int):=(List.range n.h.toNat).map (hoL n cs e)
theorem zSx {n:Nw} {cs:List (Int×Int)} {e:Nat} {rows:List (List Int)} (ho:NwOk n) (hr:TR n (fun h c v=>v≤(zBc n cs e).getD (h*8+c) 0) rows):rows.map zDo=zEk n cs e:=by
 refine List.ext_getElem (by simp [zEk,hr.len]) fun h h1 h2=>?_
 have hh:h<n.h.toNat:=by simpa [zEk] using h2
 simp only [zEk,List.getElem_map,List.getElem_range]
 have:=zU9 (w:=zBc n cs e) (h:=h) ho (hr.row h hh) fun c hc v=>hr.lv h hh c hc v
 rw [zAB (by rw [hr.len];exact hh)] at this
 exact this
theorem zSH {n:Nw} (ho:NwOk n):TR n (fun _ _ v=>v≤-1) (List.replicate n.h.toNat []):=by
 have hg:∀ h,(List.replicate n.h.toNat ([]:List Int)).getD h []=[]:=fun h=>by
  simp only [List.getD_eq_getElem?_getD,List.getElem?_replicate]
  split<;>rfl
 exact ⟨by simp,fun h _=>by rw [hg];exact zVs,fun h _ c _ v=>by rw [hg];exact zV7⟩
def crS (n:Nw) (cs:List (Int×Int)) (i j:Nat) (h c:Nat) (v:Int):Prop :=
 v≤-1∨(∃ x∈cs.take i,(h:Int)∈n.s.getD x.2.toNat []∧(zAi n).getD x.1.toNat 0=(c:Int)∧v≤x.1)∨(h:Int)∈(n.s.getD (cs.getD i default).2.toNat []).take j∧(zAi n).getD (cs.getD i default).1.toNat 0=(c:Int)∧v≤(cs.getD i default).1
theorem zTk {n:Nw} {cs:List (Int×Int)} {h c:Nat} {v:Int}:crS n cs 0 0 h c v↔v≤-1:=by simp [crS]
theorem zWM {n:Nw} {cs:List (Int×Int)} {i j h c:Nat} {v:Int} (hj:j<(n.s.getD (cs.getD i default).2.toNat []).length) {a:Nat} (ha:(n.s.getD (cs.getD i default).2.toNat []).getD j 0=(a:Int)) :
  (crS n cs i j h c v∨h=a∧(zAi n).getD (cs.getD i default).1.toNat 0=(c:Int)∧v≤(cs.getD i default).1)↔crS n cs i (j+1) h c v:=by
 unfold crS
 rw [zBX (d:=0) hj,List.mem_append,List.mem_singleton,ha]
 constructor
 ·rintro ((h | h | ⟨h1,h2⟩) | ⟨rfl,h2⟩)
  ·exact .inl h
  ·exact .inr (.inl h)
  ·exact .inr (.inr ⟨.inl h1,h2⟩)
  ·exact .inr (.inr ⟨.inr rfl,h2⟩)
 ·rintro (h | h | ⟨h1 | h1,h2⟩)
  ·exact .inl (.inl h)
  ·exact .inl (.inr (.inl h))
  ·exact .inl (.inr (.inr ⟨h1,h2⟩))
  ·exact .inr ⟨by omega,h2⟩
theorem zTm {n:Nw} {cs:List (Int×Int)} {i h c:Nat} {v:Int} (hi:i<cs.length):crS n cs i (n.s.getD (cs.getD i default).2.toNat []).length h c v↔crS n cs (i+1) 0 h c v:=by
 unfold crS
 rw [zBX (d:=default) hi,List.take_length,List.take_zero]
 constructor
 ·rintro (h | ⟨x,h1,h2⟩ | h)
  ·exact .inl h
  ·exact .inr (.inl ⟨x,List.mem_append.2 (.inl h1),h2⟩)
  ·exact .inr (.inl ⟨_,List.mem_append.2 (.inr (List.mem_singleton.2 rfl)),h⟩)
 ·rintro (h | ⟨x,h1,h2⟩ | ⟨h1,_⟩)
  ·exact .inl h
  ·rcases List.mem_append.1 h1 with h1 | h1
   ·exact .inr (.inl ⟨x,h1,h2⟩)
   ·rw [List.mem_singleton.1 h1] at h2
    exact .inr (.inr h2)
  ·simp at h1
theorem zUO {n:Nw} {cs:List (Int×Int)} (ho:CrW n cs) {h c:Nat} {v:Int} (hh:h<n.h.toNat) (hc:c<8):crS n cs cs.length 0 h c v↔v≤(zBc n cs 0).getD (h*8+c) 0:=by
 show _↔v≤(zLN n cs).getD (h*8+c) 0
 rw [(zQl ho).ge hh hc]
 unfold crS
 rw [List.take_length,List.take_zero]
 constructor
 ·rintro (h1 | ⟨x,h1,h2,h3,h4⟩ | ⟨h1,_⟩)
  ·exact .inl h1
  ·have hx:=(ho.cs x h1).1
   refine .inr ⟨x.1.toNat,by omega,h3,List.any_eq_true.2 ⟨x,h1,?_⟩,by omega⟩
   simp only [hrB,Bool.and_eq_true,decide_eq_true_eq]
   exact ⟨by omega,List.any_eq_true.2 ⟨_,h2,decide_eq_true rfl⟩⟩
  ·simp at h1
 ·rintro (h1 | ⟨i,h1,h2,h3,h4⟩)
  ·exact .inl h1
  ·obtain ⟨x,g1,g2⟩:=List.any_eq_true.1 h3
   simp only [hrB,Bool.and_eq_true,decide_eq_true_eq] at g2
   obtain ⟨g2,g3⟩:=g2
   obtain ⟨y,g4,g5⟩:=List.any_eq_true.1 g3
   have g5:=of_decide_eq_true g5
   refine .inr (.inl ⟨x,g1,?_,by rw [g2];exact h2,by omega⟩)
   first | (rw [g5];exact g4) | (rw [← g5];exact g4)
def evS (n:Nw) (w:List Int) (row:List Int) (h o j:Nat) (a c:Nat) (v:Int):Prop :=
 if a<h then v≤(zCs n w).getD (a*8+c) 0 else if a=h then v≤w.getD (a*8+c) 0∨(∃ p,p<o∧zEw n h p=true∧v≤w.getD (p*8+c) 0)∨zEw n h o=true∧∃ y∈row.take j,(zAi n).getD y.toNat 0=(c:Int)∧v≤y else v≤w.getD (a*8+c) 0
theorem zRu {n:Nw} {w row:List Int} {a c:Nat} {v:Int}:v≤w.getD (a*8+c) 0↔evS n w row 0 0 0 a c v:=by
 unfold evS
 rw [if_neg (Nat.not_lt_zero _)]
 split
 ·simp
 ·exact Iff.rfl
theorem zTN {n:Nw} {w row row':List Int} {h o a c:Nat} {v:Int}:evS n w row h o 0 a c v↔evS n w row' h o 0 a c v:=by
 unfold evS;rw [List.take_zero,List.take_zero]
theorem zWK {n:Nw} {w row:List Int} {h o j a c:Nat} {v:Int} (hj:j<row.length) (hn:zEw n h o=true):(evS n w row h o j a c v∨a=h∧(zAi n).getD (row.getD j 0).toNat 0=(c:Int)∧v≤row.getD j 0)↔evS n w row h o (j+1) a c v:=by
 unfold evS
 by_cases h1:a<h
 ·rw [if_pos h1,if_pos h1]
  exact ⟨fun h=>h.elim id fun h=>by omega,.inl⟩
 rw [if_neg h1,if_neg h1]
 by_cases h2:a=h
 ·rw [if_pos h2,if_pos h2,zBX (d:=0) hj]
  constructor
  ·rintro ((g | g | ⟨g,y,g1,g2⟩) | ⟨_,g2⟩)
   ·exact .inl g
   ·exact .inr (.inl g)
   ·exact .inr (.inr ⟨g,y,List.mem_append.2 (.inl g1),g2⟩)
   ·exact .inr (.inr ⟨hn,_,List.mem_append.2 (.inr (List.mem_singleton.2 rfl)),g2⟩)
  ·rintro (g | g | ⟨g,y,g1,g2⟩)
   ·exact .inl (.inl g)
   ·exact .inl (.inr (.inl g))
   ·rcases List.mem_append.1 g1 with g1 | g1
    ·exact .inl (.inr (.inr ⟨g,y,g1,g2⟩))
    ·rw [List.mem_singleton.1 g1] at g2
     exact .inr ⟨h2,g2⟩
 ·rw [if_neg h2,if_neg h2]
  exact ⟨fun h=>h.elim id fun h=>absurd h.1 h2,.inl⟩
theorem zVB {n:Nw} {w row row':List Int} {h o j j' a c:Nat} {v:Int} (hn:zEw n h o=false):evS n w row h o j a c v↔evS n w row' h o j' a c v:=by
 unfold evS
 split
 ·exact Iff.rfl
 split
 ·simp [hn]
 ·exact Iff.rfl
theorem zTP {n:Nw} {w row row':List Int} {h o a c:Nat} {v:Int} (hr:lev n row c v↔v≤w.getD (o*8+c) 0) (h0 : -1≤w.getD (h*8+c) 0):evS n w row h o row.length a c v↔evS n w row' h (o+1) 0 a c v:=by
 unfold evS
 split
 ·exact Iff.rfl
 split
 ·rename_i h2
  subst h2
  rw [List.take_length,List.take_zero]
  constructor
  ·rintro (g | ⟨p,g1,g2⟩ | ⟨g1,g2⟩)
   ·exact .inl g
   ·exact .inr (.inl ⟨p,by omega,g2⟩)
   ·exact .inr (.inl ⟨o,by omega,g1,hr.1 (.inr g2)⟩)
  ·rintro (g | ⟨p,g1,g2,g3⟩ | ⟨_,y,g1,_⟩)
   ·exact .inl g
   ·rcases Nat.lt_succ_iff_lt_or_eq.1 g1 with g4 | rfl
    ·exact .inr (.inl ⟨p,g4,g2,g3⟩)
    ·rcases hr.2 g3 with g4 | g4
     ·exact .inl (by omega)
     ·exact .inr (.inr ⟨g2,g4⟩)
   ·simp at g1
 ·exact Iff.rfl
theorem zSN {n:Nw} (ho:NwOk n) {w row row':List Int} (hw:w.length=80) {h a c:Nat} {v:Int} (hh:h<n.h.toNat) (hc:c<8):evS n w row h n.h.toNat 0 a c v↔evS n w row' (h+1) 0 0 a c v:=by
 unfold evS
 by_cases h1:a<h
 ·rw [if_pos h1,if_pos (by omega)]
 rw [if_neg h1]
 by_cases h2:a=h
 ·subst h2
  rw [if_pos rfl,if_pos (by omega),zNZ ho hw hh hc]
  simp only [List.take_zero,List.not_mem_nil,false_and,exists_false,and_false,or_false,zHA,List.mem_filter,List.mem_range,and_assoc]
 ·rw [if_neg h2,if_neg (by omega)]
  split<;>simp
theorem zV1 {n:Nw} {w row:List Int} {a c:Nat} {v:Int} (ha:a<n.h.toNat):evS n w row n.h.toNat 0 0 a c v↔v≤(zCs n w).getD (a*8+c) 0:=by
 unfold evS;rw [if_pos ha]
end Go.Eng
set_option maxRecDepth 10000
set_option maxHeartbeats 4000000
namespace Go.Eng
open Go Go.Proofs
section
variable [Yo]
theorem f56 (l:List Int) (hl:l.length≤4294967296):zAo Tryz.prog zCD 56 [.bor 50000000 [] 1 0 l.length] [.own 1 (l.map I)] (.tup []) [.own 1 ((zDo l).map I)]:=zP1 (fn:=Tryz.f56) l hl
end
end Go.Eng
namespace Go.Eng
open Go Go.Proofs
abbrev u8 (n:Int):PV := .int .u8 n
abbrev u32 (n:Int):PV := .int .u32 n
abbrev zBV (l:List Int) (a:Nat) (t:Int):PV := .box (.agg [.sl (l.map u8),I a,u32 t])
abbrev zPA:PV := .addr 50000000 [] 0 0 (some 3)
def zDX (l:List Int) (a:Nat):Prop:=a≤l.length∧l.length<9223372036854775808
def zGn (l:List Int) (a:Nat):Nat:=if a=l.length then 0 else a
def zAN (l:List Int) (a:Nat) (t:Int):Int:=if a=l.length then IntKind.u32.wrap (t+1) else t
def zAE (l:List Int) (a:Nat):Nat:=if 0<l.length then zGn l a+1 else zGn l a
theorem zCG {l:List Int} {a:Nat} (h:zDX l a):zDX l (zAE l a):=by
 obtain ⟨h1,h2⟩:=h
 refine ⟨?_,h2⟩
 unfold zAE zGn
 repeat' split
 all_goals omega
def zPX (n:Int):Int:=IntKind.u32.wrap ↑(BitVec.ofInt IntKind.u32.bits (IntKind.u32.wrap ↑(BitVec.ofInt IntKind.u32.bits n ^^^ BitVec.ofInt IntKind.u32.bits (n.fdiv (2 ^ min (Int.toNat 7) IntKind.u32.bits))).toNat) &&& BitVec.ofInt IntKind.u32.bits 65535).toNat
theorem zOT (n:Int):0≤zPX n∧zPX n≤65535:=by
 unfold zPX
 generalize BitVec.ofInt IntKind.u32.bits (IntKind.u32.wrap ↑(BitVec.ofInt IntKind.u32.bits n ^^^ BitVec.ofInt IntKind.u32.bits (n.fdiv (2 ^ min (Int.toNat 7) IntKind.u32.bits))).toNat)=x
 have h:(x &&& BitVec.ofInt IntKind.u32.bits 65535).toNat≤65535:=by
  rw [BitVec.toNat_and]
  exact Nat.le_trans Nat.and_le_right (by decide)
 generalize (x &&& BitVec.ofInt IntKind.u32.bits 65535).toNat=m at h
 have:IntKind.u32.wrap (m:Int)=m:=by
  simp only [IntKind.wrap]
  simp [IntKind.signed,IntKind.bits]
  omega
 rw [this];omega
def zHu (l:List Int) (a:Nat) (t:Int):Int:=zPX (if 0<l.length then IntKind.u32.wrap (IntKind.u32.wrap (30011*zAN l a t)+IntKind.u32.wrap (263*IntKind.u32.wrap (l.getD (zGn l a) 0))) else IntKind.u32.wrap (30011*zAN l a t))
theorem zTx (l:List Int) (a:Nat) (t:Int):0≤zHu l a t∧zHu l a t≤65535:=zOT _
def zAs (l:List Int) (a:Nat) (t:Int) (n:Int):Int:=(zHu l a t).tmod (max 1 (n+1))
theorem zCE (l:List Int) (a:Nat) (t:Int) (n:Int):0≤zAs l a t n∧zAs l a t n≤max 0 n:=by
 have h1:=zTx l a t
 have h2:0<max 1 (n+1):=by omega
 have h3:=Int.tmod_nonneg (max 1 (n+1)) h1.1
 have h4:=Int.tmod_lt_of_pos (zHu l a t) h2
 unfold zAs
 omega
section
variable [Yo]
theorem f49 (l:List Int):FG 49 [.sl (l.map u8)] (zBV l 0 0):=by
 refine zAe Tryz.f49 ?_
 refine zAd 1<|zAa<|zAd 4<|zAa<|zAn<|E_a [] an ((PV.agg [PV.sl (List.map u8 l),I 0,PV.int IntKind.u32 0]).box) [] rfl rfl
theorem f175 (l:List Int) (a:Nat) (t:Int) (h:zDX l a):zAo Tryz.prog zCD 175 [zPA] [zBV l a t] (I (zHu l a t)) [zBV l (zAE l a) (zAN l a t)]:=by
 refine zAe Tryz.f175 ?_
 have h1:=h.1
 have h2:=h.2
 have hb:∀ n,-9223372036854775808≤zPX n∧zPX n<9223372036854775808:=fun n=>by have:=zOT n;omega
 refine zAd 1<|zAa<|zAh<|zAd 8<|S_a [(0,.n l.length)] (ap (lnS u8 l) an)<|zAc 1<|zAa<|zDn ((↑a:Int)=(↑l.length:Int)) (fun k0=>(zAg<|zAc 6<|zAc 1<|zAc 6<|zAa<|zAd 3<|zAc 1<|zAc 1<|zAc 1<|zAa<|zAh<|zAd 4<|S_a [(0,.n l.length)] (ap (lnS u8 l) an)<|zAc 1<|zAa<|zDn ((↑l.length:Int)>0) (fun k1=>(zAd 9<|S_a [(2,.v (PV.int IntKind.u8 (l.getD 0 0)))] (ap (zCh (0) (by omega):(List.map u8 l)[0]? = some (PV.int IntKind.u8 (l.getD 0 0))) an)<|zAc 1<|zAc 1<|zAc 1<|zAc 1<|zAc 1<|zAa<|zAg<|zAc 8<|zAa<|zAd 2<|zAc 1<|zAc 1<|zAc 1<|S_a [(0,.v (I (IntKind.u32.wrap (↑(BitVec.ofInt IntKind.u32.bits (IntKind.u32.wrap (↑(BitVec.ofInt IntKind.u32.bits (IntKind.u32.wrap (IntKind.u32.wrap (30011*IntKind.u32.wrap (t+1))+IntKind.u32.wrap (263*IntKind.u32.wrap (l.getD 0 0)))) ^^^ BitVec.ofInt IntKind.u32.bits ((IntKind.u32.wrap (IntKind.u32.wrap (30011*IntKind.u32.wrap (t+1))+IntKind.u32.wrap (263*IntKind.u32.wrap (l.getD 0 0)))).fdiv (2 ^ min (Int.toNat 7) IntKind.u32.bits))).toNat:Int)) &&& BitVec.ofInt IntKind.u32.bits 65535).toNat:Int))))] (ap ((zCr rfl ?_):I (IntKind.i64.wrap (IntKind.u32.wrap (↑(BitVec.ofInt IntKind.u32.bits (IntKind.u32.wrap (↑(BitVec.ofInt IntKind.u32.bits (IntKind.u32.wrap (IntKind.u32.wrap (30011*IntKind.u32.wrap (t+1))+IntKind.u32.wrap (263*IntKind.u32.wrap (l.getD 0 0)))) ^^^ BitVec.ofInt IntKind.u32.bits ((IntKind.u32.wrap (IntKind.u32.wrap (30011*IntKind.u32.wrap (t+1))+IntKind.u32.wrap (263*IntKind.u32.wrap (l.getD 0 0)))).fdiv (2 ^ min (Int.toNat 7) IntKind.u32.bits))).toNat:Int)) &&& BitVec.ofInt IntKind.u32.bits 65535).toNat:Int)))=I (IntKind.u32.wrap (↑(BitVec.ofInt IntKind.u32.bits (IntKind.u32.wrap (↑(BitVec.ofInt IntKind.u32.bits (IntKind.u32.wrap (IntKind.u32.wrap (30011*IntKind.u32.wrap (t+1))+IntKind.u32.wrap (263*IntKind.u32.wrap (l.getD 0 0)))) ^^^ BitVec.ofInt IntKind.u32.bits ((IntKind.u32.wrap (IntKind.u32.wrap (30011*IntKind.u32.wrap (t+1))+IntKind.u32.wrap (263*IntKind.u32.wrap (l.getD 0 0)))).fdiv (2 ^ min (Int.toNat 7) IntKind.u32.bits))).toNat:Int)) &&& BitVec.ofInt IntKind.u32.bits 65535).toNat:Int))) an)<|zAc 1<|zAa<|zAn<|E_a [] an (I (IntKind.u32.wrap (↑(BitVec.ofInt IntKind.u32.bits (IntKind.u32.wrap (↑(BitVec.ofInt IntKind.u32.bits (IntKind.u32.wrap (IntKind.u32.wrap (30011*IntKind.u32.wrap (t+1))+IntKind.u32.wrap (263*IntKind.u32.wrap (l.getD 0 0)))) ^^^ BitVec.ofInt IntKind.u32.bits ((IntKind.u32.wrap (IntKind.u32.wrap (30011*IntKind.u32.wrap (t+1))+IntKind.u32.wrap (263*IntKind.u32.wrap (l.getD 0 0)))).fdiv (2 ^ min (Int.toNat 7) IntKind.u32.bits))).toNat:Int)) &&& BitVec.ofInt IntKind.u32.bits 65535).toNat:Int))) ([(PV.agg [PV.sl (List.map u8 l),I (IntKind.i64.wrap (0+1)),PV.int IntKind.u32 (IntKind.u32.wrap (t+1))]).box]) ?_ ?_)) (fun k1=>(zAm<|zAd 2<|zAc 1<|zAc 1<|zAc 1<|S_a [(0,.v (I (IntKind.u32.wrap (↑(BitVec.ofInt IntKind.u32.bits (IntKind.u32.wrap (↑(BitVec.ofInt IntKind.u32.bits (IntKind.u32.wrap (30011*IntKind.u32.wrap (t+1))) ^^^ BitVec.ofInt IntKind.u32.bits ((IntKind.u32.wrap (30011*IntKind.u32.wrap (t+1))).fdiv (2 ^ min (Int.toNat 7) IntKind.u32.bits))).toNat:Int)) &&& BitVec.ofInt IntKind.u32.bits 65535).toNat:Int))))] (ap ((zCr rfl ?_):I (IntKind.i64.wrap (IntKind.u32.wrap (↑(BitVec.ofInt IntKind.u32.bits (IntKind.u32.wrap (↑(BitVec.ofInt IntKind.u32.bits (IntKind.u32.wrap (30011*IntKind.u32.wrap (t+1))) ^^^ BitVec.ofInt IntKind.u32.bits ((IntKind.u32.wrap (30011*IntKind.u32.wrap (t+1))).fdiv (2 ^ min (Int.toNat 7) IntKind.u32.bits))).toNat:Int)) &&& BitVec.ofInt IntKind.u32.bits 65535).toNat:Int)))=I (IntKind.u32.wrap (↑(BitVec.ofInt IntKind.u32.bits (IntKind.u32.wrap (↑(BitVec.ofInt IntKind.u32.bits (IntKind.u32.wrap (30011*IntKind.u32.wrap (t+1))) ^^^ BitVec.ofInt IntKind.u32.bits ((IntKind.u32.wrap (30011*IntKind.u32.wrap (t+1))).fdiv (2 ^ min (Int.toNat 7) IntKind.u32.bits))).toNat:Int)) &&& BitVec.ofInt IntKind.u32.bits 65535).toNat:Int))) an)<|zAc 1<|zAa<|zAn<|E_a [] an (I (IntKind.u32.wrap (↑(BitVec.ofInt IntKind.u32.bits (IntKind.u32.wrap (↑(BitVec.ofInt IntKind.u32.bits (IntKind.u32.wrap (30011*IntKind.u32.wrap (t+1))) ^^^ BitVec.ofInt IntKind.u32.bits ((IntKind.u32.wrap (30011*IntKind.u32.wrap (t+1))).fdiv (2 ^ min (Int.toNat 7) IntKind.u32.bits))).toNat:Int)) &&& BitVec.ofInt IntKind.u32.bits 65535).toNat:Int))) ([(PV.agg [PV.sl (List.map u8 l),I 0,PV.int IntKind.u32 (IntKind.u32.wrap (t+1))]).box]) ?_ ?_)))) (fun k0=>(zAm<|zAd 4<|zAc 1<|zAc 1<|zAa<|zAh<|zAd 4<|S_a [(0,.n l.length)] (ap (lnS u8 l) an)<|zAc 1<|zAa<|zA3 ((↑l.length:Int)>0) (by omega)<|zAd 9<|S_a [(2,.v (PV.int IntKind.u8 (l.getD a 0)))] (ap (zCh (0) (by omega):(List.map u8 l)[a]? = some (PV.int IntKind.u8 (l.getD a 0))) an)<|zAc 1<|zAc 1<|zAc 1<|zAc 1<|zAc 1<|zAa<|zAg<|zAc 4<|S_a [(1,.v (I (↑(a+1):Int)))] (ap (wrN a) an)<|zAc 3<|zAa<|zAd 2<|zAc 1<|zAc 1<|zAc 1<|S_a [(0,.v (I (IntKind.u32.wrap (↑(BitVec.ofInt IntKind.u32.bits (IntKind.u32.wrap (↑(BitVec.ofInt IntKind.u32.bits (IntKind.u32.wrap (IntKind.u32.wrap (30011*t)+IntKind.u32.wrap (263*IntKind.u32.wrap (l.getD a 0)))) ^^^ BitVec.ofInt IntKind.u32.bits ((IntKind.u32.wrap (IntKind.u32.wrap (30011*t)+IntKind.u32.wrap (263*IntKind.u32.wrap (l.getD a 0)))).fdiv (2 ^ min (Int.toNat 7) IntKind.u32.bits))).toNat:Int)) &&& BitVec.ofInt IntKind.u32.bits 65535).toNat:Int))))] (ap ((zCr rfl ?_):I (IntKind.i64.wrap (IntKind.u32.wrap (↑(BitVec.ofInt IntKind.u32.bits (IntKind.u32.wrap (↑(BitVec.ofInt IntKind.u32.bits (IntKind.u32.wrap (IntKind.u32.wrap (30011*t)+IntKind.u32.wrap (263*IntKind.u32.wrap (l.getD a 0)))) ^^^ BitVec.ofInt IntKind.u32.bits ((IntKind.u32.wrap (IntKind.u32.wrap (30011*t)+IntKind.u32.wrap (263*IntKind.u32.wrap (l.getD a 0)))).fdiv (2 ^ min (Int.toNat 7) IntKind.u32.bits))).toNat:Int)) &&& BitVec.ofInt IntKind.u32.bits 65535).toNat:Int)))=I (IntKind.u32.wrap (↑(BitVec.ofInt IntKind.u32.bits (IntKind.u32.wrap (↑(BitVec.ofInt IntKind.u32.bits (IntKind.u32.wrap (IntKind.u32.wrap (30011*t)+IntKind.u32.wrap (263*IntKind.u32.wrap (l.getD a 0)))) ^^^ BitVec.ofInt IntKind.u32.bits ((IntKind.u32.wrap (IntKind.u32.wrap (30011*t)+IntKind.u32.wrap (263*IntKind.u32.wrap (l.getD a 0)))).fdiv (2 ^ min (Int.toNat 7) IntKind.u32.bits))).toNat:Int)) &&& BitVec.ofInt IntKind.u32.bits 65535).toNat:Int))) an)<|zAc 1<|zAa<|zAn<|E_a [] an (I (IntKind.u32.wrap (↑(BitVec.ofInt IntKind.u32.bits (IntKind.u32.wrap (↑(BitVec.ofInt IntKind.u32.bits (IntKind.u32.wrap (IntKind.u32.wrap (30011*t)+IntKind.u32.wrap (263*IntKind.u32.wrap (l.getD a 0)))) ^^^ BitVec.ofInt IntKind.u32.bits ((IntKind.u32.wrap (IntKind.u32.wrap (30011*t)+IntKind.u32.wrap (263*IntKind.u32.wrap (l.getD a 0)))).fdiv (2 ^ min (Int.toNat 7) IntKind.u32.bits))).toNat:Int)) &&& BitVec.ofInt IntKind.u32.bits 65535).toNat:Int))) ([(PV.agg [PV.sl (List.map u8 l),I (↑(a+1):Int),PV.int IntKind.u32 t]).box]) ?_ ?_))
 ·exact hb _
 ·have e1:a=l.length:=by omega
  have e2:0<l.length:=by omega
  simp only [zHu,zGn,zAN,e1,e2,if_true];rfl
 ·have e1:a=l.length:=by omega
  have e2:0<l.length:=by omega
  simp only [zAE,zGn,zAN,e1,e2,if_true];rfl
 ·exact hb _
 ·have e1:a=l.length:=by omega
  have e2:¬ 0<l.length:=by omega
  simp only [zHu,zGn,zAN,e1,e2,if_true,if_false];rfl
 ·have e1:a=l.length:=by omega
  have e2:¬ 0<l.length:=by omega
  simp only [zAE,zGn,zAN,e1,e2,if_true,if_false];rfl
 ·exact hb _
 ·have e1:¬ a=l.length:=by omega
  have e2:0<l.length:=by omega
  simp only [zHu,zGn,zAN,e1,e2,if_true,if_false];rfl
 ·have e1:¬ a=l.length:=by omega
  have e2:0<l.length:=by omega
  simp only [zAE,zGn,zAN,e1,e2,if_true,if_false]
theorem f129 (l:List Int) (a:Nat) (t:Int) (n:Int) (h:zDX l a) (hn : -9000000000000000000≤n∧n≤9000000000000000000):zAo Tryz.prog zCD 129 [zPA,I n] [zBV l a t] (I (zAs l a t n)) [zBV l (zAE l a) (zAN l a t)]:=by
 refine zAe Tryz.f129 ?_
 have e:(if n+1>1 then n+1 else 1)=max 1 (n+1):=by split<;>omega
 refine zAd 1<|zAa<|zAd 1<|S_a [(4,.ret (I (zHu l a t)) ([zBV l (zAE l a) (zAN l a t)]))] (ap (f175 l a t (by omega)) an)<|zAc 1<|S_a [(1,.v (I (n+1)))] (ap ((zCr rfl (by omega)):I (IntKind.i64.wrap (n+1))=I (n+1)) an)<|zAc 1<|S_a [(0,.v (I ((zHu l a t).tmod (if n+1>1 then n+1 else 1))))] (ap (zUJ (by omega) rfl:zHt Tryz.prog BinOp.rem 3 (I (zHu l a t)) (I (if n+1>1 then n+1 else 1))=some (I ((zHu l a t).tmod (if n+1>1 then n+1 else 1)))) an)<|zAc 1<|zAa<|zAn<|E_a [] an (I ((zHu l a t).tmod (if n+1>1 then n+1 else 1))) ([(PV.agg [PV.sl (List.map u8 l),I (↑(zAE l a):Int),PV.int IntKind.u32 (zAN l a t)]).box]) ?_ rfl
 rw [e];rfl
theorem f127 (l:List Int) (a:Nat) (t:Int) (lo hi:Int) (h:zDX l a) (hl:0≤lo∧lo≤1000000) (hn:0≤hi∧hi≤1000000):zAo Tryz.prog zCD 127 [zPA,I lo,I hi] [zBV l a t] (I (lo+zAs l a t (hi-lo))) [zBV l (zAE l a) (zAN l a t)]:=by
 refine zAe Tryz.f127 ?_
 have:=zCE l a t (hi-lo)
 refine zAd 1<|zAa<|zAd 4<|S_a [(1,.v (I (hi-lo)))] (ap ((zCr rfl (by omega)):I (IntKind.i64.wrap (hi-lo))=I (hi-lo)) an)<|S_a [(6,.ret (I (zAs l a t (hi-lo))) ([zBV l (zAE l a) (zAN l a t)]))] (ap (f129 l a t (hi-lo) (by omega) (by omega)) an)<|S_a [(1,.v (I (lo+zAs l a t (hi-lo))))] (ap ((zCr rfl (by omega)):I (IntKind.i64.wrap (lo+zAs l a t (hi-lo)))=I (lo+zAs l a t (hi-lo))) an)<|zAc 1<|zAa<|zAn<|E_a [] an (I (lo+zAs l a t (hi-lo))) ([(PV.agg [PV.sl (List.map u8 l),I (↑(zAE l a):Int),PV.int IntKind.u32 (zAN l a t)]).box]) rfl rfl
theorem f128 (l:List Int) (a:Nat) (t:Int) (n:Int) (h:zDX l a) (hn:0≤n∧n≤1000000):zAo Tryz.prog zCD 128 [zPA,I n] [zBV l a t] (.bool (decide (zAs l a t (n-1)=0))) [zBV l (zAE l a) (zAN l a t)]:=by
 refine zAe Tryz.f128 ?_
 refine zAd 1<|zAa<|zAd 2<|S_a [(1,.v (I (n-1)))] (ap ((zCr rfl (by omega)):I (IntKind.i64.wrap (n-1))=I (n-1)) an)<|S_a [(6,.ret (I (zAs l a t (n-1))) ([zBV l (zAE l a) (zAN l a t)]))] (ap (f129 l a t (n-1) (by omega) (by omega)) an)<|zAc 2<|zAa<|zAn<|E_a [] an (PV.bool (zAs l a t (n-1)==0)) ([(PV.agg [PV.sl (List.map u8 l),I (↑(zAE l a):Int),PV.int IntKind.u32 (zAN l a t)]).box]) rfl rfl
end
end Go.Eng
namespace Go.Eng
open Go Go.Proofs
def zOK (n:Nw):Int:=if zCP n.h n.l=0 then if zDZ n.n=0 then if (!n.s.all fun x=>zKs n.h x)=true then 1 else if (!n.s.all fun x=>zD2 x)=true then 4 else 0 else zDZ n.n else zCP n.h n.l
theorem zVJ {n:Nw} (h1:(!inB n.h 1 10)=false) (h2:¬ (n.l.length:Int)>15) (h3:(!inB n.n.length 1 8)=false) (h4:(!inB n.s.length 1 6)=false):zGA n=zOK n:=by
 simp only [zGA,h1,h2,h3,h4,if_false];rfl
theorem zYE {n:Nw} (h:∀ i,i<n.n.length→inB (n.n.getD i default).1 (-1) ((i:Int)-1)=true):zRG n.n=true:=by
 simp only [zRG,List.all_eq_true,List.mem_range];exact h
theorem zWF {l:List (Int×Bool)} {i:Nat} (hi:i<l.length) (hr:inB (l.getD i default).1 (-1) ((i:Int)-1)=true):zMT l i=true↔∃ k,k<i∧0≤(l.getD i default).1∧(l.getD i default).1=(l.getD k default).1:=by
 have hr:=zFM hr
 simp only [zMT,Bool.and_eq_true,decide_eq_true_eq,List.any_eq_true]
 constructor
 ·rintro ⟨h1,x,h2,h3⟩
  obtain ⟨k,hk,rfl⟩:=List.getElem_of_mem h2
  rw [List.length_take] at hk
  refine ⟨k,by omega,by omega,?_⟩
  rw [zAB (l:=l) (i:=k) (by omega)]
  rw [List.getElem_take] at h3
  exact h3.symm
 ·rintro ⟨k,h1,h2,h3⟩
  refine ⟨by omega, (l.take i)[k]'(by rw [List.length_take]; omega), List.getElem_mem _, ?_⟩
  rw [List.getElem_take,h3,zAB (l:=l) (i:=k) (by omega)]
theorem zXh {n:Nw} (hn:zRG n.n=true) (h:∀ i,i<n.n.length→∀ k,k<i→¬ ((n.n.getD i default).1≥0∧(n.n.getD i default).1=(n.n.getD k default).1)):zDZ n.n=0:=by
 have:(List.range n.n.length).any (zMT n.n)=false:=by
  simp only [List.any_eq_false,List.mem_range]
  intro i hi ht
  have hr:inB (n.n.getD i default).1 (-1) ((i:Int)-1)=true:=by
   simp only [zRG,List.all_eq_true,List.mem_range] at hn;exact hn i hi
  obtain ⟨k,h1,h2,h3⟩:=(zWF hi hr).1 ht
  exact h i hi k h1 ⟨h2,h3⟩
 simp only [zDZ,hn,this,if_true];rfl
theorem zWL {n:Nw} (hl:zCP n.h n.l=0) (hn:zDZ n.n=0) (hs:(n.s.all fun x=>zKs n.h x)=true) (ho:(n.s.all fun x=>zD2 x)=true):zOK n=0:=by
 simp only [zOK,hl,hn,hs,ho];rfl
end Go.Eng
namespace Go.Eng
open Go Go.Proofs
structure LkOk (q:List (Int×Int)) (h:Int):Prop where
 rng:∀ x∈q,1≤x.1∧x.1<h∧0≤x.2∧x.2<x.1
 nd:(q.map pr2).Nodup
 len:(q.length:Int)<h
theorem zUr {x:Int×Int} (h:x.2<x.1):pr2 x=(x.2,x.1):=by
 simp only [pr2];rw [if_pos h,if_neg (by omega)]
theorem LkOk.snoc {q:List (Int×Int)} {h s:Int} (hq:LkOk q h) (hh:1≤h) (hs:0≤s∧s<h):LkOk (q++[(h,s)]) (h+1):=by
 refine ⟨fun x hx=>?_,?_,by have:=hq.len;simp;omega⟩
 ·rcases List.mem_append.1 hx with hx | hx
  ·have:=hq.rng x hx;omega
  ·rw [List.mem_singleton] at hx;subst hx;simp only;omega
 ·rw [List.map_append,List.nodup_append]
  refine ⟨hq.nd,by simp,fun a ha b hb=>?_⟩
  obtain ⟨x,hx,rfl⟩:=List.mem_map.1 ha
  simp only [List.map_cons,List.map_nil,List.mem_singleton] at hb
  subst hb
  have:=hq.rng x hx
  rw [zUr (by omega),zUr (x:=(h,s)) (by simp only;omega)]
  intro e
  have:=congrArg Prod.snd e
  simp only at this;omega
theorem LkOk.skip {q:List (Int×Int)} {h:Int} (hq:LkOk q h):LkOk q (h+1):=⟨fun x hx=>by have:=hq.rng x hx;omega,hq.nd,by have:=hq.len;omega⟩
structure LkEnd (q:List (Int×Int)) (H:Int):Prop where
 rng:∀ x∈q,(0≤x.1∧x.1<H)∧(0≤x.2∧x.2<H)∧x.1≠x.2
 nd:(q.map pr2).Nodup
 len:(q.length:Int)≤H
theorem LkOk.fin {q:List (Int×Int)} {H:Int} (hq:LkOk q H):LkEnd q H:=⟨fun x hx=>by have:=hq.rng x hx;omega,hq.nd,by have:=hq.len;omega⟩
theorem LkOk.far {n:Nw} (hq:LkOk n.l n.h) (hh:1<n.h) (hn:zEw n 0 (n.h-1)=false):LkEnd (n.l++[(0,n.h-1)]) n.h:=by
 refine ⟨fun x hx=>?_,?_,by have:=hq.len;simp;omega⟩
 ·rcases List.mem_append.1 hx with hx | hx
  ·have:=hq.rng x hx;omega
  ·rw [List.mem_singleton] at hx;subst hx;simp only;omega
 ·rw [List.map_append,List.nodup_append]
  refine ⟨hq.nd,by simp,fun a ha b hb=>?_⟩
  simp only [List.map_cons,List.map_nil,List.mem_singleton] at hb
  subst hb
  intro e;subst e
  simp only [zEw,decide_eq_false_iff_not] at hn
  exact hn ha
structure NtOk (F:List Int) (N:List (Int×Bool)) (i:Nat):Prop where
 len:N.length=i
 fl:F.length≤i
 fr:∀ f∈F,0≤f∧f<i
 fnd:F.Nodup
 na:∀ j,j<i→-1≤(N.getD j default).1∧(N.getD j default).1<j
 nd:∀ j k,k<j→j<i→(N.getD j default).1≠-1→(N.getD k default).1≠(N.getD j default).1
 un:∀ f∈F,∀ j,j<i→(N.getD j default).1≠f
theorem zQe {N:List (Int×Bool)} {x:Int×Bool} {i j:Nat} (hl:N.length=i) (hj:j<i+1):(N++[x]).getD j default=if j=i then x else N.getD j default:=by
 split
 ·rename_i h;subst h;subst hl
  simp [List.getD_eq_getElem?_getD]
 ·rw [List.getD_eq_getElem?_getD,List.getElem?_append_left (by omega),← List.getD_eq_getElem?_getD]
theorem NtOk.step {F G:List Int} {N:List (Int×Bool)} {i:Nat} {y:Int} {b:Bool} (h:NtOk F N i) (hG:∀ f∈G,f∈F) (hGn:G.Nodup) (hGl:G.length≤i) (hy:y = -1∨y∈F∧y∉G):NtOk (G++[(i:Int)]) (N++[(y,b)]) (i+1):=by
 have hyr : -1≤y∧y<i:=by
  rcases hy with rfl | ⟨h1,_⟩
  ·omega
  ·have:=h.fr y h1;omega
 have hg:=fun j (hj:j<i+1)=>zQe (x:=(y,b)) h.len hj
 refine ⟨by simp [h.len],by simp;omega,fun f hf=>?_,?_,fun j hj=>?_,fun j k hkj hj hI=>?_,fun f hf j hj=>?_⟩
 ·rcases List.mem_append.1 hf with hf | hf
  ·have:=h.fr f (hG f hf);omega
  ·rw [List.mem_singleton] at hf;omega
 ·rw [List.nodup_append]
  refine ⟨hGn,by simp,fun a ha c hc=>?_⟩
  rw [List.mem_singleton] at hc;subst hc
  have:=h.fr a (hG a ha);omega
 ·rw [hg j hj]
  split
  ·simp only;omega
  ·exact h.na j (by omega)
 ·rw [hg j hj] at hI ⊢
  rw [hg k (by omega),if_neg (by omega)]
  split
  ·rename_i e;rw [if_pos e] at hI;simp only at hI ⊢
   rcases hy with e2 | ⟨h1,_⟩
   ·exact absurd e2 hI
   ·exact h.un y h1 k (by omega)
  ·rename_i e;rw [if_neg e] at hI
   exact h.nd j k hkj (by omega) hI
 ·rw [hg j hj]
  split
  ·simp only
   rcases List.mem_append.1 hf with hf | hf
   ·rcases hy with e2 | ⟨_,h2⟩
    ·have:=h.fr f (hG f hf);omega
    ·exact fun e=>h2 (e▸hf)
   ·rw [List.mem_singleton] at hf;omega
  ·rcases List.mem_append.1 hf with hf | hf
   ·exact h.un f (hG f hf) j (by omega)
   ·rw [List.mem_singleton] at hf
    have:=h.na j (by omega);omega
theorem NtOk.one {F:List Int} {N:List (Int×Bool)} {i:Nat} {b:Bool} (h:NtOk F N i):NtOk (F++[(i:Int)]) (N++[(-1,b)]) (i+1):=h.step (fun _ h=>h) h.fnd h.fl (.inl rfl)
theorem NtOk.more {F:List Int} {N:List (Int×Bool)} {i k:Nat} {b:Bool} (h:NtOk F N i) (hk:k<F.length):NtOk (F.eraseIdx k++[(i:Int)]) (N++[(F.getD k 0,b)]) (i+1):=by
 refine h.step (fun f hf=>List.mem_of_mem_eraseIdx hf) (h.fnd.eraseIdx k) (Nat.le_trans (List.length_eraseIdx_le _ _) h.fl) (.inr ⟨?_,?_⟩)
 ·rw [zAB hk];exact List.getElem_mem hk
 ·rw [zAB hk]
  intro hm
  have hn:(F.take k++F[k]::F.drop (k+1)).Nodup:=by rw [← List.drop_eq_getElem_cons hk,List.take_append_drop];exact h.fnd
  rw [List.nodup_append] at hn
  rw [List.eraseIdx_eq_take_drop_succ] at hm
  rcases List.mem_append.1 hm with hm | hm
  ·exact hn.2.2 _ hm _ List.mem_cons_self rfl
  ·exact (List.nodup_cons.1 hn.2.1).1 hm
structure RwOk (r:List Int) (h:Nat):Prop where
 rng:∀ x∈r,0≤x∧x<h
 inc:zQI r=true
 len:r.length≤h
theorem zRi {p:List Int} {c:Int} (h:zQI p=true) (hc:∀ y∈p,y<c):zQI (p++[c])=true:=by
 simp only [zQI,List.all_eq_true,List.mem_range,decide_eq_true_eq,List.length_append,List.length_singleton] at h ⊢
 intro j hj
 rw [List.getD_eq_getElem?_getD,List.getD_eq_getElem?_getD,List.getElem?_append_left (by omega)]
 by_cases e:j+1<p.length
 ·rw [List.getElem?_append_left e,← List.getD_eq_getElem?_getD,← List.getD_eq_getElem?_getD]
  exact h j (by omega)
 ·rw [List.getElem?_append_right (by omega),show j+1-p.length=0 by omega]
  have jQ:j<p.length:=by omega
  rw [List.getElem?_eq_getElem jQ]
  exact hc _ (List.getElem_mem jQ)
theorem RwOk.snoc {r:List Int} {h:Nat} (hr:RwOk r h):RwOk (r++[(h:Int)]) (h+1):=by
 refine ⟨fun x hx=>?_,zRi hr.inc fun y hy=>(hr.rng y hy).2,by have:=hr.len;simp;omega⟩
 rcases List.mem_append.1 hx with hx | hx
 ·have:=hr.rng x hx;omega
 ·rw [List.mem_singleton] at hx;omega
theorem RwOk.skip {r:List Int} {h:Nat} (hr:RwOk r h):RwOk r (h+1):=⟨fun x hx=>by have:=hr.rng x hx;omega,hr.inc,by have:=hr.len;omega⟩
theorem zVn {H:Int} {q:List (Int×Int)} {F:List Int} {N:List (Int×Bool)} {S:List (List Int)} {m:Nat} (hH:1≤H∧H≤10) (hq:LkEnd q H) (hN:NtOk F N m) (hm:1≤m∧m≤8) (hS:∀ r∈S,RwOk r H.toNat) (vC:1≤S.length∧S.length≤6):zGA ⟨H,q,N,S⟩=0:=by
 have hml:=hN.len
 have e:zGA ⟨H,q,N,S⟩=zOK ⟨H,q,N,S⟩:=by
  refine zVJ ?_ ?_ ?_ ?_
  ·simp only [inB,Bool.not_eq_false',Bool.and_eq_true,decide_eq_true_eq];omega
  ·have:=hq.len;simp only;omega
  ·simp only [inB,Bool.not_eq_false',Bool.and_eq_true,decide_eq_true_eq];omega
  ·simp only [inB,Bool.not_eq_false',Bool.and_eq_true,decide_eq_true_eq];omega
 rw [e]
 refine zWL ?_ ?_ ?_ ?_
 ·have h1:(q.all fun x=>zJZ H x)=true:=List.all_eq_true.2 fun x hx=>by
   have:=hq.rng x hx
   simp only [zJZ,inB,Bool.and_eq_true,decide_eq_true_eq];omega
  have h2:(q.all fun x=>zJ2 x)=true:=List.all_eq_true.2 fun x hx=>by
   have:=hq.rng x hx
   simp only [zJ2,decide_eq_true_eq];exact this.2.2
  have h3:=hq.nd
  simp only [zCP,h1,h2,h3,if_true]
 ·refine zXh (n:=⟨H,q,N,S⟩) (zYE (n:=⟨H,q,N,S⟩) fun i hi=>?_) fun i hi k hk=>?_
  ·have:=hN.na i (by simp only at hi;omega)
   simp only [inB,Bool.and_eq_true,decide_eq_true_eq];omega
  ·rintro ⟨h1,h2⟩
   exact hN.nd i k hk (by simp only at hi;omega) (by simp only at h1;omega) h2.symm
 ·exact List.all_eq_true.2 fun r hr=>List.all_eq_true.2 fun x hx=>by
   have:=(hS r hr).rng x hx
   simp only [inB,Bool.and_eq_true,decide_eq_true_eq];omega
 ·exact List.all_eq_true.2 fun r hr=>by rw [zKG];exact (hS r hr).inc
end Go.Eng
set_option maxRecDepth 10000
set_option maxHeartbeats 4000000
namespace Go.Eng
open Go Go.Proofs
section
variable [Yo]
theorem f157 (x:Int×Int) (a b:Int):FG 157 [prV x,.ref (I a),.ref (I b)] (.bool (zNw a b x)):=by
 refine zAe Tryz.f157 ?_
 refine zAd 2<|zAa<|zAd 4<|S_a [(0,.v (PV.bool (decide (x.fst=a)&&decide (x.snd=b))))] (ap (zRa:zHt Tryz.prog BinOp.eql 87 (PV.agg [I x.fst,I x.snd]) (PV.agg [I a,I b])=some (PV.bool (decide (x.fst=a)&&decide (x.snd=b)))) an)<|zAc 1<|zGh 10 (decide (x.fst=a)&&decide (x.snd=b)) (fun k0=>(zAc 7<|zAa<|zAn<|E_a [] an (PV.bool true) [] ?_ rfl)) (fun k0=>(zAc 4<|S_a [(0,.v (PV.bool (decide (x.fst=b)&&decide (x.snd=a))))] (ap (zRa:zHt Tryz.prog BinOp.eql 87 (PV.agg [I x.fst,I x.snd]) (PV.agg [I b,I a])=some (PV.bool (decide (x.fst=b)&&decide (x.snd=a)))) an)<|zAc 2<|zAa<|zAn<|E_a [] an (PV.bool (decide (x.fst=b)&&decide (x.snd=a))) [] ?_ rfl))
 ·have e:zNw a b x=true:=by
   simp only [Bool.and_eq_true,decide_eq_true_eq] at k0
   simp only [zNw,decide_eq_true_eq];exact .inl k0
  rw [e]
 ·congr 1
  rw [Bool.eq_iff_iff]
  have:¬ (x.1=a∧x.2=b):=fun h=>by simp [h.1,h.2] at k0
  simp only [Bool.and_eq_true,decide_eq_true_eq,zNw]
  exact ⟨.inr,fun h=>h.elim (fun h=>absurd h this) id⟩
theorem f202_5 (a b:Int) (l:List (Int×Int)) (hl:l.length<4294967296):FG 202 [.sl (l.map prV),.func 157 [] [.ref (I a),.ref (I b)]] (I (zEC (fun x=>zNw a b x) l)):=by
 refine zAe Tryz.f202 ?_
 refine zAd 1<|zAa<|zAh<|zAd 1<|S_a [(0,.n l.length)] (ap (lnS prV l) an)<|zAc 1<|zAa<|zAk 0 ?_
 refine zAy (fun i=>i≤l.length∧∀ j,j<i→(fun x=>zNw a b x) (l.getD j default)=false) (fun i=>[(8,I (i:Nat))]) (fun i=>l.length-i) (0:Nat) (by simp) fun i ⟨hi,ha⟩=>?_
 refine zAd 1<|zAa<|zAh<|zDn ((↑i:Int)<(↑l.length:Int)) (fun k0=>(zAm<|zAh<|zAk 1<|zAd 2<|zAa<|zAd 3<|S_a [(2,.v (PV.agg [I (l.getD i default).fst,I (l.getD i default).snd]))] (ap (zCh default (by omega):(List.map prV l)[i]? = some (PV.agg [I (l.getD i default).fst,I (l.getD i default).snd])) an)<|zAc 1<|S_a [(8,.ret (PV.bool (zNw a b (l.getD i default))) [])] (ap (f157 (l.getD i default) a b) an)<|zAa<|zGb (zNw a b (l.getD i default)) (fun k1=>(zAd 2<|zAa<|zAn<|E_a [] an (I (↑i:Int)) [] ?_ rfl)) (fun k1=>(zAm<|zAg<|S_a [(1,.v (I (↑(i+1):Int)))] (ap (wrN i) an)<|zAc 1<|zAa ?_)))) (fun k0=>(zAM 0<|zAd 1<|zAa<|zAn<|E_a [] an (I (-1)) [] ?_ rfl))
 ·rw [zB5 (i:=i) (by omega) (fun j hj=>by rw [← zAB (d:=default)];exact ha j hj) (by rw [← zAB (d:=default)];first | assumption | exact decide_eq_true ‹_› | (simp only [Bool.not_eq_true',decide_eq_false_iff_not];assumption))]
 ·refine ⟨i+1,⟨by omega,fun j hj=>?_⟩,by omega,by kernel_rfl,by kernel_rfl⟩
  rcases Nat.lt_succ_iff_lt_or_eq.1 hj with h | rfl
  ·exact ha j h
  ·first | assumption | exact decide_eq_false ‹_› | (simp only [Bool.not_eq_false',decide_eq_true_eq];first | assumption | (apply Decidable.of_not_not;assumption))
 ·rw [zCy fun j hj=>by rw [← zAB (d:=default)];exact ha j (by omega)]
theorem f156_5 (a b:Int) (l:List (Int×Int)) (hl:l.length<4294967296):FG 156 [.sl (l.map prV),.func 157 [] [.ref (I a),.ref (I b)]] (.bool (l.any (fun x=>zNw a b x))):=by
 refine zAe Tryz.f156 ?_
 refine zAd 1<|zAa<|zAd 2<|S_a [(7,.ret (I (zEC (fun x=>zNw a b x) l)) [])] (ap (f202_5 a b l (by omega)) an)<|zAc 2<|zAa<|zAn<|E_a [] an (PV.bool (decide (zEC (fun x=>zNw a b x) l≥0))) [] ?_ rfl
 rw [zD9]
theorem f77 (n:Nw) (a b:Int) (hl:n.l.length<1000000):FG 77 [nwV n,I a,I b] (.bool (zEw n a b)):=by
 rw [← zVq]
 refine zAe Tryz.f77 ?_
 refine zAd 4<|zAa<|zAd 3<|S_a [(19,.ret (PV.bool (n.l.any fun x=>zNw a b x)) [])] (ap (f156_5 a b n.l (by omega)) an)<|zAc 1<|zAa<|zAn<|E_a [] an (PV.bool (n.l.any fun x=>zNw a b x)) [] rfl rfl
theorem f130_10 (p0:Int):zAo Tryz.prog zCD 130 [.bor 50000000 [] 1 0 1,I 0,I 1] [.own 1 [I p0]] (.bor 50000000 [] 1 0 0) [.own 1 [I 0]]:=by
 refine zAe Tryz.f130 ?_
 refine zAd 1<|zAa<|zAd 6<|zAa<|zAh<|zAd 3<|zAa<|zAH<|zAm<|zAd 3<|zAa<|zAd 2<|zAc 1<|zAc 3<|zAc 1<|zAc 1<|zAa<|zAd 4<|zAc 1<|zAc 1<|zAa<|zAd 1<|zAc 1<|zAa<|zAn<|E_a [] an (PV.bor 50000000 [] 1 0 0) ([PV.own 1 [I 0]]) rfl rfl
theorem f130_20 (p0 p1:Int):zAo Tryz.prog zCD 130 [.bor 50000000 [] 1 0 2,I 0,I 1] [.own 1 [I p0,I p1]] (.bor 50000000 [] 1 0 1) [.own 1 [I p1,I 0]]:=by
 refine zAe Tryz.f130 ?_
 refine zAd 1<|zAa<|zAd 6<|zAa<|zAh<|zAd 3<|zAa<|zAH<|zAm<|zAd 3<|zAa<|zAd 2<|zAc 1<|zAc 2<|zAc 1<|zAc 1<|zAc 1<|zAa<|zAd 4<|zAc 1<|zAc 1<|zAa<|zAd 1<|zAc 1<|zAa<|zAn<|E_a [] an (PV.bor 50000000 [] 1 0 1) ([PV.own 1 [I p1,I 0]]) rfl rfl
theorem f130_21 (p0 p1:Int):zAo Tryz.prog zCD 130 [.bor 50000000 [] 1 0 2,I 1,I 2] [.own 1 [I p0,I p1]] (.bor 50000000 [] 1 0 1) [.own 1 [I p0,I 0]]:=by
 refine zAe Tryz.f130 ?_
 refine zAd 1<|zAa<|zAd 6<|zAa<|zAh<|zAd 3<|zAa<|zAH<|zAm<|zAd 3<|zAa<|zAd 2<|zAc 1<|zAc 3<|zAc 1<|zAc 1<|zAa<|zAd 4<|zAc 1<|zAc 1<|zAa<|zAd 1<|zAc 1<|zAa<|zAn<|E_a [] an (PV.bor 50000000 [] 1 0 1) ([PV.own 1 [I p0,I 0]]) rfl rfl
theorem f130_30 (p0 p1 p2:Int):zAo Tryz.prog zCD 130 [.bor 50000000 [] 1 0 3,I 0,I 1] [.own 1 [I p0,I p1,I p2]] (.bor 50000000 [] 1 0 2) [.own 1 [I p1,I p2,I 0]]:=by
 refine zAe Tryz.f130 ?_
 refine zAd 1<|zAa<|zAd 6<|zAa<|zAh<|zAd 3<|zAa<|zAH<|zAm<|zAd 3<|zAa<|zAd 2<|zAc 1<|zAc 2<|zAc 1<|zAc 1<|zAc 1<|zAa<|zAd 4<|zAc 1<|zAc 1<|zAa<|zAd 1<|zAc 1<|zAa<|zAn<|E_a [] an (PV.bor 50000000 [] 1 0 2) ([PV.own 1 [I p1,I p2,I 0]]) rfl rfl
theorem f130_31 (p0 p1 p2:Int):zAo Tryz.prog zCD 130 [.bor 50000000 [] 1 0 3,I 1,I 2] [.own 1 [I p0,I p1,I p2]] (.bor 50000000 [] 1 0 2) [.own 1 [I p0,I p2,I 0]]:=by
 refine zAe Tryz.f130 ?_
 refine zAd 1<|zAa<|zAd 6<|zAa<|zAh<|zAd 3<|zAa<|zAH<|zAm<|zAd 3<|zAa<|zAd 2<|zAc 1<|zAc 2<|zAc 1<|zAc 1<|zAc 1<|zAa<|zAd 4<|zAc 1<|zAc 1<|zAa<|zAd 1<|zAc 1<|zAa<|zAn<|E_a [] an (PV.bor 50000000 [] 1 0 2) ([PV.own 1 [I p0,I p2,I 0]]) rfl rfl
theorem f130_32 (p0 p1 p2:Int):zAo Tryz.prog zCD 130 [.bor 50000000 [] 1 0 3,I 2,I 3] [.own 1 [I p0,I p1,I p2]] (.bor 50000000 [] 1 0 2) [.own 1 [I p0,I p1,I 0]]:=by
 refine zAe Tryz.f130 ?_
 refine zAd 1<|zAa<|zAd 6<|zAa<|zAh<|zAd 3<|zAa<|zAH<|zAm<|zAd 3<|zAa<|zAd 2<|zAc 1<|zAc 3<|zAc 1<|zAc 1<|zAa<|zAd 4<|zAc 1<|zAc 1<|zAa<|zAd 1<|zAc 1<|zAa<|zAn<|E_a [] an (PV.bor 50000000 [] 1 0 2) ([PV.own 1 [I p0,I p1,I 0]]) rfl rfl
theorem f130_40 (p0 p1 p2 p3:Int):zAo Tryz.prog zCD 130 [.bor 50000000 [] 1 0 4,I 0,I 1] [.own 1 [I p0,I p1,I p2,I p3]] (.bor 50000000 [] 1 0 3) [.own 1 [I p1,I p2,I p3,I 0]]:=by
 refine zAe Tryz.f130 ?_
 refine zAd 1<|zAa<|zAd 6<|zAa<|zAh<|zAd 3<|zAa<|zAH<|zAm<|zAd 3<|zAa<|zAd 2<|zAc 1<|zAc 2<|zAc 1<|zAc 1<|zAc 1<|zAa<|zAd 4<|zAc 1<|zAc 1<|zAa<|zAd 1<|zAc 1<|zAa<|zAn<|E_a [] an (PV.bor 50000000 [] 1 0 3) ([PV.own 1 [I p1,I p2,I p3,I 0]]) rfl rfl
theorem f130_41 (p0 p1 p2 p3:Int):zAo Tryz.prog zCD 130 [.bor 50000000 [] 1 0 4,I 1,I 2] [.own 1 [I p0,I p1,I p2,I p3]] (.bor 50000000 [] 1 0 3) [.own 1 [I p0,I p2,I p3,I 0]]:=by
 refine zAe Tryz.f130 ?_
 refine zAd 1<|zAa<|zAd 6<|zAa<|zAh<|zAd 3<|zAa<|zAH<|zAm<|zAd 3<|zAa<|zAd 2<|zAc 1<|zAc 2<|zAc 1<|zAc 1<|zAc 1<|zAa<|zAd 4<|zAc 1<|zAc 1<|zAa<|zAd 1<|zAc 1<|zAa<|zAn<|E_a [] an (PV.bor 50000000 [] 1 0 3) ([PV.own 1 [I p0,I p2,I p3,I 0]]) rfl rfl
theorem f130_42 (p0 p1 p2 p3:Int):zAo Tryz.prog zCD 130 [.bor 50000000 [] 1 0 4,I 2,I 3] [.own 1 [I p0,I p1,I p2,I p3]] (.bor 50000000 [] 1 0 3) [.own 1 [I p0,I p1,I p3,I 0]]:=by
 refine zAe Tryz.f130 ?_
 refine zAd 1<|zAa<|zAd 6<|zAa<|zAh<|zAd 3<|zAa<|zAH<|zAm<|zAd 3<|zAa<|zAd 2<|zAc 1<|zAc 2<|zAc 1<|zAc 1<|zAc 1<|zAa<|zAd 4<|zAc 1<|zAc 1<|zAa<|zAd 1<|zAc 1<|zAa<|zAn<|E_a [] an (PV.bor 50000000 [] 1 0 3) ([PV.own 1 [I p0,I p1,I p3,I 0]]) rfl rfl
theorem f130_43 (p0 p1 p2 p3:Int):zAo Tryz.prog zCD 130 [.bor 50000000 [] 1 0 4,I 3,I 4] [.own 1 [I p0,I p1,I p2,I p3]] (.bor 50000000 [] 1 0 3) [.own 1 [I p0,I p1,I p2,I 0]]:=by
 refine zAe Tryz.f130 ?_
 refine zAd 1<|zAa<|zAd 6<|zAa<|zAh<|zAd 3<|zAa<|zAH<|zAm<|zAd 3<|zAa<|zAd 2<|zAc 1<|zAc 3<|zAc 1<|zAc 1<|zAa<|zAd 4<|zAc 1<|zAc 1<|zAa<|zAd 1<|zAc 1<|zAa<|zAn<|E_a [] an (PV.bor 50000000 [] 1 0 3) ([PV.own 1 [I p0,I p1,I p2,I 0]]) rfl rfl
theorem f130_50 (p0 p1 p2 p3 p4:Int):zAo Tryz.prog zCD 130 [.bor 50000000 [] 1 0 5,I 0,I 1] [.own 1 [I p0,I p1,I p2,I p3,I p4]] (.bor 50000000 [] 1 0 4) [.own 1 [I p1,I p2,I p3,I p4,I 0]]:=by
 refine zAe Tryz.f130 ?_
 refine zAd 1<|zAa<|zAd 6<|zAa<|zAh<|zAd 3<|zAa<|zAH<|zAm<|zAd 3<|zAa<|zAd 2<|zAc 1<|zAc 2<|zAc 1<|zAc 1<|zAc 1<|zAa<|zAd 4<|zAc 1<|zAc 1<|zAa<|zAd 1<|zAc 1<|zAa<|zAn<|E_a [] an (PV.bor 50000000 [] 1 0 4) ([PV.own 1 [I p1,I p2,I p3,I p4,I 0]]) rfl rfl
theorem f130_51 (p0 p1 p2 p3 p4:Int):zAo Tryz.prog zCD 130 [.bor 50000000 [] 1 0 5,I 1,I 2] [.own 1 [I p0,I p1,I p2,I p3,I p4]] (.bor 50000000 [] 1 0 4) [.own 1 [I p0,I p2,I p3,I p4,I 0]]:=by
 refine zAe Tryz.f130 ?_
 refine zAd 1<|zAa<|zAd 6<|zAa<|zAh<|zAd 3<|zAa<|zAH<|zAm<|zAd 3<|zAa<|zAd 2<|zAc 1<|zAc 2<|zAc 1<|zAc 1<|zAc 1<|zAa<|zAd 4<|zAc 1<|zAc 1<|zAa<|zAd 1<|zAc 1<|zAa<|zAn<|E_a [] an (PV.bor 50000000 [] 1 0 4) ([PV.own 1 [I p0,I p2,I p3,I p4,I 0]]) rfl rfl
theorem f130_52 (p0 p1 p2 p3 p4:Int):zAo Tryz.prog zCD 130 [.bor 50000000 [] 1 0 5,I 2,I 3] [.own 1 [I p0,I p1,I p2,I p3,I p4]] (.bor 50000000 [] 1 0 4) [.own 1 [I p0,I p1,I p3,I p4,I 0]]:=by
 refine zAe Tryz.f130 ?_
 refine zAd 1<|zAa<|zAd 6<|zAa<|zAh<|zAd 3<|zAa<|zAH<|zAm<|zAd 3<|zAa<|zAd 2<|zAc 1<|zAc 2<|zAc 1<|zAc 1<|zAc 1<|zAa<|zAd 4<|zAc 1<|zAc 1<|zAa<|zAd 1<|zAc 1<|zAa<|zAn<|E_a [] an (PV.bor 50000000 [] 1 0 4) ([PV.own 1 [I p0,I p1,I p3,I p4,I 0]]) rfl rfl
theorem f130_53 (p0 p1 p2 p3 p4:Int):zAo Tryz.prog zCD 130 [.bor 50000000 [] 1 0 5,I 3,I 4] [.own 1 [I p0,I p1,I p2,I p3,I p4]] (.bor 50000000 [] 1 0 4) [.own 1 [I p0,I p1,I p2,I p4,I 0]]:=by
 refine zAe Tryz.f130 ?_
 refine zAd 1<|zAa<|zAd 6<|zAa<|zAh<|zAd 3<|zAa<|zAH<|zAm<|zAd 3<|zAa<|zAd 2<|zAc 1<|zAc 2<|zAc 1<|zAc 1<|zAc 1<|zAa<|zAd 4<|zAc 1<|zAc 1<|zAa<|zAd 1<|zAc 1<|zAa<|zAn<|E_a [] an (PV.bor 50000000 [] 1 0 4) ([PV.own 1 [I p0,I p1,I p2,I p4,I 0]]) rfl rfl
theorem f130_54 (p0 p1 p2 p3 p4:Int):zAo Tryz.prog zCD 130 [.bor 50000000 [] 1 0 5,I 4,I 5] [.own 1 [I p0,I p1,I p2,I p3,I p4]] (.bor 50000000 [] 1 0 4) [.own 1 [I p0,I p1,I p2,I p3,I 0]]:=by
 refine zAe Tryz.f130 ?_
 refine zAd 1<|zAa<|zAd 6<|zAa<|zAh<|zAd 3<|zAa<|zAH<|zAm<|zAd 3<|zAa<|zAd 2<|zAc 1<|zAc 3<|zAc 1<|zAc 1<|zAa<|zAd 4<|zAc 1<|zAc 1<|zAa<|zAd 1<|zAc 1<|zAa<|zAn<|E_a [] an (PV.bor 50000000 [] 1 0 4) ([PV.own 1 [I p0,I p1,I p2,I p3,I 0]]) rfl rfl
theorem f130g (l:List Int) (i:Nat) (h:i<l.length) (hl:l.length≤5):zAo Tryz.prog zCD 130 [.bor 50000000 [] 1 0 l.length,I (i:Nat),I ((i:Nat)+1:Int)] [.own 1 (l.map I)] (.bor 50000000 [] 1 0 (l.length-1)) [.own 1 ((l.eraseIdx i++[0]).map I)]:=by
 rcases l with _ | ⟨p0,_ | ⟨p1,_ | ⟨p2,_ | ⟨p3,_ | ⟨p4,_ | ⟨p5,l⟩⟩⟩⟩⟩⟩
 ·exact absurd h (Nat.not_lt_zero _)
 ·obtain rfl:i=0:=by simp at h;omega
  ·exact f130_10 p0
 ·obtain rfl | rfl:i=0∨i=1:=by simp at h;omega
  ·exact f130_20 p0 p1
  ·exact f130_21 p0 p1
 ·obtain rfl | rfl | rfl:i=0∨i=1∨i=2:=by simp at h;omega
  ·exact f130_30 p0 p1 p2
  ·exact f130_31 p0 p1 p2
  ·exact f130_32 p0 p1 p2
 ·obtain rfl | rfl | rfl | rfl:i=0∨i=1∨i=2∨i=3:=by simp at h;omega
  ·exact f130_40 p0 p1 p2 p3
  ·exact f130_41 p0 p1 p2 p3
  ·exact f130_42 p0 p1 p2 p3
  ·exact f130_43 p0 p1 p2 p3
 ·obtain rfl | rfl | rfl | rfl | rfl:i=0∨i=1∨i=2∨i=3∨i=4:=by simp at h;omega
  ·exact f130_50 p0 p1 p2 p3 p4
  ·exact f130_51 p0 p1 p2 p3 p4
  ·exact f130_52 p0 p1 p2 p3 p4
  ·exact f130_53 p0 p1 p2 p3 p4
  ·exact f130_54 p0 p1 p2 p3 p4
 ·simp at hl
end
end Go.Eng
