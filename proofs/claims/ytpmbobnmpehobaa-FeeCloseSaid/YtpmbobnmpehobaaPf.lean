/- No zAk that is tried has a lesser spread than the closest one; a settled zAk where all may cry all. -/
import Derived.Test.YtpmbobnmpehobaaPe
import Derived.Test.YtpmbobnmpehobaaPd
set_option linter.unusedVariables false
set_option linter.unusedSimpArgs false
set_option linter.unusedSectionVars false
set_option maxRecDepth 10000
set_option maxHeartbeats 2000000
namespace Go.Eng
open Go Go.Proofs
def zBI (l:List Int):Int:=l.tail.foldl (fun m x=>if x>m then x else m) (l.getD 0 0)
def zCc (l:List Int):Int:=l.tail.foldl (fun m x=>if x<m then x else m) (l.getD 0 0)
theorem zPW {l:List Int} {i:Nat} (h1:1≤i) (h:i<l.length):zBI (l.take (i+1))=if l.getD i 0>zBI (l.take i) then l.getD i 0 else zBI (l.take i):=by
 match l,h with
 | x::l,h =>
  obtain ⟨j,rfl⟩:∃ j,i=j+1:=⟨i-1,by omega⟩
  have hj:j<l.length:=by simpa using h
  simp only [zBI,List.take_succ_cons,List.tail_cons,List.getD_cons_zero,List.getD_cons_succ]
  exact zGJ hj
theorem zQ1 {l:List Int} {i:Nat} (h1:1≤i) (h:i<l.length):zCc (l.take (i+1))=if l.getD i 0<zCc (l.take i) then l.getD i 0 else zCc (l.take i):=by
 match l,h with
 | x::l,h =>
  obtain ⟨j,rfl⟩:∃ j,i=j+1:=⟨i-1,by omega⟩
  have hj:j<l.length:=by simpa using h
  simp only [zCc,List.take_succ_cons,List.tail_cons,List.getD_cons_zero,List.getD_cons_succ]
  exact zGJ hj
theorem zSK {l:List Int} (h:0<l.length):l.getD 0 0=zBI (l.take 1):=by
 match l,h with
 | x::l,_=>simp [zBI]
theorem zSx {l:List Int} (h:0<l.length):l.getD 0 0=zCc (l.take 1):=by
 match l,h with
 | x::l,_=>simp [zCc]
section
variable [Yo]
theorem f53 (l:List Int) (h0:0<l.length) (hl:l.length<4294967296):FG 53 [zCm l] (I (zBI l)):=by
 refine zAi Try.f53 ?_
 refine zAc (zAa (zAe 1 (zAd (zAc (zAc (zAa (zAe 1 (S_a [(0,.n (l.length))] (ap ((by simp):some (List.map I l).length=some l.length) an) (zAe 1 (zAd (zEo ((↑l.length:Int)<1) (by omega) (zAx (zAc (zAa (zAe 1 (S_a [(2,.v (I (l.getD 0 0)))] (ap (zCG (0) (by omega):(List.map I l)[0]? = some (I (l.getD 0 0))) an) (zAe 2 (zAd (zAc (zAc (zAa (zAe 1 (zAd (zAp 0 ?_))))))))))))))))))))))))
 refine zBo (fun (i,m)=>1≤i∧i≤l.length∧m=zBI (l.take i)) (fun (i,m)=>[(3,I m),(4,I (i:Nat))]) (fun (i,_)=>l.length-i) ((1:Nat),l.getD 0 0) ⟨Nat.le_refl _,h0,zSK h0⟩ fun (i,m) ⟨hi1,hi,hm⟩=>?_
 refine zAc (zAc (zAa (zAe 2 (S_a [(0,.n (l.length))] (ap ((by simp):some (List.map I l).length=some l.length) an) (zAe 1 (zAd (zCL ((↑i:Int)<(↑l.length:Int)) (fun k0=>(zAx (zAc (zAp 1 (zAa (zAe 3 (S_a [(2,.v (I (l.getD i 0)))] (ap (zCG (0) (by omega):(List.map I l)[i]? = some (I (l.getD i 0))) an) (zAe 3 (zAd (zAa (zAe 1 (S_a [(1,.v (I (↑(i+1):Int)))] (ap ((zAR (by omega) (by omega)):I (IntKind.i64.wrap ((↑i:Int)+1))=I (↑(i+1):Int)) an) (zAe 1 (zAd ?_)))))))))))))) (fun k0=>(zBM 0 (zAc (zAa (zAe 2 (zAd (zAJ (E_a [] an (I m) ([]) ?_ rfl)))))))))))))))
 ·exact ⟨(i+1,if l.getD i 0>m then l.getD i 0 else m),⟨by omega,by omega,by rw [zPW hi1 (by omega),← hm]⟩,by simp only;omega,by kernel_rfl,by kernel_rfl⟩
 ·rw [hm,List.take_of_length_le (by omega)]
theorem f54 (l:List Int) (h0:0<l.length) (hl:l.length<4294967296):FG 54 [zCm l] (I (zCc l)):=by
 refine zAi Try.f54 ?_
 refine zAc (zAa (zAe 1 (zAd (zAc (zAc (zAa (zAe 1 (S_a [(0,.n (l.length))] (ap ((by simp):some (List.map I l).length=some l.length) an) (zAe 1 (zAd (zEo ((↑l.length:Int)<1) (by omega) (zAx (zAc (zAa (zAe 1 (S_a [(2,.v (I (l.getD 0 0)))] (ap (zCG (0) (by omega):(List.map I l)[0]? = some (I (l.getD 0 0))) an) (zAe 2 (zAd (zAc (zAc (zAa (zAe 1 (zAd (zAp 0 ?_))))))))))))))))))))))))
 refine zBo (fun (i,m)=>1≤i∧i≤l.length∧m=zCc (l.take i)) (fun (i,m)=>[(3,I m),(4,I (i:Nat))]) (fun (i,_)=>l.length-i) ((1:Nat),l.getD 0 0) ⟨Nat.le_refl _,h0,zSx h0⟩ fun (i,m) ⟨hi1,hi,hm⟩=>?_
 refine zAc (zAc (zAa (zAe 2 (S_a [(0,.n (l.length))] (ap ((by simp):some (List.map I l).length=some l.length) an) (zAe 1 (zAd (zCL ((↑i:Int)<(↑l.length:Int)) (fun k0=>(zAx (zAc (zAp 1 (zAa (zAe 3 (S_a [(2,.v (I (l.getD i 0)))] (ap (zCG (0) (by omega):(List.map I l)[i]? = some (I (l.getD i 0))) an) (zAe 3 (zAd (zAa (zAe 1 (S_a [(1,.v (I (↑(i+1):Int)))] (ap ((zAR (by omega) (by omega)):I (IntKind.i64.wrap ((↑i:Int)+1))=I (↑(i+1):Int)) an) (zAe 1 (zAd ?_)))))))))))))) (fun k0=>(zBM 0 (zAc (zAa (zAe 2 (zAd (zAJ (E_a [] an (I m) ([]) ?_ rfl)))))))))))))))
 ·exact ⟨(i+1,if l.getD i 0<m then l.getD i 0 else m),⟨by omega,by omega,by rw [zQ1 hi1 (by omega),← hm]⟩,by simp only;omega,by kernel_rfl,by kernel_rfl⟩
 ·rw [hm,List.take_of_length_le (by omega)]
theorem f103 (b:Dk) (fee f:List Int) (hf:f.length=4) (hc:1≤b.cr∧b.cr≤4):FG 103 [.ref (zBs b fee),.agg (f.map I)] (I (zBI (f.take b.cr.toNat))):=by
 obtain ⟨x0,x1,x2,x3,rfl⟩:=zFE hf
 obtain ⟨cr,wd,st,fn,rs⟩:=b
 obtain rfl | rfl | rfl | rfl:cr=1∨cr=2∨cr=3∨cr=4:=by simp only at hc;omega
 ·have h:=f53 [x0] (by simp) (by simp)
  refine zAi Try.f103 ?_
  refine zAc (zAa (zAe 2 (zAd (zAc (zAa (zAe 6 (S_a [(9,.ret (I (zBI [x0])) ([]))] (ap (h) an) (zAe 1 (zAd (zAJ (E_a [] an (I (zBI [x0])) ([]) rfl rfl)))))))))))
 ·have h:=f53 [x0,x1] (by simp) (by simp)
  refine zAi Try.f103 ?_
  refine zAc (zAa (zAe 2 (zAd (zAc (zAa (zAe 6 (S_a [(9,.ret (I (zBI [x0,x1])) ([]))] (ap (h) an) (zAe 1 (zAd (zAJ (E_a [] an (I (zBI [x0,x1])) ([]) rfl rfl)))))))))))
 ·have h:=f53 [x0,x1,x2] (by simp) (by simp)
  refine zAi Try.f103 ?_
  refine zAc (zAa (zAe 2 (zAd (zAc (zAa (zAe 6 (S_a [(9,.ret (I (zBI [x0,x1,x2])) ([]))] (ap (h) an) (zAe 1 (zAd (zAJ (E_a [] an (I (zBI [x0,x1,x2])) ([]) rfl rfl)))))))))))
 ·have h:=f53 [x0,x1,x2,x3] (by simp) (by simp)
  refine zAi Try.f103 ?_
  refine zAc (zAa (zAe 2 (zAd (zAc (zAa (zAe 6 (S_a [(9,.ret (I (zBI [x0,x1,x2,x3])) ([]))] (ap (h) an) (zAe 1 (zAd (zAJ (E_a [] an (I (zBI [x0,x1,x2,x3])) ([]) rfl rfl)))))))))))
omit [Yo] in
theorem zM6 {lo hi:Int} {p:Int→Int→Prop} [DecidableRel p]:∀ (l:List Int) (m:Int),(∀ x∈l,lo≤x∧x≤hi)→lo≤m∧m≤hi→lo≤l.foldl (fun m x=>if p x m then x else m) m∧l.foldl (fun m x=>if p x m then x else m) m≤hi
 | [],m,_,hm=>hm
 | x::l,m,h,hm=>by
  simp only [List.foldl_cons]
  refine zM6 l _ (fun y hy=>h y (by simp [hy])) ?_
  have:=h x (by simp)
  split<;>omega
omit [Yo] in
theorem zLo {lo hi:Int} {l:List Int} (h0:0<l.length) (h:∀ x∈l,lo≤x∧x≤hi):lo≤zBI l∧zBI l≤hi:=by
 unfold zBI
 exact zM6 (p:=fun x m=>x>m) _ _ (fun x hx=>h x (List.mem_of_mem_tail hx)) (zBB h 0 h0)
omit [Yo] in
theorem zKH {lo hi:Int} {l:List Int} (h0:0<l.length) (h:∀ x∈l,lo≤x∧x≤hi):lo≤zCc l∧zCc l≤hi:=by
 unfold zCc
 exact zM6 (p:=fun x m=>x<m) _ _ (fun x hx=>h x (List.mem_of_mem_tail hx)) (zBB h 0 h0)
theorem f107 (b:Dk) (fee f:List Int) (hf:f.length=4) (hb:∀ x∈f,0≤x∧x≤1000000) (hc:1≤b.cr∧b.cr≤4):FG 107 [.ref (zBs b fee),.agg (f.map I)] (I (zBI (f.take b.cr.toNat)-zCc (f.take b.cr.toNat))):=by
 obtain ⟨x0,x1,x2,x3,rfl⟩:=zFE hf
 obtain yg | yg | yg | yg:b.cr=1∨b.cr=2∨b.cr=3∨b.cr=4:=by omega
 ·have h:=f54 [x0] (by simp) (by simp)
  have e:zBs b fee = .agg [I 1,I b.wd,I b.st,I b.fn,.sl (b.rs.map zBb),zCm fee]:=by
   show PV.agg _=_
   rw [yg]
  have h2:=f103 b fee [x0,x1,x2,x3] rfl hc
  rw [e,yg] at h2
  rw [e,yg]
  have h2:FG 103 [.ref (.agg [I 1,I b.wd,I b.st,I b.fn,.sl (b.rs.map zBb),zCm fee]),.agg [I x0,I x1,I x2,I x3]] (I (zBI [x0])):=h2
  have hM:0≤zBI [x0]∧zBI [x0]≤1000000:=zLo (by simp) fun x hx=>hb x (by simp at hx ⊢;omega)
  have hm:0≤zCc [x0]∧zCc [x0]≤1000000:=zKH (by simp) fun x hx=>hb x (by simp at hx ⊢;omega)
  refine zAi Try.f107 ?_
  refine zAc (zAa (zAe 2 (zAd (zAc (zAa (zAe 2 (S_a [(7,.ret (I (zBI (List.take (Int.toNat 1) [x0,x1,x2,x3]))) ([]))] (ap (h2) an) (zAe 6 (S_a [(9,.ret (I (zCc [x0])) ([]))] (ap (h) an) (S_a [(1,.v (I (zBI (List.take (Int.toNat 1) [x0,x1,x2,x3])-zCc [x0])))] (ap ((zAR rfl (by first | omega | (simp<;>omega))):I (IntKind.i64.wrap (zBI (List.take (Int.toNat 1) [x0,x1,x2,x3])-zCc [x0]))=I (zBI (List.take (Int.toNat 1) [x0,x1,x2,x3])-zCc [x0])) an) (zAe 1 (zAd (zAJ (E_a [] an (I (zBI (List.take (Int.toNat 1) [x0,x1,x2,x3])-zCc [x0])) ([]) rfl rfl))))))))))))))
 ·have h:=f54 [x0,x1] (by simp) (by simp)
  have e:zBs b fee = .agg [I 2,I b.wd,I b.st,I b.fn,.sl (b.rs.map zBb),zCm fee]:=by
   show PV.agg _=_
   rw [yg]
  have h2:=f103 b fee [x0,x1,x2,x3] rfl hc
  rw [e,yg] at h2
  rw [e,yg]
  have h2:FG 103 [.ref (.agg [I 2,I b.wd,I b.st,I b.fn,.sl (b.rs.map zBb),zCm fee]),.agg [I x0,I x1,I x2,I x3]] (I (zBI [x0,x1])):=h2
  have hM:0≤zBI [x0,x1]∧zBI [x0,x1]≤1000000:=zLo (by simp) fun x hx=>hb x (by simp at hx ⊢;omega)
  have hm:0≤zCc [x0,x1]∧zCc [x0,x1]≤1000000:=zKH (by simp) fun x hx=>hb x (by simp at hx ⊢;omega)
  refine zAi Try.f107 ?_
  refine zAc (zAa (zAe 2 (zAd (zAc (zAa (zAe 2 (S_a [(7,.ret (I (zBI (List.take (Int.toNat 2) [x0,x1,x2,x3]))) ([]))] (ap (h2) an) (zAe 6 (S_a [(9,.ret (I (zCc [x0,x1])) ([]))] (ap (h) an) (S_a [(1,.v (I (zBI (List.take (Int.toNat 2) [x0,x1,x2,x3])-zCc [x0,x1])))] (ap ((zAR rfl (by first | omega | (simp<;>omega))):I (IntKind.i64.wrap (zBI (List.take (Int.toNat 2) [x0,x1,x2,x3])-zCc [x0,x1]))=I (zBI (List.take (Int.toNat 2) [x0,x1,x2,x3])-zCc [x0,x1])) an) (zAe 1 (zAd (zAJ (E_a [] an (I (zBI (List.take (Int.toNat 2) [x0,x1,x2,x3])-zCc [x0,x1])) ([]) rfl rfl))))))))))))))
 ·have h:=f54 [x0,x1,x2] (by simp) (by simp)
  have e:zBs b fee = .agg [I 3,I b.wd,I b.st,I b.fn,.sl (b.rs.map zBb),zCm fee]:=by
   show PV.agg _=_
   rw [yg]
  have h2:=f103 b fee [x0,x1,x2,x3] rfl hc
  rw [e,yg] at h2
  rw [e,yg]
  have h2:FG 103 [.ref (.agg [I 3,I b.wd,I b.st,I b.fn,.sl (b.rs.map zBb),zCm fee]),.agg [I x0,I x1,I x2,I x3]] (I (zBI [x0,x1,x2])):=h2
  have hM:0≤zBI [x0,x1,x2]∧zBI [x0,x1,x2]≤1000000:=zLo (by simp) fun x hx=>hb x (by simp at hx ⊢;omega)
  have hm:0≤zCc [x0,x1,x2]∧zCc [x0,x1,x2]≤1000000:=zKH (by simp) fun x hx=>hb x (by simp at hx ⊢;omega)
  refine zAi Try.f107 ?_
  refine zAc (zAa (zAe 2 (zAd (zAc (zAa (zAe 2 (S_a [(7,.ret (I (zBI (List.take (Int.toNat 3) [x0,x1,x2,x3]))) ([]))] (ap (h2) an) (zAe 6 (S_a [(9,.ret (I (zCc [x0,x1,x2])) ([]))] (ap (h) an) (S_a [(1,.v (I (zBI (List.take (Int.toNat 3) [x0,x1,x2,x3])-zCc [x0,x1,x2])))] (ap ((zAR rfl (by first | omega | (simp<;>omega))):I (IntKind.i64.wrap (zBI (List.take (Int.toNat 3) [x0,x1,x2,x3])-zCc [x0,x1,x2]))=I (zBI (List.take (Int.toNat 3) [x0,x1,x2,x3])-zCc [x0,x1,x2])) an) (zAe 1 (zAd (zAJ (E_a [] an (I (zBI (List.take (Int.toNat 3) [x0,x1,x2,x3])-zCc [x0,x1,x2])) ([]) rfl rfl))))))))))))))
 ·have h:=f54 [x0,x1,x2,x3] (by simp) (by simp)
  have e:zBs b fee = .agg [I 4,I b.wd,I b.st,I b.fn,.sl (b.rs.map zBb),zCm fee]:=by
   show PV.agg _=_
   rw [yg]
  have h2:=f103 b fee [x0,x1,x2,x3] rfl hc
  rw [e,yg] at h2
  rw [e,yg]
  have h2:FG 103 [.ref (.agg [I 4,I b.wd,I b.st,I b.fn,.sl (b.rs.map zBb),zCm fee]),.agg [I x0,I x1,I x2,I x3]] (I (zBI [x0,x1,x2,x3])):=h2
  have hM:0≤zBI [x0,x1,x2,x3]∧zBI [x0,x1,x2,x3]≤1000000:=zLo (by simp) fun x hx=>hb x (by simp at hx ⊢;omega)
  have hm:0≤zCc [x0,x1,x2,x3]∧zCc [x0,x1,x2,x3]≤1000000:=zKH (by simp) fun x hx=>hb x (by simp at hx ⊢;omega)
  refine zAi Try.f107 ?_
  refine zAc (zAa (zAe 2 (zAd (zAc (zAa (zAe 2 (S_a [(7,.ret (I (zBI (List.take (Int.toNat 4) [x0,x1,x2,x3]))) ([]))] (ap (h2) an) (zAe 6 (S_a [(9,.ret (I (zCc [x0,x1,x2,x3])) ([]))] (ap (h) an) (S_a [(1,.v (I (zBI (List.take (Int.toNat 4) [x0,x1,x2,x3])-zCc [x0,x1,x2,x3])))] (ap ((zAR rfl (by first | omega | (simp<;>omega))):I (IntKind.i64.wrap (zBI (List.take (Int.toNat 4) [x0,x1,x2,x3])-zCc [x0,x1,x2,x3]))=I (zBI (List.take (Int.toNat 4) [x0,x1,x2,x3])-zCc [x0,x1,x2,x3])) an) (zAe 1 (zAd (zAJ (E_a [] an (I (zBI (List.take (Int.toNat 4) [x0,x1,x2,x3])-zCc [x0,x1,x2,x3])) ([]) rfl rfl))))))))))))))
theorem f109_1 (x0:Int):FG 109 [.sl [I x0]] (.own 1 [I x0]):=zEa (fn:=Try.f109) I [x0] (by simp)
theorem f109_2 (x0 x1:Int):FG 109 [.sl [I x0,I x1]] (.own 1 [I x0,I x1]):=zEa (fn:=Try.f109) I [x0,x1] (by simp)
theorem f109_3 (x0 x1 x2:Int):FG 109 [.sl [I x0,I x1,I x2]] (.own 1 [I x0,I x1,I x2]):=zEa (fn:=Try.f109) I [x0,x1,x2] (by simp)
theorem f109_4 (x0 x1 x2 x3:Int):FG 109 [.sl [I x0,I x1,I x2,I x3]] (.own 1 [I x0,I x1,I x2,I x3]):=zEa (fn:=Try.f109) I [x0,x1,x2,x3] (by simp)
theorem f109 (l:List Int) (hl:l.length<4294967296):FG 109 [zCm l] (.own 1 (l.map I)):=zEa (fn:=Try.f109) I l (by omega)
def zAj (b:Dk) (l:List Int):List Int:=if zAG b l=0 then (zFl (zAg b) l l.length).take b.cr.toNat else []
def zJx (b:Dk) (l:List Int):Int:=if zAG b l=0 then zBI (zAj b l)-zCc (zAj b l) else 0
omit [Yo] in
theorem zNG {fee zAk:List Int} (h:∀ i,0≤fee.getD i 0∧fee.getD i 0≤1000) {n:Nat} (hn:n≤7):∀ x∈zFl fee zAk n,0≤x∧x≤1000000:=by
 intro x hx
 obtain ⟨k,hk,rfl⟩:=List.getElem_of_mem hx
 have:=zGs (zAk:=zAk) h n k
 rw [zAK hk] at this;omega
theorem f55 (b:Dk) (l:List Int) (hb:zGe b) (hl:l.length<4294967296):FG 55 [zEZ b,zCm l] (.tup [I (zJx b l),I (zAG b l)]):=by
 by_cases h:zAG b l=0
 ·obtain ⟨h0,h1,h2,h3⟩:=zLx h
  have hg:=zBl h0
  have jD:=hg.cr
  have kG:=hg.len
  have jo:l.length=(zAg b).length:=by rw [zCb];exact h1
  have ha:=zDe (fee:=zAg b) (zAk:=l) l.length
  have hin:=zNG (fee:=zAg b) (zAk:=l) (zBx hg) (n:=l.length) (by omega)
  have jF:∀ x∈l,0≤x∧x<4:=fun x hx=>by have:=h2 x hx;omega
  obtain ⟨y0,y1,y2,y3,hy⟩:=zFE ha
  have h90:FG 90 [.ref (zBs b (zAg b)),zCm l] (.agg [I y0,I y1,I y2,I y3]):=by
   have:=f90 b (zAg b) l jF (zBx hg) (by omega) jo
   rw [hy] at this;exact this
  rw [hy] at hin
  have h107:FG 107 [.ref (zBs b (zAg b)),.agg [I y0,I y1,I y2,I y3]] (I (zBI ([y0,y1,y2,y3].take b.cr.toNat)-zCc ([y0,y1,y2,y3].take b.cr.toNat))):=f107 b (zAg b) [y0,y1,y2,y3] rfl hin jD
  refine zAi Try.f55 ?_
  refine zAc (zAa (zAe 3 (zAd (zAc (zAa (zAe 2 (S_a [(8,.ret (PV.tup [(zBs b (zAg b)).ref,I 0]) ([]))] (ap (f88_1 (b) (l) (by omega) (by omega)) an) (zAe 5 (zAd (zAc (zAc (zAa (zAe 2 (zAd (zBE (zAx (zAc (zAa (zAe 3 (S_a [(7,.ret (PV.agg [I y0,I y1,I y2,I y3]) ([]))] (ap (h90) an) (S_a [(7,.ret (I (zBI (List.take b.cr.toNat [y0,y1,y2,y3])-zCc (List.take b.cr.toNat [y0,y1,y2,y3]))) ([]))] (ap (h107) an) (zAe 2 (zAd (zAJ (E_a [] an (PV.tup [I (zBI (List.take b.cr.toNat [y0,y1,y2,y3])-zCc (List.take b.cr.toNat [y0,y1,y2,y3])),I 0]) ([]) ?_ rfl)))))))))))))))))))))))))
  simp only [zJx,zAj,h,if_true,hy]
 ·refine zAi Try.f55 ?_
  refine zAc (zAa (zAe 3 (zAd (zAc (zAa (zAe 2 (S_a [(8,.ret (PV.tup [PV.nilp,I (zAG b l)]) ([]))] (ap (f88_2 (b) (l) (by omega) (by omega) (by omega)) an) (zAe 5 (zAd (zAc (zAc (zAa (zAe 2 (zAd (zGI (zAG b l=0) (by omega) (zAc (zAa (zAe 3 (zAd (zAJ (E_a [] an (PV.tup [I 0,I (zAG b l)]) ([]) ?_ rfl)))))))))))))))))))))
  simp only [zJx,h,if_false]
theorem f56 (b:Dk) (l:List Int) (hb:zGe b) (hl:l.length<4294967296):FG 56 [zEZ b,zCm l] (.tup [.own 1 ((zAj b l).map I),I (zAG b l)]):=by
 by_cases h:zAG b l=0
 ·obtain ⟨h0,h1,h2,h3⟩:=zLx h
  have hg:=zBl h0
  have jD:=hg.cr
  have kG:=hg.len
  have jo:l.length=(zAg b).length:=by rw [zCb];exact h1
  have ha:=zDe (fee:=zAg b) (zAk:=l) l.length
  have jF:∀ x∈l,0≤x∧x<4:=fun x hx=>by have:=h2 x hx;omega
  obtain ⟨y0,y1,y2,y3,hy⟩:=zFE ha
  have h90:FG 90 [.ref (zBs b (zAg b)),zCm l] (.agg [I y0,I y1,I y2,I y3]):=by
   have:=f90 b (zAg b) l jF (zBx hg) (by omega) jo
   rw [hy] at this;exact this
  have h88:=f88_1 b l hb h
  have e0:zAj b l=[y0,y1,y2,y3].take b.cr.toNat:=by simp only [zAj,h,if_true,hy]
  obtain yg | yg | yg | yg:b.cr=1∨b.cr=2∨b.cr=3∨b.cr=4:=by omega
  ·have e:zBs b (zAg b) = .agg [I 1,I b.wd,I b.st,I b.fn,.sl (b.rs.map zBb),zCm (zAg b)]:=by
    show PV.agg _=_
    rw [yg]
   have eb:zEZ b = .agg [I 1,I b.wd,I b.st,I b.fn,.sl (b.rs.map zBb)]:=by
    show PV.agg _=_
    rw [yg]
   rw [e] at h90 h88
   rw [eb] at h88
   rw [eb,e0,h,yg]
   refine zAi Try.f56 ?_
   refine zAc (zAa (zAe 3 (zAd (zAc (zAa (zAe 2 (S_a [(8,.ret (PV.tup [(PV.agg [I 1,I b.wd,I b.st,I b.fn,PV.sl (List.map zBb b.rs),zCm (zAg b)]).ref,I 0]) ([]))] (ap (h88) an) (zAe 5 (zAd (zAc (zAc (zAa (zAe 2 (zAd (zBE (zAx (zAc (zAa (zAe 2 (S_a [(7,.ret (PV.agg [I y0,I y1,I y2,I y3]) ([]))] (ap (h90) an) (zAe 2 (zAd (zAc (zAa (zAe 3 (S_a [(9,.ret (PV.own 1 [I y0]) ([]))] (ap (f109_1 (y0)) an) (zAe 2 (zAd (zAJ (E_a [] an (PV.tup [PV.own 1 [I y0],I 0]) ([]) rfl rfl))))))))))))))))))))))))))))))
  ·have e:zBs b (zAg b) = .agg [I 2,I b.wd,I b.st,I b.fn,.sl (b.rs.map zBb),zCm (zAg b)]:=by
    show PV.agg _=_
    rw [yg]
   have eb:zEZ b = .agg [I 2,I b.wd,I b.st,I b.fn,.sl (b.rs.map zBb)]:=by
    show PV.agg _=_
    rw [yg]
   rw [e] at h90 h88
   rw [eb] at h88
   rw [eb,e0,h,yg]
   refine zAi Try.f56 ?_
   refine zAc (zAa (zAe 3 (zAd (zAc (zAa (zAe 2 (S_a [(8,.ret (PV.tup [(PV.agg [I 2,I b.wd,I b.st,I b.fn,PV.sl (List.map zBb b.rs),zCm (zAg b)]).ref,I 0]) ([]))] (ap (h88) an) (zAe 5 (zAd (zAc (zAc (zAa (zAe 2 (zAd (zBE (zAx (zAc (zAa (zAe 2 (S_a [(7,.ret (PV.agg [I y0,I y1,I y2,I y3]) ([]))] (ap (h90) an) (zAe 2 (zAd (zAc (zAa (zAe 3 (S_a [(9,.ret (PV.own 1 [I y0,I y1]) ([]))] (ap (f109_2 (y0) (y1)) an) (zAe 2 (zAd (zAJ (E_a [] an (PV.tup [PV.own 1 [I y0,I y1],I 0]) ([]) rfl rfl))))))))))))))))))))))))))))))
  ·have e:zBs b (zAg b) = .agg [I 3,I b.wd,I b.st,I b.fn,.sl (b.rs.map zBb),zCm (zAg b)]:=by
    show PV.agg _=_
    rw [yg]
   have eb:zEZ b = .agg [I 3,I b.wd,I b.st,I b.fn,.sl (b.rs.map zBb)]:=by
    show PV.agg _=_
    rw [yg]
   rw [e] at h90 h88
   rw [eb] at h88
   rw [eb,e0,h,yg]
   refine zAi Try.f56 ?_
   refine zAc (zAa (zAe 3 (zAd (zAc (zAa (zAe 2 (S_a [(8,.ret (PV.tup [(PV.agg [I 3,I b.wd,I b.st,I b.fn,PV.sl (List.map zBb b.rs),zCm (zAg b)]).ref,I 0]) ([]))] (ap (h88) an) (zAe 5 (zAd (zAc (zAc (zAa (zAe 2 (zAd (zBE (zAx (zAc (zAa (zAe 2 (S_a [(7,.ret (PV.agg [I y0,I y1,I y2,I y3]) ([]))] (ap (h90) an) (zAe 2 (zAd (zAc (zAa (zAe 3 (S_a [(9,.ret (PV.own 1 [I y0,I y1,I y2]) ([]))] (ap (f109_3 (y0) (y1) (y2)) an) (zAe 2 (zAd (zAJ (E_a [] an (PV.tup [PV.own 1 [I y0,I y1,I y2],I 0]) ([]) rfl rfl))))))))))))))))))))))))))))))
  ·have e:zBs b (zAg b) = .agg [I 4,I b.wd,I b.st,I b.fn,.sl (b.rs.map zBb),zCm (zAg b)]:=by
    show PV.agg _=_
    rw [yg]
   have eb:zEZ b = .agg [I 4,I b.wd,I b.st,I b.fn,.sl (b.rs.map zBb)]:=by
    show PV.agg _=_
    rw [yg]
   rw [e] at h90 h88
   rw [eb] at h88
   rw [eb,e0,h,yg]
   refine zAi Try.f56 ?_
   refine zAc (zAa (zAe 3 (zAd (zAc (zAa (zAe 2 (S_a [(8,.ret (PV.tup [(PV.agg [I 4,I b.wd,I b.st,I b.fn,PV.sl (List.map zBb b.rs),zCm (zAg b)]).ref,I 0]) ([]))] (ap (h88) an) (zAe 5 (zAd (zAc (zAc (zAa (zAe 2 (zAd (zBE (zAx (zAc (zAa (zAe 2 (S_a [(7,.ret (PV.agg [I y0,I y1,I y2,I y3]) ([]))] (ap (h90) an) (zAe 2 (zAd (zAc (zAa (zAe 3 (S_a [(9,.ret (PV.own 1 [I y0,I y1,I y2,I y3]) ([]))] (ap (f109_4 (y0) (y1) (y2) (y3)) an) (zAe 2 (zAd (zAJ (E_a [] an (PV.tup [PV.own 1 [I y0,I y1,I y2,I y3],I 0]) ([]) rfl rfl))))))))))))))))))))))))))))))
 ·refine zAi Try.f56 ?_
  refine zAc (zAa (zAe 3 (zAd (zAc (zAa (zAe 2 (S_a [(8,.ret (PV.tup [PV.nilp,I (zAG b l)]) ([]))] (ap (f88_2 (b) (l) (by omega) (by omega) (by omega)) an) (zAe 5 (zAd (zAc (zAc (zAa (zAe 2 (zAd (zGI (zAG b l=0) (by omega) (zAc (zAa (zAe 3 (zAd (zAJ (E_a [] an (PV.tup [PV.own 1 [],I (zAG b l)]) ([]) ?_ rfl)))))))))))))))))))))
  simp only [zAj,h,if_false];rfl
theorem f89 (n:Int):FG 89 [I n] (.bool (decide (0≤n)&&decide (n≤60))):=by
 refine zAi Try.f89 ?_
 refine zAc (zAa (zAe 1 (zAd (zAc (zAa (zAe 1 (S_a [(10,.ret (PV.bool (decide (0≤n)&&decide (n≤60))) ([]))] (ap (f78 (n) (0) (60)) an) (zAe 1 (zAd (zAJ (E_a [] an (PV.bool (decide (0≤n)&&decide (n≤60))) ([]) rfl rfl)))))))))))
theorem f126_4  (x:Int):FG 126 [I x,.ref (.func 89 [] [])] (.bool (!(decide (0≤x)&&decide (x≤60)))):=by
 refine zAi Try.f126 ?_
 refine zAc (zAa (zAe 1 (zAd (zAc (zAa (zAe 2 (S_a [(6,.ret (PV.bool (decide (0≤x)&&decide (x≤60))) ([]))] (ap (f89 (x)) an) (zAe 2 (zAd (zAJ (E_a [] an (PV.bool !(decide (0≤x)&&decide (x≤60))) ([]) rfl rfl)))))))))))
theorem f118_4n  (l:List Int) (hl:l.length<4294967296):FG 118 [zCm l,.func 126 [] [.ref (.func 89 [] [])]] (I (zLw (fun x => !(decide (0≤x)&&decide (x≤60))) l)):=by
 refine zAi Try.f118 ?_
 refine zAc (zAa (zAe 1 (zAd (zAc (zAc (zAa (zAe 1 (S_a [(0,.n (l.length))] (ap ((by simp):some (List.map I l).length=some l.length) an) (zAe 1 (zAd (zAp 0 ?_)))))))))))
 refine zBo (fun i=>i≤l.length∧∀ j,j<i→(fun x => !(decide (0≤x)&&decide (x≤60))) (l.getD j 0)=false) (fun i=>[(8,I (i:Nat))]) (fun i=>l.length-i) (0:Nat) (by simp) fun i ⟨hi,ha⟩=>?_
 refine zAc (zAa (zAe 1 (zAd (zAc (zCL ((↑i:Int)<(↑l.length:Int)) (fun k0=>(zAx (zAc (zAp 1 (zAc (zAa (zAe 2 (zAd (zAc (zAa (zAe 3 (S_a [(2,.v (I (l.getD i 0)))] (ap (zCG (0) (by omega):(List.map I l)[i]? = some (I (l.getD i 0))) an) (zAe 1 (S_a [(7,.ret (PV.bool !(decide (0≤l.getD i 0)&&decide (l.getD i 0≤60))) ([]))] (ap (f126_4 (l.getD i 0)) an) (zAd (zLv (!(decide (0≤l.getD i 0)&&decide (l.getD i 0≤60))) (fun k1=>(zAc (zAa (zAe 2 (zAd (zAJ (E_a [] an (I (↑i:Int)) ([]) ?_ rfl))))))) (fun k1=>(zAx (zAa (S_a [(1,.v (I (↑(i+1):Int)))] (ap ((zAR (by omega) (by omega)):I (IntKind.i64.wrap ((↑i:Int)+1))=I (↑(i+1):Int)) an) (zAe 1 (zAd ?_)))))))))))))))))))))) (fun k0=>(zBM 0 (zAc (zAa (zAe 1 (zAd (zAJ (E_a [] an (I (-1)) ([]) ?_ rfl)))))))))))))
 ·rw [zF7 (i:=i) (by omega) (fun j hj=>by rw [← zAK (d:=0)];exact ha j hj) (by rw [← zAK (d:=0)];assumption)]
 ·refine ⟨i+1,⟨by omega,fun j hj=>?_⟩,by omega,by kernel_rfl,by kernel_rfl⟩
  rcases Nat.lt_succ_iff_lt_or_eq.1 hj with h | rfl
  ·exact ha j h
  ·assumption
 ·rw [zG0 fun j hj=>by rw [← zAK (d:=0)];exact ha j (by omega)]
theorem f65_4n  (l:List Int) (hl:l.length<4294967296):FG 65 [zCm l,.func 126 [] [.ref (.func 89 [] [])]] (.bool (l.any (fun x => !(decide (0≤x)&&decide (x≤60))))):=by
 refine zAi Try.f65 ?_
 refine zAc (zAa (zAe 1 (zAd (zAc (zAa (zAe 2 (S_a [(6,.ret (I (zLw (fun x => !(decide (0≤x)&&decide (x≤60))) l)) ([]))] (ap (f118_4n (l) (by omega)) an) (zAe 2 (zAd (zAJ (E_a [] an (PV.bool (decide (zLw (fun x => !(decide (0≤x)&&decide (x≤60))) l≥0))) ([]) ?_ rfl)))))))))))
 rw [zLt]
theorem f79_4  (l:List Int) (hl:l.length<4294967296):FG 79 [zCm l,.func 89 [] []] (.bool (l.all (fun x=>decide (0≤x)&&decide (x≤60)))):=by
 refine zAi Try.f79 ?_
 refine zAc (zAa (zAe 2 (zAd (zAc (zAa (zAe 2 (S_a [(12,.ret (PV.bool (l.any fun x => !(decide (0≤x)&&decide (x≤60)))) ([]))] (ap (f65_4n (l) (by omega)) an) (zAe 2 (zAd (zAJ (E_a [] an (PV.bool !l.any fun x => !(decide (0≤x)&&decide (x≤60))) ([]) ?_ rfl)))))))))))
 simp [List.not_any_eq_all_not]
end
end Go.Eng
namespace Go.Eng
open Go Go.Proofs
section
variable [Yo]
theorem f81a (l:List Int) (hl:l.length<1000) (hb:∀ x∈l,-1000000000000≤x∧x≤1000000000000):FG 81 [zCm l] (I l.sum):=by
 refine zAi Try.f81 ?_
 refine zAc (zAa (zAe 1 (zAd (zAc (zAa (zAe 1 (zAd (zAc (zAc (zAa (zAe 1 (S_a [(0,.n (l.length))] (ap ((by simp):some (List.map I l).length=some l.length) an) (zAe 1 (zAd (zAp 0 ?_)))))))))))))))
 refine zBo (fun (i,a)=>i≤l.length∧a=(l.take i).sum) (fun (i,a)=>[(3,I a),(8,I (i:Nat))]) (fun (i,_)=>l.length-i) ((0:Nat),(0:Int)) (by simp) fun (i,a) ⟨hi,ha⟩=>?_
 have h1:=zTk (l:=l.take i) (B:=1000000000000) fun x hx=>hb x (List.mem_of_mem_take hx)
 have h2:(l.take i).length=i:=by simp;omega
 rw [h2] at h1
 have h3:i<l.length→-1000000000000≤l.getD i 0∧l.getD i 0≤1000000000000:=fun h=>by rw [zAK h];exact hb _ (List.getElem_mem _)
 refine zAc (zAa (zAe 1 (zAd (zAc (zCL ((↑i:Int)<(↑l.length:Int)) (fun k0=>(zAx (zAc (zAp 1 (zAc (zAa (S_a [(2,.v (I (l.getD i 0)))] (ap (zCG (0) (by omega):(List.map I l)[i]? = some (I (l.getD i 0))) an) (zAe 2 (zAd (zAa (zAe 2 (S_a [(1,.v (I (a+l.getD i 0)))] (ap ((zAR rfl (by omega)):I (IntKind.i64.wrap (a+l.getD i 0))=I (a+l.getD i 0)) an) (zAe 1 (zAd (zAa (S_a [(1,.v (I (↑(i+1):Int)))] (ap ((zAR (by omega) (by omega)):I (IntKind.i64.wrap ((↑i:Int)+1))=I (↑(i+1):Int)) an) (zAe 1 (zAd ?_)))))))))))))))))) (fun k0=>(zBM 0 (zAc (zAa (zAe 2 (zAd (zAJ (E_a [] an (I a) ([]) ?_ rfl)))))))))))))
 ·exact ⟨(i+1,a+l.getD i 0),⟨by omega,by rw [ha,zSu (by omega)]⟩,by simp only;omega,by kernel_rfl,by kernel_rfl⟩
 ·rw [ha,List.take_of_length_le (by omega)]
end
end Go.Eng
set_option maxRecDepth 10000
set_option maxHeartbeats 4000000
namespace Go.Eng
open Go Go.Proofs
def zUA (a b:Int):Int:=if b<a then b else a
theorem zUf {a b hi:Int} (ha:0≤a∧a≤hi) (hb:0≤b):0≤zUA a b∧zUA a b≤a∧zUA a b≤hi:=by unfold zUA;split<;>omega
def zJQ (b:Dk) (f late:List Int) (c:Nat):Int:=zUA (f.getD c 0) (b.fn*late.getD c 0)
def zQl (b:Dk) (f late:List Int) (n:Nat):List Int:=(List.range n).map fun c=>f.getD c 0-zJQ b f late c
def zIN (b:Dk) (f late:List Int) (n:Nat):List Int:=(List.range n).map (zJQ b f late)
theorem zHf {b:Dk} {f late:List Int} {n:Nat}:zQl b f late (n+1)=zQl b f late n++[f.getD n 0-zJQ b f late n]:=by simp [zQl,List.range_succ]
theorem zGb {b:Dk} {f late:List Int} {n:Nat}:zIN b f late (n+1)=zIN b f late n++[zJQ b f late n]:=by simp [zIN,List.range_succ]
def zB1 (b:Dk) (l late:List Int):Int:=if zAG b l=0 then if (late.length:Int)=b.cr then if !late.all (fun x=>decide (0≤x)&&decide (x≤60)) then 3 else 0 else 2 else zAG b l
def zAr (b:Dk) (l late:List Int):List Int:=if zB1 b l late=0 then zQl b (zFl (zAg b) l l.length) late b.cr.toNat else []
def zCR (b:Dk) (l late:List Int):Int:=if zB1 b l late=0 then (zIN b (zFl (zAg b) l l.length) late b.cr.toNat).sum else 0
section
variable [Yo]
theorem f26 (b:Dk) (l late:List Int) (hb:zGe b) (hl:l.length<4294967296) (hll:late.length<4294967296):FG 26 [zEZ b,zCm l,zCm late] (.tup [.own 1 ((zAr b l late).map I),I (zCR b l late),I (zB1 b l late)]):=by
 by_cases h:zAG b l=0
 ·obtain ⟨h0,h1,h2,h3⟩:=zLx h
  have hg:=zBl h0
  have jD:=hg.cr
  have kD:=hg.fn
  have kG:=hg.len
  have jo:l.length=(zAg b).length:=by rw [zCb];exact h1
  have ha:=zDe (fee:=zAg b) (zAk:=l) l.length
  have hin:=zNG (fee:=zAg b) (zAk:=l) (zBx hg) (n:=l.length) (by omega)
  have jF:∀ x∈l,0≤x∧x<4:=fun x hx=>by have:=h2 x hx;omega
  obtain ⟨y0,y1,y2,y3,hy⟩:=zFE ha
  have h90:FG 90 [.ref (zBs b (zAg b)),zCm l] (.agg [I y0,I y1,I y2,I y3]):=by
   have:=f90 b (zAg b) l jF (zBx hg) (by omega) jo
   rw [hy] at this;exact this
  rw [hy] at hin
  refine zAi Try.f26 ?_
  refine zAc (zAa (zAe 4 (zAd (zAc (zAa (zAe 2 (S_a [(8,.ret (PV.tup [(zBs b (zAg b)).ref,I 0]) ([]))] (ap (f88_1 (b) (l) (by omega) (by omega)) an) (zAe 5 (zAd (zAc (zAp 0 (zAc (zAa (zAe 3 (zAd (zBE (zAc (zAa (zAe 1 (S_a [(0,.n (late.length))] (ap ((by simp):some (List.map I late).length=some late.length) an) (zAe 4 (zAd (zJI ((↑late.length:Int)=b.cr) (fun k0=>(zAc (zAa (zAe 3 (zAd (zAJ (E_a [] an (PV.tup [PV.own 1 [],I 0,I 2]) ([]) ?_ rfl))))))) (fun k0=>(zAc (zAa (zAe 1 (S_a [(7,.ret (PV.bool (late.all fun x=>decide (0≤x)&&decide (x≤60))) ([]))] (ap (f79_4 (late) (by omega)) an) (zAe 2 (zAd (zLv (!late.all fun x=>decide (0≤x)&&decide (x≤60)) (fun k1=>(zAc (zAa (zAe 3 (zAd (zAJ (E_a [] an (PV.tup [PV.own 1 [],I 0,I 3]) ([]) ?_ rfl))))))) (fun k1=>(zAx (zAc (zAa (zAe 2 (zAd (zAc (zAc (zAa (zAe 2 (S_a [(7,.ret (PV.agg [I y0,I y1,I y2,I y3]) ([]))] (ap (h90) an) (zAe 1 (zAd (zAp 1 ?_)))))))))))))))))))))))))))))))))))))))))))))
  ·have e:¬ (late.length:Int)=b.cr:=by omega
   have e2:zB1 b l late=2:=by simp only [zB1,h,e,if_true,if_false]
   simp only [zAr,zCR,e2];rfl
  ·have e:(late.length:Int)=b.cr:=by omega
   have e2:zB1 b l late=3:=by simp only [zB1,h,e,k1,if_true]
   simp only [zAr,zCR,e2];rfl
  have e:(late.length:Int)=b.cr:=by omega
  have e2:zB1 b l late=0:=by simp only [zB1,h,e,k1,if_true];rfl
  have hlate:=zPO k1
  have hd:∀ c,0≤late.getD c 0∧late.getD c 0≤60:=by
   intro c
   rcases Nat.lt_or_ge c late.length with h | h
   ·exact zBB hlate c h
   ·rw [List.getD_eq_getElem?_getD,List.getElem?_eq_none h];simp
  have hm:∀ c,0≤b.fn*late.getD c 0∧b.fn*late.getD c 0≤20*60:=fun c=>⟨Int.mul_nonneg kD.1 (hd c).1,Int.mul_le_mul (by omega) (hd c).2 (hd c).1 (by omega)⟩
  have hyb:∀ c,0≤[y0,y1,y2,y3].getD c 0∧[y0,y1,y2,y3].getD c 0≤1000000:=by
   intro c
   rcases Nat.lt_or_ge c 4 with h | h
   ·exact zBB hin c h
   ·rw [List.getD_eq_getElem?_getD,List.getElem?_eq_none h];simp
  have qg:∀ c,0≤zJQ b [y0,y1,y2,y3] late c∧zJQ b [y0,y1,y2,y3] late c≤[y0,y1,y2,y3].getD c 0∧zJQ b [y0,y1,y2,y3] late c≤1000000:=fun c=>zUf (hyb c) (hm c).1
  refine zBo (fun (i,o,s)=>i≤4∧o=zQl b [y0,y1,y2,y3] late (min i b.cr.toNat)∧s=zIN b [y0,y1,y2,y3] late (min i b.cr.toNat)) (fun (i,o,s)=>[(11,.own 1 (o.map I)),(12,.own 1 (s.map I)),(39,I (i:Nat))]) (fun (i,_,_)=>4-i) ((0:Nat),([]:List Int),([]:List Int)) ⟨by omega,by simp [zQl],by simp [zIN]⟩ fun (i,o,s) ⟨hi,ho,hs⟩=>?_
  have hsb:∀ x∈s,-1000000000000≤x∧x≤1000000000000:=by
   rw [hs];intro x hx
   obtain ⟨c,_,rfl⟩:=List.mem_map.1 hx
   have:=qg c;omega
  have jK:s.length≤4:=by rw [hs];simp [zIN];omega
  have hol:o.length≤4:=by rw [ho];simp [zQl];omega
  obtain rfl | rfl | rfl | rfl | rfl:i=0∨i=1∨i=2∨i=3∨i=4:=by omega
  ·have hk:0≤(if b.fn*late.getD 0 0<y0 then b.fn*late.getD 0 0 else y0)∧(if b.fn*late.getD 0 0<y0 then b.fn*late.getD 0 0 else y0)≤y0∧(if b.fn*late.getD 0 0<y0 then b.fn*late.getD 0 0 else y0)≤1000000:=qg 0
   have hyk:0≤y0∧y0≤1000000:=hyb 0
   have uw:=hm 0
   refine zAc (zAa (zAe 1 (zAd (zAc (zEl (zAx (zAc (zAp 2 (zAc (zAa (zAe 4 (zAd (zAc (zAa (zAe 4 (zAd (zFm ((↑0:Int)<b.cr) (by omega) (zAc (zAa (zAe 5 (S_a [(2,.v (I (late.getD 0 0)))] (ap (zCG (0) (by omega):(List.map I late)[0]? = some (I (late.getD 0 0))) an) (zAe 1 (S_a [(1,.v (I (b.fn*late.getD 0 0)))] (ap ((zAR rfl (by omega)):I (IntKind.i64.wrap (b.fn*late.getD 0 0))=I (b.fn*late.getD 0 0)) an) (zAe 2 (zAd (zAa (zAe 3 (S_a [(1,.v (I (y0-if b.fn*late.getD 0 0<y0 then b.fn*late.getD 0 0 else y0)))] (ap ((zAR rfl (by omega)):I (IntKind.i64.wrap (y0-if b.fn*late.getD 0 0<y0 then b.fn*late.getD 0 0 else y0))=I (y0-if b.fn*late.getD 0 0<y0 then b.fn*late.getD 0 0 else y0)) an) (zAe 1 (S_a [(4,.ob),(0,.ob),(0,.yes),(2,.v (PV.own 1 (List.map I (o++[y0-if b.fn*late.getD 0 0<y0 then b.fn*late.getD 0 0 else y0]))))] (ap ((by exact zAL (by simp only [List.length_map,zzLn,zAI]<;>omega)):(0+(List.map I o).length).ble (List.map I o).length=true) (ap ((by exact zAL (by simp only [List.length_map,zzLn,zAI]<;>omega)):((List.map I o).length + [I (y0-if b.fn*late.getD 0 0<y0 then b.fn*late.getD 0 0 else y0)].length).ble zAI=true) (ap ((by exact zB0 (by simp<;>omega)):(0+(List.map I o).length).beq (List.map I o).length=true) (ap ((by simp):PV.own 1 (List.map I o++[I (y0-if b.fn*late.getD 0 0<y0 then b.fn*late.getD 0 0 else y0)])=PV.own 1 (List.map I (o++[y0-if b.fn*late.getD 0 0<y0 then b.fn*late.getD 0 0 else y0]))) an)))) (zAe 3 (S_a [(4,.ob),(0,.ob),(0,.yes),(2,.v (PV.own 1 (List.map I (s++[if b.fn*late.getD 0 0<y0 then b.fn*late.getD 0 0 else y0]))))] (ap ((by exact zAL (by simp only [List.length_map,zzLn,zAI]<;>omega)):(0+(List.map I s).length).ble (List.map I s).length=true) (ap ((by exact zAL (by simp only [List.length_map,zzLn,zAI]<;>omega)):((List.map I s).length + [I (if b.fn*late.getD 0 0<y0 then b.fn*late.getD 0 0 else y0)].length).ble zAI=true) (ap ((by exact zB0 (by simp<;>omega)):(0+(List.map I s).length).beq (List.map I s).length=true) (ap ((by simp):PV.own 1 (List.map I s++[I (if b.fn*late.getD 0 0<y0 then b.fn*late.getD 0 0 else y0)])=PV.own 1 (List.map I (s++[if b.fn*late.getD 0 0<y0 then b.fn*late.getD 0 0 else y0]))) an)))) (zAe 2 (zAd (zAa (zAe 2 (zAd ?_)))))))))))))))))))))))))))))))))))))
   ·exact ⟨(1,o++[y0-(if b.fn*late.getD 0 0<y0 then b.fn*late.getD 0 0 else y0)],s++[(if b.fn*late.getD 0 0<y0 then b.fn*late.getD 0 0 else y0)]),⟨by omega,by rw [ho,show min 1 b.cr.toNat=0+1 by omega,show min 0 b.cr.toNat=0 by omega,zHf];rfl,by rw [hs,show min 1 b.cr.toNat=0+1 by omega,show min 0 b.cr.toNat=0 by omega,zGb];rfl⟩,by simp,by kernel_rfl,by kernel_rfl⟩
  ·have hk:0≤(if b.fn*late.getD 1 0<y1 then b.fn*late.getD 1 0 else y1)∧(if b.fn*late.getD 1 0<y1 then b.fn*late.getD 1 0 else y1)≤y1∧(if b.fn*late.getD 1 0<y1 then b.fn*late.getD 1 0 else y1)≤1000000:=qg 1
   have hyk:0≤y1∧y1≤1000000:=hyb 1
   have uw:=hm 1
   refine zAc (zAa (zAe 1 (zAd (zAc (zEl (zAx (zAc (zAp 2 (zAc (zAa (zAe 4 (zAd (zAc (zAa (zAe 4 (zAd (zCL ((↑1:Int)<b.cr) (fun k2=>(zAc (zAa (zAe 5 (S_a [(2,.v (I (late.getD 1 0)))] (ap (zCG (0) (by omega):(List.map I late)[1]? = some (I (late.getD 1 0))) an) (zAe 1 (S_a [(1,.v (I (b.fn*late.getD 1 0)))] (ap ((zAR rfl (by omega)):I (IntKind.i64.wrap (b.fn*late.getD 1 0))=I (b.fn*late.getD 1 0)) an) (zAe 2 (zAd (zAa (zAe 3 (S_a [(1,.v (I (y1-if b.fn*late.getD 1 0<y1 then b.fn*late.getD 1 0 else y1)))] (ap ((zAR rfl (by omega)):I (IntKind.i64.wrap (y1-if b.fn*late.getD 1 0<y1 then b.fn*late.getD 1 0 else y1))=I (y1-if b.fn*late.getD 1 0<y1 then b.fn*late.getD 1 0 else y1)) an) (zAe 1 (S_a [(4,.ob),(0,.ob),(0,.yes),(2,.v (PV.own 1 (List.map I (o++[y1-if b.fn*late.getD 1 0<y1 then b.fn*late.getD 1 0 else y1]))))] (ap ((by exact zAL (by simp only [List.length_map,zzLn,zAI]<;>omega)):(0+(List.map I o).length).ble (List.map I o).length=true) (ap ((by exact zAL (by simp only [List.length_map,zzLn,zAI]<;>omega)):((List.map I o).length + [I (y1-if b.fn*late.getD 1 0<y1 then b.fn*late.getD 1 0 else y1)].length).ble zAI=true) (ap ((by exact zB0 (by simp<;>omega)):(0+(List.map I o).length).beq (List.map I o).length=true) (ap ((by simp):PV.own 1 (List.map I o++[I (y1-if b.fn*late.getD 1 0<y1 then b.fn*late.getD 1 0 else y1)])=PV.own 1 (List.map I (o++[y1-if b.fn*late.getD 1 0<y1 then b.fn*late.getD 1 0 else y1]))) an)))) (zAe 3 (S_a [(4,.ob),(0,.ob),(0,.yes),(2,.v (PV.own 1 (List.map I (s++[if b.fn*late.getD 1 0<y1 then b.fn*late.getD 1 0 else y1]))))] (ap ((by exact zAL (by simp only [List.length_map,zzLn,zAI]<;>omega)):(0+(List.map I s).length).ble (List.map I s).length=true) (ap ((by exact zAL (by simp only [List.length_map,zzLn,zAI]<;>omega)):((List.map I s).length + [I (if b.fn*late.getD 1 0<y1 then b.fn*late.getD 1 0 else y1)].length).ble zAI=true) (ap ((by exact zB0 (by simp<;>omega)):(0+(List.map I s).length).beq (List.map I s).length=true) (ap ((by simp):PV.own 1 (List.map I s++[I (if b.fn*late.getD 1 0<y1 then b.fn*late.getD 1 0 else y1)])=PV.own 1 (List.map I (s++[if b.fn*late.getD 1 0<y1 then b.fn*late.getD 1 0 else y1]))) an)))) (zAe 2 (zAd (zAa (zAe 2 (zAd ?_))))))))))))))))))))) (fun k2=>(zAx (zAa (zAe 2 (zAd ?_))))))))))))))))))))))
   ·exact ⟨(2,o++[y1-(if b.fn*late.getD 1 0<y1 then b.fn*late.getD 1 0 else y1)],s++[(if b.fn*late.getD 1 0<y1 then b.fn*late.getD 1 0 else y1)]),⟨by omega,by rw [ho,show min 2 b.cr.toNat=1+1 by omega,show min 1 b.cr.toNat=1 by omega,zHf];rfl,by rw [hs,show min 2 b.cr.toNat=1+1 by omega,show min 1 b.cr.toNat=1 by omega,zGb];rfl⟩,by simp,by kernel_rfl,by kernel_rfl⟩
   ·exact ⟨(2,o,s),⟨by omega,by rw [ho,show min 2 b.cr.toNat=min 1 b.cr.toNat by omega],by rw [hs,show min 2 b.cr.toNat=min 1 b.cr.toNat by omega]⟩,by simp,by kernel_rfl,by kernel_rfl⟩
  ·have hk:0≤(if b.fn*late.getD 2 0<y2 then b.fn*late.getD 2 0 else y2)∧(if b.fn*late.getD 2 0<y2 then b.fn*late.getD 2 0 else y2)≤y2∧(if b.fn*late.getD 2 0<y2 then b.fn*late.getD 2 0 else y2)≤1000000:=qg 2
   have hyk:0≤y2∧y2≤1000000:=hyb 2
   have uw:=hm 2
   refine zAc (zAa (zAe 1 (zAd (zAc (zEl (zAx (zAc (zAp 2 (zAc (zAa (zAe 4 (zAd (zAc (zAa (zAe 4 (zAd (zCL ((↑2:Int)<b.cr) (fun k2=>(zAc (zAa (zAe 5 (S_a [(2,.v (I (late.getD 2 0)))] (ap (zCG (0) (by omega):(List.map I late)[2]? = some (I (late.getD 2 0))) an) (zAe 1 (S_a [(1,.v (I (b.fn*late.getD 2 0)))] (ap ((zAR rfl (by omega)):I (IntKind.i64.wrap (b.fn*late.getD 2 0))=I (b.fn*late.getD 2 0)) an) (zAe 2 (zAd (zAa (zAe 3 (S_a [(1,.v (I (y2-if b.fn*late.getD 2 0<y2 then b.fn*late.getD 2 0 else y2)))] (ap ((zAR rfl (by omega)):I (IntKind.i64.wrap (y2-if b.fn*late.getD 2 0<y2 then b.fn*late.getD 2 0 else y2))=I (y2-if b.fn*late.getD 2 0<y2 then b.fn*late.getD 2 0 else y2)) an) (zAe 1 (S_a [(4,.ob),(0,.ob),(0,.yes),(2,.v (PV.own 1 (List.map I (o++[y2-if b.fn*late.getD 2 0<y2 then b.fn*late.getD 2 0 else y2]))))] (ap ((by exact zAL (by simp only [List.length_map,zzLn,zAI]<;>omega)):(0+(List.map I o).length).ble (List.map I o).length=true) (ap ((by exact zAL (by simp only [List.length_map,zzLn,zAI]<;>omega)):((List.map I o).length + [I (y2-if b.fn*late.getD 2 0<y2 then b.fn*late.getD 2 0 else y2)].length).ble zAI=true) (ap ((by exact zB0 (by simp<;>omega)):(0+(List.map I o).length).beq (List.map I o).length=true) (ap ((by simp):PV.own 1 (List.map I o++[I (y2-if b.fn*late.getD 2 0<y2 then b.fn*late.getD 2 0 else y2)])=PV.own 1 (List.map I (o++[y2-if b.fn*late.getD 2 0<y2 then b.fn*late.getD 2 0 else y2]))) an)))) (zAe 3 (S_a [(4,.ob),(0,.ob),(0,.yes),(2,.v (PV.own 1 (List.map I (s++[if b.fn*late.getD 2 0<y2 then b.fn*late.getD 2 0 else y2]))))] (ap ((by exact zAL (by simp only [List.length_map,zzLn,zAI]<;>omega)):(0+(List.map I s).length).ble (List.map I s).length=true) (ap ((by exact zAL (by simp only [List.length_map,zzLn,zAI]<;>omega)):((List.map I s).length + [I (if b.fn*late.getD 2 0<y2 then b.fn*late.getD 2 0 else y2)].length).ble zAI=true) (ap ((by exact zB0 (by simp<;>omega)):(0+(List.map I s).length).beq (List.map I s).length=true) (ap ((by simp):PV.own 1 (List.map I s++[I (if b.fn*late.getD 2 0<y2 then b.fn*late.getD 2 0 else y2)])=PV.own 1 (List.map I (s++[if b.fn*late.getD 2 0<y2 then b.fn*late.getD 2 0 else y2]))) an)))) (zAe 2 (zAd (zAa (zAe 2 (zAd ?_))))))))))))))))))))) (fun k2=>(zAx (zAa (zAe 2 (zAd ?_))))))))))))))))))))))
   ·exact ⟨(3,o++[y2-(if b.fn*late.getD 2 0<y2 then b.fn*late.getD 2 0 else y2)],s++[(if b.fn*late.getD 2 0<y2 then b.fn*late.getD 2 0 else y2)]),⟨by omega,by rw [ho,show min 3 b.cr.toNat=2+1 by omega,show min 2 b.cr.toNat=2 by omega,zHf];rfl,by rw [hs,show min 3 b.cr.toNat=2+1 by omega,show min 2 b.cr.toNat=2 by omega,zGb];rfl⟩,by simp,by kernel_rfl,by kernel_rfl⟩
   ·exact ⟨(3,o,s),⟨by omega,by rw [ho,show min 3 b.cr.toNat=min 2 b.cr.toNat by omega],by rw [hs,show min 3 b.cr.toNat=min 2 b.cr.toNat by omega]⟩,by simp,by kernel_rfl,by kernel_rfl⟩
  ·have hk:0≤(if b.fn*late.getD 3 0<y3 then b.fn*late.getD 3 0 else y3)∧(if b.fn*late.getD 3 0<y3 then b.fn*late.getD 3 0 else y3)≤y3∧(if b.fn*late.getD 3 0<y3 then b.fn*late.getD 3 0 else y3)≤1000000:=qg 3
   have hyk:0≤y3∧y3≤1000000:=hyb 3
   have uw:=hm 3
   refine zAc (zAa (zAe 1 (zAd (zAc (zEl (zAx (zAc (zAp 2 (zAc (zAa (zAe 4 (zAd (zAc (zAa (zAe 4 (zAd (zCL ((↑3:Int)<b.cr) (fun k2=>(zAc (zAa (zAe 5 (S_a [(2,.v (I (late.getD 3 0)))] (ap (zCG (0) (by omega):(List.map I late)[3]? = some (I (late.getD 3 0))) an) (zAe 1 (S_a [(1,.v (I (b.fn*late.getD 3 0)))] (ap ((zAR rfl (by omega)):I (IntKind.i64.wrap (b.fn*late.getD 3 0))=I (b.fn*late.getD 3 0)) an) (zAe 2 (zAd (zAa (zAe 3 (S_a [(1,.v (I (y3-if b.fn*late.getD 3 0<y3 then b.fn*late.getD 3 0 else y3)))] (ap ((zAR rfl (by omega)):I (IntKind.i64.wrap (y3-if b.fn*late.getD 3 0<y3 then b.fn*late.getD 3 0 else y3))=I (y3-if b.fn*late.getD 3 0<y3 then b.fn*late.getD 3 0 else y3)) an) (zAe 1 (S_a [(4,.ob),(0,.ob),(0,.yes),(2,.v (PV.own 1 (List.map I (o++[y3-if b.fn*late.getD 3 0<y3 then b.fn*late.getD 3 0 else y3]))))] (ap ((by exact zAL (by simp only [List.length_map,zzLn,zAI]<;>omega)):(0+(List.map I o).length).ble (List.map I o).length=true) (ap ((by exact zAL (by simp only [List.length_map,zzLn,zAI]<;>omega)):((List.map I o).length + [I (y3-if b.fn*late.getD 3 0<y3 then b.fn*late.getD 3 0 else y3)].length).ble zAI=true) (ap ((by exact zB0 (by simp<;>omega)):(0+(List.map I o).length).beq (List.map I o).length=true) (ap ((by simp):PV.own 1 (List.map I o++[I (y3-if b.fn*late.getD 3 0<y3 then b.fn*late.getD 3 0 else y3)])=PV.own 1 (List.map I (o++[y3-if b.fn*late.getD 3 0<y3 then b.fn*late.getD 3 0 else y3]))) an)))) (zAe 3 (S_a [(4,.ob),(0,.ob),(0,.yes),(2,.v (PV.own 1 (List.map I (s++[if b.fn*late.getD 3 0<y3 then b.fn*late.getD 3 0 else y3]))))] (ap ((by exact zAL (by simp only [List.length_map,zzLn,zAI]<;>omega)):(0+(List.map I s).length).ble (List.map I s).length=true) (ap ((by exact zAL (by simp only [List.length_map,zzLn,zAI]<;>omega)):((List.map I s).length + [I (if b.fn*late.getD 3 0<y3 then b.fn*late.getD 3 0 else y3)].length).ble zAI=true) (ap ((by exact zB0 (by simp<;>omega)):(0+(List.map I s).length).beq (List.map I s).length=true) (ap ((by simp):PV.own 1 (List.map I s++[I (if b.fn*late.getD 3 0<y3 then b.fn*late.getD 3 0 else y3)])=PV.own 1 (List.map I (s++[if b.fn*late.getD 3 0<y3 then b.fn*late.getD 3 0 else y3]))) an)))) (zAe 2 (zAd (zAa (zAe 2 (zAd ?_))))))))))))))))))))) (fun k2=>(zAx (zAa (zAe 2 (zAd ?_))))))))))))))))))))))
   ·exact ⟨(4,o++[y3-(if b.fn*late.getD 3 0<y3 then b.fn*late.getD 3 0 else y3)],s++[(if b.fn*late.getD 3 0<y3 then b.fn*late.getD 3 0 else y3)]),⟨by omega,by rw [ho,show min 4 b.cr.toNat=3+1 by omega,show min 3 b.cr.toNat=3 by omega,zHf];rfl,by rw [hs,show min 4 b.cr.toNat=3+1 by omega,show min 3 b.cr.toNat=3 by omega,zGb];rfl⟩,by simp,by kernel_rfl,by kernel_rfl⟩
   ·exact ⟨(4,o,s),⟨by omega,by rw [ho,show min 4 b.cr.toNat=min 3 b.cr.toNat by omega],by rw [hs,show min 4 b.cr.toNat=min 3 b.cr.toNat by omega]⟩,by simp,by kernel_rfl,by kernel_rfl⟩
  ·refine zAc (zAa (zAe 1 (zAd (zAc (zBE (zBM 1 (zAc (zAa (zAe 2 (S_a [(3,.ob),(0,.v (PV.sl (List.map I s))),(2,.ret (I s.sum) ([]))] (ap ((by exact zAL (by simp only [List.length_map,zzLn,zAI]<;>omega)):(0+(List.map I s).length).ble (List.map I s).length=true) (ap ((zCj (zAE (zAu _))):PV.sl (zAo (List.take (List.map I s).length (List.drop 0 (List.map I s))))=PV.sl (List.map I s)) (ap (f81a (s) (by omega) (by omega)) an))) (S_a [(2,.yes)] (ap ((by exact zB0 (by simp<;>omega)):(Nat.beq 0 0&&(List.map I o).length.beq (List.map I o).length)=true) an) (zAe 2 (zAd (zAJ (E_a [(1,.yes),(1,.v (PV.own 1 (List.map I o)))] (ap ((by exact zAL (by simp only [List.length_map,zzLn,zAI]<;>omega)):(0+(List.map I o).length).ble (List.map I o).length=true) (ap ((zFc zDb):PV.own 1 (List.take (List.map I o).length (List.drop 0 (List.map I o)))=PV.own 1 (List.map I o)) an)) (PV.tup [PV.own 1 (List.map I o),I s.sum,I 0]) ([]) ?_ rfl)))))))))))))))
   rw [show min 4 b.cr.toNat=b.cr.toNat by omega] at ho hs
   simp only [zAr,zCR,e2,if_true,hy,← ho,← hs]
 ·have e2:zB1 b l late=zAG b l:=by simp only [zB1,h,if_false]
  refine zAi Try.f26 ?_
  refine zAc (zAa (zAe 4 (zAd (zAc (zAa (zAe 2 (S_a [(8,.ret (PV.tup [PV.nilp,I (zAG b l)]) ([]))] (ap (f88_2 (b) (l) (by omega) (by omega) (by omega)) an) (zAe 5 (zAd (zAc (zAp 0 (zAc (zAa (zAe 3 (zAd (zGI (zAG b l=0) (by omega) (zAc (zAa (zAe 4 (zAd (zAJ (E_a [] an (PV.tup [PV.own 1 [],I 0,I (zAG b l)]) ([]) ?_ rfl))))))))))))))))))))))
  ·simp only [zAr,zCR,e2,h,if_false];rfl
end
end Go.Eng
set_option maxRecDepth 10000
set_option maxHeartbeats 4000000
namespace Go.Eng
open Go Go.Proofs
theorem zVQ {l:List Int} {c:Int} {i:Nat} (h:i<l.length) (hc:l.getD i 0=c):has l c=true:=by
 rw [zAK h] at hc
 exact List.any_eq_true.2 ⟨l[i],List.getElem_mem h,by simp [hc]⟩
def zB3 (b:Dk) (l:List Int) (c:Int):Nat→Int
 | 0=>0
 | n+1=>if l.getD n 0=c then zB3 b l c n+zBW b (rnd b n) else zB3 b l c n
theorem zJc {b:Dk} {l:List Int} (hl:∀ x∈l,0≤x∧x<4):∀ (n:Nat),n≤l.length→n≤b.rs.length→∀ c:Nat,c<4→(zFl (zAg b) l n).getD c 0=zB3 b l c n
 | 0,_,_,c,hc=>by
  match c,hc with
  | 0,_=>rfl
  | 1,_=>rfl
  | 2,_=>rfl
  | 3,_=>rfl
 | n + 1,h1,h2,c,hc=>by
  have ih:=zJc (b:=b) hl n (by omega) (by omega)
  have hx:=zBB hl n (by omega)
  rw [zFl,zGU,zDe,zB3,zEM (by omega:n<b.rs.length)]
  by_cases he:l.getD n 0=c
  ·rw [if_pos ⟨by omega,hc⟩,if_pos he,ih _ (by omega)]
   have:((l.getD n 0).toNat:Int)=c:=by omega
   rw [this];rfl
  ·rw [if_neg (by omega),if_neg he,ih c hc]
section
variable [Yo]
end
end Go.Eng
set_option maxRecDepth 10000
set_option maxHeartbeats 4000000
namespace Go.Eng
open Go Go.Proofs
section
variable [Yo]
end
end Go.Eng
set_option maxRecDepth 10000
set_option maxHeartbeats 4000000
namespace Go.Eng
open Go Go.Proofs
theorem zIS {b:Dk} {l:List Int} (h:ShareOk b l):zAj b l=(List.range b.cr.toNat).map fun c:Nat=>zB3 b l (c:Int) l.length:=by
 have hg:=zBl h.box
 have hs:zAG b l=0:=by
  have h2:(!l.all (fun x=>decide (0≤x)&&decide (x≤b.cr-1)))=false:=by
   simp only [Bool.not_eq_false',List.all_eq_true]
   intro x hx;have:=h.rng x hx;simp;omega
  simp only [zAG,h.box,h.len,h2,h.may,if_true];rfl
 have jD:=hg.cr
 have hx:∀ x∈l,0≤x∧x<4:=fun x hx=>by have:=h.rng x hx;omega
 have hO:=zDe (fee:=zAg b) (zAk:=l) l.length
 simp only [zAj,hs,if_true]
 apply List.ext_getElem?
 intro i
 rw [List.getElem?_take,List.getElem?_map]
 by_cases hi:i<b.cr.toNat
 ·rw [if_pos hi,List.getElem?_range hi,List.getElem?_eq_getElem (by omega)]
  have:=zJc hx l.length (Nat.le_refl _) (by rw [h.len];exact Nat.le_refl _) i (by omega)
  rw [zAK (by omega)] at this
  simp [this]
 ·rw [if_neg hi,List.getElem?_eq_none (by simpa using hi)];rfl
section
variable [Yo]
end
end Go.Eng
set_option maxRecDepth 10000
set_option maxHeartbeats 4000000
namespace Go.Eng
open Go Go.Proofs
section
variable [Yo]
end
end Go.Eng
set_option maxRecDepth 10000
set_option maxHeartbeats 4000000
namespace Go.Eng
open Go Go.Proofs
section
variable [Yo]
end
end Go.Eng
namespace Go.Eng
open Go Go.Proofs
section
variable [Yo]
theorem f17 (l:List Int) (hl:l.length<1000000):FG 17 [zCm l] (.own 1 (l.map I)):=by
 refine zAi Try.f17 ?_
 refine zAc (zAa (zAe 1 (zAd (zAc (zAa (zAe 1 (S_a [(0,.n (l.length))] (ap ((by simp):some (List.map I l).length=some l.length) an) (S_a [(4,.ob),(0,.ob),(1,.v (PV.own 1 (List.map I (List.replicate l.length 0))))] (ap ((by exact zA8 (by omega)):decide (l.length≤l.length)=true) (ap ((by exact zA8 (by simp [zAI]<;>omega)):decide (l.length≤zAI)=true) (ap ((by simp):PV.own 1 (List.replicate l.length (I 0))=PV.own 1 (List.map I (List.replicate l.length 0))) an))) (zAe 1 (zAd (zAc (zAa (zAe 2 (zNg (fun q=>q) 3 1 (List.map I (List.replicate l.length 0)) (List.map I l) (List.map I l) (zK5 fun _ _=>(by first | exact zKG | exact ⟨rfl,rfl,rfl,rfl,Nat.le_refl _,rfl⟩)) (by simp<;>omega) (zMX (by simp<;>omega)) zRB.nil (zAd (zAc (zAa (zAe 1 (S_a [(2,.yes)] (ap ((by exact zB0 (by simp<;>omega)):(Nat.beq 0 0&&(List.map I l).length.beq (List.map I l).length)=true) an) (zAd (zAJ (E_a [(1,.yes),(1,.v (PV.own 1 (List.map I l)))] (ap ((by exact zAL (by simp only [List.length_map,zzLn,zAI]<;>omega)):(0+(List.map I l).length).ble (List.map I l).length=true) (ap ((by simp [zDg]):PV.own 1 (List.take (List.map I l).length (List.drop 0 (List.map I l)))=PV.own 1 (List.map I l)) an)) (PV.own 1 (List.map I l)) ([]) rfl rfl))))))))))))))))))))))
end
section
variable [Yo]
end
section
variable [Yo]
end
end Go.Eng
set_option maxRecDepth 10000
set_option maxHeartbeats 4000000
namespace Go.Eng
open Go Go.Proofs
theorem zR6 {α:Type} {l:List α} {i:Nat} {d:α} (h:i<l.length):l.set i (l.getD i d)=l:=by
 rw [zAK h];exact List.set_getElem_self h
abbrev zJL (r:Rnd):PV := .agg [I r.w,I r.s,.own 1 (r.may.map I)]
section
variable [Yo]
theorem f91 (l:List Rnd) (hl:l.length<4294967296):FG 91 [zVL l] (.own 3 (l.map zBb)):=by
 refine zAi Try.f91 ?_
 refine zAc (zAa (zAe 1 (zAd (zAc (zAa (zAe 1 (S_a [(0,.n (l.length))] (ap ((by simp):some (List.map zBb l).length=some l.length) an) (S_a [(4,.ob),(0,.ob),(1,.v (PV.own 3 (List.map (fun x=>PV.agg [I 0,I 0,PV.own 1 []]) (List.replicate l.length ()))))] (ap ((by exact zA8 (by omega)):decide (l.length≤l.length)=true) (ap ((by exact zA8 (by simp [zAI]<;>omega)):decide (l.length≤zAI)=true) (ap ((by simp):PV.own 3 (List.replicate l.length (PV.agg [I 0,I 0,PV.own 1 []]))=PV.own 3 (List.map (fun x=>PV.agg [I 0,I 0,PV.own 1 []]) (List.replicate l.length ()))) an))) (zAe 1 (zAd (zAc (zAa (zAe 2 (zNg (fun q=>q) 3 3 (List.map (fun x=>PV.agg [I 0,I 0,PV.own 1 []]) (List.replicate l.length ())) (List.map zBb l) (List.map zBb l) (zK5 fun _ _=>(by first | exact zKG | exact ⟨rfl,rfl,rfl,rfl,Nat.le_refl _,rfl⟩)) (by simp<;>omega) (zMX (by simp<;>omega)) zRB.nil (zAd (zAc (zAa (zAe 1 (S_a [(2,.yes)] (ap ((by exact zB0 (by simp<;>omega)):(Nat.beq 0 0&&(List.map zBb l).length.beq (List.map zBb l).length)=true) an) (zAd (zAJ (E_a [(1,.yes),(1,.v (PV.own 3 (List.map zBb l)))] (ap ((by exact zAL (by simp only [List.length_map,zzLn,zAI]<;>omega)):(0+(List.map zBb l).length).ble (List.map zBb l).length=true) (ap ((zFc zDb):PV.own 3 (List.take (List.map zBb l).length (List.drop 0 (List.map zBb l)))=PV.own 3 (List.map zBb l)) an)) (PV.own 3 (List.map zBb l)) ([]) rfl rfl))))))))))))))))))))))
theorem f30 (b:Dk) (hb:b.rs.length≤12) (jS:∀ r∈b.rs,r.may.length≤10):FG 30 [zEZ b] (.agg [I b.cr,I b.wd,I b.st,I b.fn,.own 3 (b.rs.map zBb)]):=by
 refine zAi Try.f30 ?_
 refine zAc (zAa (zAe 2 (zAd (zAc (zAa (zAe 2 (S_a [(6,.ret (PV.own 3 (List.map zBb b.rs)) ([]))] (ap (f91 (b.rs) (by omega)) an) (zAe 2 (zAd (zAc (zAc (zAa (zAe 1 (S_a [(1,.v (PV.bor 1 [(0,4)] 3 0 b.rs.length))] (ap ((by simp):PV.bor 1 [(0,4)] 3 0 (List.map zBb b.rs).length=PV.bor 1 [(0,4)] 3 0 b.rs.length) an) (zAe 2 (zAd (zAp 0 ?_)))))))))))))))))
 refine zBo (fun (i,q)=>i≤b.rs.length∧q=b.rs) (fun (i,q)=>[(1,.box (.agg [I b.cr,I b.wd,I b.st,I b.fn,.own 3 (q.map zBb)])),(12,I (i:Nat))]) (fun (i,_)=>b.rs.length-i) ((0:Nat),b.rs) ⟨Nat.zero_le _,rfl⟩ fun (i,q) ⟨hi,hq⟩=>?_
 have hql:q.length=b.rs.length:=by rw [hq]
 have hm:i<b.rs.length→(b.rs.getD i default).may.length≤10:=fun h=>jS _ (by rw [zAK h];exact List.getElem_mem _)
 have vU:i<b.rs.length→(q.getD i default).may.length≤10:=fun h=>by rw [hq];exact hm h
 refine zAc (zAa (zAe 1 (zAd (zAc (zCL ((↑i:Int)<(↑b.rs.length:Int)) (fun k0=>(zAx (zAc (zAp 1 (zAc (zAa (zAe 1 (S_a [(2,.ob),(1,.n (i))] (ap ((by exact zA8 (by omega)):decide (i<b.rs.length)=true) (ap ((by simp):some (0+i)=some i) an)) (S_a [(0,.cs true ([I (q.getD i default).w,I (q.getD i default).s,PV.sl (List.map I (q.getD i default).may)]))] (ap (zEJ (q:=PV.own 3 (List.map zBb q)) (xs:=List.map zBb q) (x:=PV.agg [I (q.getD i default).w,I (q.getD i default).s,PV.sl (List.map I (q.getD i default).may)]) (zR4 (xs:=[PV.agg [I b.cr,I b.wd,I b.st,I b.fn,PV.own 3 (List.map zBb q)]]) (x:=PV.agg [I b.cr,I b.wd,I b.st,I b.fn,PV.own 3 (List.map zBb q)]) (y:=PV.own 3 (List.map zBb q)) rfl rfl) (zCG (default) (by omega)):zAH 1 (PV.agg [I b.cr,I b.wd,I b.st,I b.fn,PV.own 3 (List.map zBb q)]).box [(0,4)] i 0 Try.prog.types[104].size=some (true,[I (q.getD i default).w,I (q.getD i default).s,PV.sl (List.map I (q.getD i default).may)])) an) (zAe 3 (zAd (zAa (zAe 1 (S_a [(1,.v (PV.bor 1 [(0,4)] 3 0 q.length))] (ap ((by simp):PV.bor 1 [(0,4)] 3 0 (List.map zBb q).length=PV.bor 1 [(0,4)] 3 0 q.length) an) (zAe 3 (S_a [(6,.ret (PV.own 1 (List.map I (q.getD i default).may)) ([]))] (ap (f17 ((q.getD i default).may) (by omega)) an) (S_a [(2,.ob),(1,.n (i))] (ap ((by exact zA8 (by omega)):decide (i<q.length)=true) (ap ((by simp):some (0+i)=some i) an)) (zAe 1 (S_a [(3,.v (PV.sl (List.map I (q.getD i default).may))),(4,.root ((PV.agg [I b.cr,I b.wd,I b.st,I b.fn,PV.own 3 (List.map zBb (q.set i (q.getD i default)))]).box) true)] (ap ((zCj (zA6 _)):PV.sl (zAo (List.map I (q.getD i default).may))=PV.sl (List.map I (q.getD i default).may)) (ap (zSP (zO6 (p:=(PV.agg [I b.cr,I b.wd,I b.st,I b.fn,PV.own 3 (List.map zBb q)]).box) (xs:=[PV.agg [I b.cr,I b.wd,I b.st,I b.fn,PV.own 3 (List.map zBb q)]]) (x:=PV.agg [I b.cr,I b.wd,I b.st,I b.fn,PV.own 3 (List.map zBb q)]) (q:=PV.own 3 (List.map zBb q)) (q':=PV.own 3 (List.map zBb (q.set i (q.getD i default)))) (y:=PV.agg [I b.cr,I b.wd,I b.st,I b.fn,PV.own 3 (List.map zBb (q.set i (q.getD i default)))]) (p':=(PV.agg [I b.cr,I b.wd,I b.st,I b.fn,PV.own 3 (List.map zBb (q.set i (q.getD i default)))]).box) rfl (zOj (q:=PV.own 3 (List.map zBb q)) (xs:=List.map zBb q) (x:=PV.agg [I (q.getD i default).w,I (q.getD i default).s,PV.sl (List.map I (q.getD i default).may)]) (y:=PV.agg [I (q.getD i default).w,I (q.getD i default).s,PV.sl (List.map I (q.getD i default).may)]) (q':=PV.own 3 (List.map zBb (q.set i (q.getD i default)))) (zCG (default) (by omega)) rfl (zTj (u:=q.getD i default))) rfl rfl) rfl:zBL (PV.agg [I b.cr,I b.wd,I b.st,I b.fn,PV.own 3 (List.map zBb q)]).box [(0,4)] i 2 (PV.sl (List.map I (q.getD i default).may)).cells=some (PV.agg [I b.cr,I b.wd,I b.st,I b.fn,PV.own 3 (List.map zBb (q.set i (q.getD i default)))]).box∧zAM (PV.agg [I b.cr,I b.wd,I b.st,I b.fn,PV.own 3 (List.map zBb q)]).box (PV.agg [I b.cr,I b.wd,I b.st,I b.fn,PV.own 3 (List.map zBb (q.set i (q.getD i default)))]).box [(0,4)]=true) an)) (zAd (zAa (S_a [(1,.v (I (↑(i+1):Int)))] (ap ((zAR (by omega) (by omega)):I (IntKind.i64.wrap ((↑i:Int)+1))=I (↑(i+1):Int)) an) (zAe 1 (zAd ?_)))))))))))))))))))))))) (fun k0=>(zBM 0 (zAc (zAa (zAe 1 (S_a [(4,.yes)] (ap ((by exact zB0 (by simp<;>omega)):(Nat.beq 0 0&&(List.map zBb q).length.beq (List.map zBb q).length)=true) an) (zAd (zAJ (E_a [(7,.yes),(1,.v (PV.own 3 (List.map zBb q)))] (ap ((by exact zAL (by simp only [List.length_map,zzLn,zAI]<;>omega)):(0+(List.map zBb q).length).ble (List.map zBb q).length=true) (ap ((zFc zDb):PV.own 3 (List.take (List.map zBb q).length (List.drop 0 (List.map zBb q)))=PV.own 3 (List.map zBb q)) an)) (PV.agg [I b.cr,I b.wd,I b.st,I b.fn,PV.own 3 (List.map zBb q)]) ([]) (by simp [*]) rfl))))))))))))))
 ·exact ⟨(i+1,q.set i (q.getD i default)),⟨by omega,by rw [zR6 (by omega),hq]⟩,by simp only;omega,by kernel_rfl,by kernel_rfl⟩
end
end Go.Eng
namespace Go.Eng
open Go Go.Proofs
abbrev u8 (n:Int):PV := .int .u8 n
abbrev u32 (n:Int):PV := .int .u32 n
abbrev zBO (l:List Int) (a:Nat) (t:Int):PV := .box (.agg [.sl (l.map u8),I a,u32 t])
abbrev zML:PV := .addr 50000000 [] 0 0 (some 3)
def zD5 (l:List Int) (a:Nat):Prop:=a≤l.length∧l.length<9223372036854775808
def zGj (l:List Int) (a:Nat):Nat:=if a=l.length then 0 else a
def zAD (l:List Int) (a:Nat) (t:Int):Int:=if a=l.length then IntKind.u32.wrap (t+1) else t
def zAm (l:List Int) (a:Nat):Nat:=if 0<l.length then zGj l a+1 else zGj l a
theorem zCw {l:List Int} {a:Nat} (h:zD5 l a):zD5 l (zAm l a):=by
 obtain ⟨h1,h2⟩:=h
 refine ⟨?_,h2⟩
 unfold zAm zGj
 repeat' split
 all_goals omega
def zOY (n:Int):Int:=IntKind.u32.wrap ↑(BitVec.ofInt IntKind.u32.bits (IntKind.u32.wrap ↑(BitVec.ofInt IntKind.u32.bits n ^^^ BitVec.ofInt IntKind.u32.bits (n.fdiv (2 ^ min (Int.toNat 7) IntKind.u32.bits))).toNat) &&& BitVec.ofInt IntKind.u32.bits 65535).toNat
theorem zOl (n:Int):0≤zOY n∧zOY n≤65535:=by
 unfold zOY
 generalize BitVec.ofInt IntKind.u32.bits (IntKind.u32.wrap ↑(BitVec.ofInt IntKind.u32.bits n ^^^ BitVec.ofInt IntKind.u32.bits (n.fdiv (2 ^ min (Int.toNat 7) IntKind.u32.bits))).toNat)=x
 have h:(x &&& BitVec.ofInt IntKind.u32.bits 65535).toNat≤65535:=by
  rw [BitVec.toNat_and]
  exact Nat.le_trans Nat.and_le_right (by decide)
 generalize (x &&& BitVec.ofInt IntKind.u32.bits 65535).toNat=m at h
 have:IntKind.u32.wrap (m:Int)=m:=by
  simp only [IntKind.wrap]
  simp [IntKind.signed,IntKind.bits]
  omega
 rw [this];omega
def zHw (l:List Int) (a:Nat) (t:Int):Int:=zOY (if 0<l.length then IntKind.u32.wrap (IntKind.u32.wrap (30011*zAD l a t)+IntKind.u32.wrap (263*IntKind.u32.wrap (l.getD (zGj l a) 0))) else IntKind.u32.wrap (30011*zAD l a t))
theorem zR8 (l:List Int) (a:Nat) (t:Int):0≤zHw l a t∧zHw l a t≤65535:=zOl _
def zAz (l:List Int) (a:Nat) (t:Int) (n:Int):Int:=(zHw l a t).tmod (max 1 (n+1))
theorem zBQ (l:List Int) (a:Nat) (t:Int) (n:Int):0≤zAz l a t n∧zAz l a t n≤max 0 n:=by
 have h1:=zR8 l a t
 have h2:0<max 1 (n+1):=by omega
 have h3:=Int.tmod_nonneg (max 1 (n+1)) h1.1
 have h4:=Int.tmod_lt_of_pos (zHw l a t) h2
 unfold zAz
 omega
section
variable [Yo]
theorem f22 (l:List Int):FG 22 [.sl (l.map u8)] (zBO l 0 0):=by
 refine zAi Try.f22 ?_
 refine zAc (zAa (zAe 1 (zAd (zAc (zAa (zAe 4 (zAd (zAJ (E_a [] an ((PV.agg [PV.sl (List.map u8 l),I 0,PV.int IntKind.u32 0]).box) ([]) rfl rfl)))))))))
theorem f86 (l:List Int) (a:Nat) (t:Int) (h:zD5 l a):zBm Try.prog zAq 86 [zML] [zBO l a t] (I (zHw l a t)) [zBO l (zAm l a) (zAD l a t)]:=by
 refine zAi Try.f86 ?_
 have h1:=h.1
 have h2:=h.2
 have hb:∀ n,-9223372036854775808≤zOY n∧zOY n<9223372036854775808:=fun n=>by have:=zOl n;omega
 refine zAc (zAa (zAe 1 (zAd (zAc (zAc (zAa (zAe 8 (S_a [(0,.n (l.length))] (ap ((by simp):some (List.map u8 l).length=some l.length) an) (zAe 1 (zAd (zCL ((↑a:Int)=(↑l.length:Int)) (fun k0=>(zAa (zAe 6 (zAe 1 (zAe 6 (zAd (zAc (zAa (zAe 3 (zAe 1 (zAe 1 (zAe 1 (zAd (zAc (zAc (zAa (zAe 4 (S_a [(0,.n (l.length))] (ap ((by simp):some (List.map u8 l).length=some l.length) an) (zAe 1 (zAd (zCL ((↑l.length:Int)>0) (fun k1=>(zAc (zAa (zAe 9 (S_a [(2,.v (PV.int IntKind.u8 (l.getD 0 0)))] (ap (zCG (0) (by omega):(List.map u8 l)[0]? = some (PV.int IntKind.u8 (l.getD 0 0))) an) (zAe 1 (zAe 1 (zAe 1 (zAe 1 (zAe 1 (zAd (zAa (zAe 8 (zAd (zAc (zAa (zAe 2 (zAe 1 (zAe 1 (zAe 1 (S_a [(0,.v (I (IntKind.u32.wrap (↑(BitVec.ofInt IntKind.u32.bits (IntKind.u32.wrap (↑(BitVec.ofInt IntKind.u32.bits (IntKind.u32.wrap (IntKind.u32.wrap (30011*IntKind.u32.wrap (t+1))+IntKind.u32.wrap (263*IntKind.u32.wrap (l.getD 0 0)))) ^^^ BitVec.ofInt IntKind.u32.bits ((IntKind.u32.wrap (IntKind.u32.wrap (30011*IntKind.u32.wrap (t+1))+IntKind.u32.wrap (263*IntKind.u32.wrap (l.getD 0 0)))).fdiv (2 ^ min (Int.toNat 7) IntKind.u32.bits))).toNat:Int)) &&& BitVec.ofInt IntKind.u32.bits 65535).toNat:Int))))] (ap ((zAR rfl ?_):I (IntKind.i64.wrap (IntKind.u32.wrap (↑(BitVec.ofInt IntKind.u32.bits (IntKind.u32.wrap (↑(BitVec.ofInt IntKind.u32.bits (IntKind.u32.wrap (IntKind.u32.wrap (30011*IntKind.u32.wrap (t+1))+IntKind.u32.wrap (263*IntKind.u32.wrap (l.getD 0 0)))) ^^^ BitVec.ofInt IntKind.u32.bits ((IntKind.u32.wrap (IntKind.u32.wrap (30011*IntKind.u32.wrap (t+1))+IntKind.u32.wrap (263*IntKind.u32.wrap (l.getD 0 0)))).fdiv (2 ^ min (Int.toNat 7) IntKind.u32.bits))).toNat:Int)) &&& BitVec.ofInt IntKind.u32.bits 65535).toNat:Int)))=I (IntKind.u32.wrap (↑(BitVec.ofInt IntKind.u32.bits (IntKind.u32.wrap (↑(BitVec.ofInt IntKind.u32.bits (IntKind.u32.wrap (IntKind.u32.wrap (30011*IntKind.u32.wrap (t+1))+IntKind.u32.wrap (263*IntKind.u32.wrap (l.getD 0 0)))) ^^^ BitVec.ofInt IntKind.u32.bits ((IntKind.u32.wrap (IntKind.u32.wrap (30011*IntKind.u32.wrap (t+1))+IntKind.u32.wrap (263*IntKind.u32.wrap (l.getD 0 0)))).fdiv (2 ^ min (Int.toNat 7) IntKind.u32.bits))).toNat:Int)) &&& BitVec.ofInt IntKind.u32.bits 65535).toNat:Int))) an) (zAe 1 (zAd (zAJ (E_a [] an (I (IntKind.u32.wrap (↑(BitVec.ofInt IntKind.u32.bits (IntKind.u32.wrap (↑(BitVec.ofInt IntKind.u32.bits (IntKind.u32.wrap (IntKind.u32.wrap (30011*IntKind.u32.wrap (t+1))+IntKind.u32.wrap (263*IntKind.u32.wrap (l.getD 0 0)))) ^^^ BitVec.ofInt IntKind.u32.bits ((IntKind.u32.wrap (IntKind.u32.wrap (30011*IntKind.u32.wrap (t+1))+IntKind.u32.wrap (263*IntKind.u32.wrap (l.getD 0 0)))).fdiv (2 ^ min (Int.toNat 7) IntKind.u32.bits))).toNat:Int)) &&& BitVec.ofInt IntKind.u32.bits 65535).toNat:Int))) ([(PV.agg [PV.sl (List.map u8 l),I (IntKind.i64.wrap (0+1)),PV.int IntKind.u32 (IntKind.u32.wrap (t+1))]).box]) ?_ ?_))))))))))))))))))))))))) (fun k1=>(zAx (zAc (zAa (zAe 2 (zAe 1 (zAe 1 (zAe 1 (S_a [(0,.v (I (IntKind.u32.wrap (↑(BitVec.ofInt IntKind.u32.bits (IntKind.u32.wrap (↑(BitVec.ofInt IntKind.u32.bits (IntKind.u32.wrap (30011*IntKind.u32.wrap (t+1))) ^^^ BitVec.ofInt IntKind.u32.bits ((IntKind.u32.wrap (30011*IntKind.u32.wrap (t+1))).fdiv (2 ^ min (Int.toNat 7) IntKind.u32.bits))).toNat:Int)) &&& BitVec.ofInt IntKind.u32.bits 65535).toNat:Int))))] (ap ((zAR rfl ?_):I (IntKind.i64.wrap (IntKind.u32.wrap (↑(BitVec.ofInt IntKind.u32.bits (IntKind.u32.wrap (↑(BitVec.ofInt IntKind.u32.bits (IntKind.u32.wrap (30011*IntKind.u32.wrap (t+1))) ^^^ BitVec.ofInt IntKind.u32.bits ((IntKind.u32.wrap (30011*IntKind.u32.wrap (t+1))).fdiv (2 ^ min (Int.toNat 7) IntKind.u32.bits))).toNat:Int)) &&& BitVec.ofInt IntKind.u32.bits 65535).toNat:Int)))=I (IntKind.u32.wrap (↑(BitVec.ofInt IntKind.u32.bits (IntKind.u32.wrap (↑(BitVec.ofInt IntKind.u32.bits (IntKind.u32.wrap (30011*IntKind.u32.wrap (t+1))) ^^^ BitVec.ofInt IntKind.u32.bits ((IntKind.u32.wrap (30011*IntKind.u32.wrap (t+1))).fdiv (2 ^ min (Int.toNat 7) IntKind.u32.bits))).toNat:Int)) &&& BitVec.ofInt IntKind.u32.bits 65535).toNat:Int))) an) (zAe 1 (zAd (zAJ (E_a [] an (I (IntKind.u32.wrap (↑(BitVec.ofInt IntKind.u32.bits (IntKind.u32.wrap (↑(BitVec.ofInt IntKind.u32.bits (IntKind.u32.wrap (30011*IntKind.u32.wrap (t+1))) ^^^ BitVec.ofInt IntKind.u32.bits ((IntKind.u32.wrap (30011*IntKind.u32.wrap (t+1))).fdiv (2 ^ min (Int.toNat 7) IntKind.u32.bits))).toNat:Int)) &&& BitVec.ofInt IntKind.u32.bits 65535).toNat:Int))) ([(PV.agg [PV.sl (List.map u8 l),I 0,PV.int IntKind.u32 (IntKind.u32.wrap (t+1))]).box]) ?_ ?_)))))))))))))))))))))))))))))))))) (fun k0=>(zAx (zAc (zAa (zAe 4 (zAe 1 (zAe 1 (zAd (zAc (zAc (zAa (zAe 4 (S_a [(0,.n (l.length))] (ap ((by simp):some (List.map u8 l).length=some l.length) an) (zAe 1 (zAd (zFm ((↑l.length:Int)>0) (by omega) (zAc (zAa (zAe 9 (S_a [(2,.v (PV.int IntKind.u8 (l.getD a 0)))] (ap (zCG (0) (by omega):(List.map u8 l)[a]? = some (PV.int IntKind.u8 (l.getD a 0))) an) (zAe 1 (zAe 1 (zAe 1 (zAe 1 (zAe 1 (zAd (zAa (zAe 4 (S_a [(1,.v (I (↑(a+1):Int)))] (ap ((zAR (by omega) (by omega)):I (IntKind.i64.wrap ((↑a:Int)+1))=I (↑(a+1):Int)) an) (zAe 3 (zAd (zAc (zAa (zAe 2 (zAe 1 (zAe 1 (zAe 1 (S_a [(0,.v (I (IntKind.u32.wrap (↑(BitVec.ofInt IntKind.u32.bits (IntKind.u32.wrap (↑(BitVec.ofInt IntKind.u32.bits (IntKind.u32.wrap (IntKind.u32.wrap (30011*t)+IntKind.u32.wrap (263*IntKind.u32.wrap (l.getD a 0)))) ^^^ BitVec.ofInt IntKind.u32.bits ((IntKind.u32.wrap (IntKind.u32.wrap (30011*t)+IntKind.u32.wrap (263*IntKind.u32.wrap (l.getD a 0)))).fdiv (2 ^ min (Int.toNat 7) IntKind.u32.bits))).toNat:Int)) &&& BitVec.ofInt IntKind.u32.bits 65535).toNat:Int))))] (ap ((zAR rfl ?_):I (IntKind.i64.wrap (IntKind.u32.wrap (↑(BitVec.ofInt IntKind.u32.bits (IntKind.u32.wrap (↑(BitVec.ofInt IntKind.u32.bits (IntKind.u32.wrap (IntKind.u32.wrap (30011*t)+IntKind.u32.wrap (263*IntKind.u32.wrap (l.getD a 0)))) ^^^ BitVec.ofInt IntKind.u32.bits ((IntKind.u32.wrap (IntKind.u32.wrap (30011*t)+IntKind.u32.wrap (263*IntKind.u32.wrap (l.getD a 0)))).fdiv (2 ^ min (Int.toNat 7) IntKind.u32.bits))).toNat:Int)) &&& BitVec.ofInt IntKind.u32.bits 65535).toNat:Int)))=I (IntKind.u32.wrap (↑(BitVec.ofInt IntKind.u32.bits (IntKind.u32.wrap (↑(BitVec.ofInt IntKind.u32.bits (IntKind.u32.wrap (IntKind.u32.wrap (30011*t)+IntKind.u32.wrap (263*IntKind.u32.wrap (l.getD a 0)))) ^^^ BitVec.ofInt IntKind.u32.bits ((IntKind.u32.wrap (IntKind.u32.wrap (30011*t)+IntKind.u32.wrap (263*IntKind.u32.wrap (l.getD a 0)))).fdiv (2 ^ min (Int.toNat 7) IntKind.u32.bits))).toNat:Int)) &&& BitVec.ofInt IntKind.u32.bits 65535).toNat:Int))) an) (zAe 1 (zAd (zAJ (E_a [] an (I (IntKind.u32.wrap (↑(BitVec.ofInt IntKind.u32.bits (IntKind.u32.wrap (↑(BitVec.ofInt IntKind.u32.bits (IntKind.u32.wrap (IntKind.u32.wrap (30011*t)+IntKind.u32.wrap (263*IntKind.u32.wrap (l.getD a 0)))) ^^^ BitVec.ofInt IntKind.u32.bits ((IntKind.u32.wrap (IntKind.u32.wrap (30011*t)+IntKind.u32.wrap (263*IntKind.u32.wrap (l.getD a 0)))).fdiv (2 ^ min (Int.toNat 7) IntKind.u32.bits))).toNat:Int)) &&& BitVec.ofInt IntKind.u32.bits 65535).toNat:Int))) ([(PV.agg [PV.sl (List.map u8 l),I (↑(a+1):Int),PV.int IntKind.u32 t]).box]) ?_ ?_)))))))))))))))))))))))))))))))))))))))))))))))))))))
 ·exact hb _
 ·have e1:a=l.length:=by omega
  have e2:0<l.length:=by omega
  simp only [zHw,zGj,zAD,e1,e2,if_true];rfl
 ·have e1:a=l.length:=by omega
  have e2:0<l.length:=by omega
  simp only [zAm,zGj,zAD,e1,e2,if_true];rfl
 ·exact hb _
 ·have e1:a=l.length:=by omega
  have e2:¬ 0<l.length:=by omega
  simp only [zHw,zGj,zAD,e1,e2,if_true,if_false];rfl
 ·have e1:a=l.length:=by omega
  have e2:¬ 0<l.length:=by omega
  simp only [zAm,zGj,zAD,e1,e2,if_true,if_false];rfl
 ·exact hb _
 ·have e1:¬ a=l.length:=by omega
  have e2:0<l.length:=by omega
  simp only [zHw,zGj,zAD,e1,e2,if_true,if_false];rfl
 ·have e1:¬ a=l.length:=by omega
  have e2:0<l.length:=by omega
  simp only [zAm,zGj,zAD,e1,e2,if_true,if_false]
theorem f24 (l:List Int) (a:Nat) (t:Int) (n:Int) (h:zD5 l a) (hn : -9000000000000000000≤n∧n≤9000000000000000000):zBm Try.prog zAq 24 [zML,I n] [zBO l a t] (I (zAz l a t n)) [zBO l (zAm l a) (zAD l a t)]:=by
 refine zAi Try.f24 ?_
 have e:(if n+1>1 then n+1 else 1)=max 1 (n+1):=by split<;>omega
 refine zAc (zAa (zAe 1 (zAd (zAc (zAa (zAe 1 (S_a [(4,.ret (I (zHw l a t)) ([zBO l (zAm l a) (zAD l a t)]))] (ap (f86 (l) (a) (t) (by omega)) an) (zAe 1 (S_a [(1,.v (I (n+1)))] (ap ((zAR rfl (by omega)):I (IntKind.i64.wrap (n+1))=I (n+1)) an) (zAe 1 (S_a [(0,.v (I ((zHw l a t).tmod (if n+1>1 then n+1 else 1))))] (ap (zTi (by omega) rfl:zNB Try.prog BinOp.rem 3 (I (zHw l a t)) (I (if n+1>1 then n+1 else 1))=some (I ((zHw l a t).tmod (if n+1>1 then n+1 else 1)))) an) (zAe 1 (zAd (zAJ (E_a [] an (I ((zHw l a t).tmod (if n+1>1 then n+1 else 1))) ([(PV.agg [PV.sl (List.map u8 l),I (↑(zAm l a):Int),PV.int IntKind.u32 (zAD l a t)]).box]) ?_ rfl)))))))))))))))
 rw [e];rfl
theorem f27 (l:List Int) (a:Nat) (t:Int) (lo hi:Int) (h:zD5 l a) (hl:0≤lo∧lo≤1000000) (hn:0≤hi∧hi≤1000000):zBm Try.prog zAq 27 [zML,I lo,I hi] [zBO l a t] (I (lo+zAz l a t (hi-lo))) [zBO l (zAm l a) (zAD l a t)]:=by
 refine zAi Try.f27 ?_
 have:=zBQ l a t (hi-lo)
 refine zAc (zAa (zAe 1 (zAd (zAc (zAa (zAe 4 (S_a [(1,.v (I (hi-lo)))] (ap ((zAR rfl (by omega)):I (IntKind.i64.wrap (hi-lo))=I (hi-lo)) an) (S_a [(6,.ret (I (zAz l a t (hi-lo))) ([zBO l (zAm l a) (zAD l a t)]))] (ap (f24 (l) (a) (t) (hi-lo) (by omega) (by omega)) an) (S_a [(1,.v (I (lo+zAz l a t (hi-lo))))] (ap ((zAR rfl (by omega)):I (IntKind.i64.wrap (lo+zAz l a t (hi-lo)))=I (lo+zAz l a t (hi-lo))) an) (zAe 1 (zAd (zAJ (E_a [] an (I (lo+zAz l a t (hi-lo))) ([(PV.agg [PV.sl (List.map u8 l),I (↑(zAm l a):Int),PV.int IntKind.u32 (zAD l a t)]).box]) rfl rfl)))))))))))))
theorem f28 (l:List Int) (a:Nat) (t:Int) (n:Int) (h:zD5 l a) (hn:0≤n∧n≤1000000):zBm Try.prog zAq 28 [zML,I n] [zBO l a t] (.bool (decide (zAz l a t (n-1)=0))) [zBO l (zAm l a) (zAD l a t)]:=by
 refine zAi Try.f28 ?_
 refine zAc (zAa (zAe 1 (zAd (zAc (zAa (zAe 2 (S_a [(1,.v (I (n-1)))] (ap ((zAR rfl (by omega)):I (IntKind.i64.wrap (n-1))=I (n-1)) an) (S_a [(6,.ret (I (zAz l a t (n-1))) ([zBO l (zAm l a) (zAD l a t)]))] (ap (f24 (l) (a) (t) (n-1) (by omega) (by omega)) an) (zAe 2 (zAd (zAJ (E_a [] an (PV.bool (zAz l a t (n-1)==0)) ([(PV.agg [PV.sl (List.map u8 l),I (↑(zAm l a):Int),PV.int IntKind.u32 (zAD l a t)]).box]) rfl rfl))))))))))))
end
end Go.Eng
set_option maxRecDepth 10000
set_option maxHeartbeats 4000000
namespace Go.Eng
open Go Go.Proofs
theorem zGS {b:Dk} (h:Good b):zBc b=0:=by
 have h1:(!(decide (1≤b.cr)&&decide (b.cr≤4)))=false:=by have:=h.cr;simp;omega
 have h2:¬ (b.rs.length:Int)>7:=by have:=h.len;omega
 have h3:(!(decide (0≤b.wd)&&decide (b.wd≤20)))=false:=by have:=h.wd;simp;omega
 have h4:(!(decide (0≤b.st)&&decide (b.st≤20)))=false:=by have:=h.st;simp;omega
 have h5:(!(decide (0≤b.fn)&&decide (b.fn≤20)))=false:=by have:=h.fn;simp;omega
 have h6:(!b.rs.all zCv)=false:=by
  simp only [Bool.not_eq_false',List.all_eq_true]
  intro r hr
  have:=h.num r hr
  simp [zCv];omega
 have h7:∀ rs:List Rnd,(∀ r∈rs,r∈b.rs)→zC7 b.cr rs=0:=by
  intro rs
  induction rs with
  | nil=>intro _;rfl
  | cons r rs ih =>
   intro hm
   have h8:=h.may r (hm r (by simp))
   have h9:(!r.may.all (fun x=>decide (0≤x)&&decide (x≤b.cr-1)))=false:=by
    simp only [Bool.not_eq_false',List.all_eq_true]
    intro x hx;have:=h8.2.1 x hx;simp;omega
   have e:zDq b.cr r=0:=by simp only [zDq,h8.1,h9,h8.2.2,if_false];rfl
   simp only [zC7,e,if_true]
   exact ih fun q hq=>hm q (by simp [hq])
 simp only [zBc,h1,h2,h3,h4,h5,h6,if_false]
 exact h7 _ fun _ h=>h
theorem zRT {l:List Int} {x:Int} (h:zMR l=true) (hx:∀ y∈l,y<x):zMR (l++[x])=true:=by
 refine zRe fun j hj=>?_
 simp only [List.length_append,List.length_singleton] at hj
 rcases Nat.lt_or_ge (j+1) l.length with h1 | h1
 ·have:=zOc h h1
  simpa [List.getD_eq_getElem?_getD,List.getElem?_append_left h1,List.getElem?_append_left (show j<l.length by omega)] using this
 ·have e:l.length=j+1:=by omega
  have h2:l.getD j 0<x:=hx _ (by rw [zAK (by omega)];exact List.getElem_mem _)
  have e2:(l++[x]).getD (j+1) 0=x:=by rw [← e];simp
  have e3:(l++[x]).getD j 0=l.getD j 0:=by simp [List.getD_eq_getElem?_getD,List.getElem?_append_left (show j<l.length by omega)]
  rw [e2,e3];exact h2
theorem zEv {l:List Int} {n:Int} (h:zMR l=true) (hx:∀ x∈l,0≤x∧x≤n-1) (hn:1≤n∧n≤4):l.length≤4:=by
 have:∀ j,j<l.length→(j:Int)≤l.getD j 0:=by
  intro j
  induction j with
  | zero=>intro hj;exact (zBB hx 0 hj).1
  | succ j ih =>
   intro hj
   have h1:=ih (by omega)
   have h2:=zOc h hj
   omega
 rcases Nat.lt_or_ge 4 l.length with h4 | h4
 ·have h1:=this 4 h4
  have h2:=zBB hx 4 h4
  omega
 ·exact h4
abbrev zVH (b:Dk):PV := .agg [I b.cr,I b.wd,I b.st,I b.fn,.own 3 (b.rs.map zJL)]
structure RndOk (cr:Int) (r:Rnd):Prop where
 w:1≤r.w∧r.w≤9
 s:1≤r.s∧r.s≤5
 n:r.may.length≠0
 may:∀ x∈r.may,0≤x∧x≤cr-1
 inc:zMR r.may=true
section
variable [Yo]
theorem f21_ex (l:List Int) (a:Nat) (t n:Int) (h:zD5 l a) (hn:0≤n∧n≤7):∃ v h',zBm Try.prog zAq 21 [zML,I n] [zBO l a t] v h'∧∃ b a' t',v=zVH b∧h'=[zBO l a' t']∧Good b∧(b.rs.length:Int)≤n∧zD5 l a':=by
 refine zD7 Try.f21 _ ?_
 have g1:=zCw h
 have g2:=zCw g1
 have g3:=zCw g2
 have g4:=zCw g3
 have g5:=zCw g4
 have s1:=zBQ l a t (4-1)
 have s2:=zBQ l (zAm l a) (zAD l a t) 4
 have s3:=zBQ l (zAm l (zAm l a)) (zAD l (zAm l a) (zAD l a t)) 6
 have s4:=zBQ l (zAm l (zAm l (zAm l a))) (zAD l (zAm l (zAm l a)) (zAD l (zAm l a) (zAD l a t))) 3
 have s5:=zBQ l (zAm l (zAm l (zAm l (zAm l a)))) (zAD l (zAm l (zAm l (zAm l a))) (zAD l (zAm l (zAm l a)) (zAD l (zAm l a) (zAD l a t)))) n
 refine zAc (zAa (zAe 1 (zAd (zAc (zAa (zAe 1 (S_a [(8,.ret (I (1+zAz l a t (4-1))) ([zBO l (zAm l a) (zAD l a t)]))] (ap (f27 (l) (a) (t) (1) (4) (by omega) (by omega) (by omega)) an) (zAe 1 (S_a [(6,.ret (I (zAz l (zAm l a) (zAD l a t) 4)) ([zBO l (zAm l (zAm l a)) (zAD l (zAm l a) (zAD l a t))]))] (ap (f24 (l) (zAm l a) (zAD l a t) (4) (by omega) (by omega)) an) (zAe 1 (S_a [(6,.ret (I (zAz l (zAm l (zAm l a)) (zAD l (zAm l a) (zAD l a t)) 6)) ([zBO l (zAm l (zAm l (zAm l a))) (zAD l (zAm l (zAm l a)) (zAD l (zAm l a) (zAD l a t)))]))] (ap (f24 (l) (zAm l (zAm l a)) (zAD l (zAm l a) (zAD l a t)) (6) (by omega) (by omega)) an) (zAe 1 (S_a [(6,.ret (I (zAz l (zAm l (zAm l (zAm l a))) (zAD l (zAm l (zAm l a)) (zAD l (zAm l a) (zAD l a t))) 3)) ([zBO l (zAm l (zAm l (zAm l (zAm l a)))) (zAD l (zAm l (zAm l (zAm l a))) (zAD l (zAm l (zAm l a)) (zAD l (zAm l a) (zAD l a t))))]))] (ap (f24 (l) (zAm l (zAm l (zAm l a))) (zAD l (zAm l (zAm l a)) (zAD l (zAm l a) (zAD l a t))) (3) (by omega) (by omega)) an) (zAe 3 (zAd (zAc (zAc (zAa (zAe 2 (S_a [(6,.ret (I (zAz l (zAm l (zAm l (zAm l (zAm l a)))) (zAD l (zAm l (zAm l (zAm l a))) (zAD l (zAm l (zAm l a)) (zAD l (zAm l a) (zAD l a t)))) n)) ([zBO l (zAm l (zAm l (zAm l (zAm l (zAm l a))))) (zAD l (zAm l (zAm l (zAm l (zAm l a)))) (zAD l (zAm l (zAm l (zAm l a))) (zAD l (zAm l (zAm l a)) (zAD l (zAm l a) (zAD l a t)))))]))] (ap (f24 (l) (zAm l (zAm l (zAm l (zAm l a)))) (zAD l (zAm l (zAm l (zAm l a))) (zAD l (zAm l (zAm l a)) (zAD l (zAm l a) (zAD l a t)))) (n) (by omega) (by omega)) an) (zAe 1 (zAd (zAp 0 ?_)))))))))))))))))))))))
 generalize zAD l (zAm l (zAm l (zAm l (zAm l a)))) (zAD l (zAm l (zAm l (zAm l a))) (zAD l (zAm l (zAm l a)) (zAD l (zAm l a) (zAD l a t))))=T at *
 generalize zAz l (zAm l (zAm l (zAm l (zAm l a)))) (zAD l (zAm l (zAm l (zAm l a))) (zAD l (zAm l (zAm l a)) (zAD l (zAm l a) (zAD l a t)))) n=m at *
 generalize zAz l (zAm l (zAm l (zAm l a))) (zAD l (zAm l (zAm l a)) (zAD l (zAm l a) (zAD l a t))) 3=fn at *
 generalize zAz l (zAm l (zAm l a)) (zAD l (zAm l a) (zAD l a t)) 6=st at *
 generalize zAz l (zAm l a) (zAD l a t) 4=wd at *
 generalize jD:1+zAz l a t (4-1)=cr at *
 generalize zAm l (zAm l (zAm l (zAm l (zAm l a))))=A at *
 refine zBo (fun (i,q,a,t)=>(i:Int)≤m∧q.length=i∧(∀ r∈q,RndOk cr r)∧zD5 l a) (fun (i,q,a,t)=>[(5,.box (.agg [I cr,I wd,I st,I fn,.own 3 (q.map zJL)])),(21,I (i:Nat)),(50000000,zBO l a t)]) (fun (i,_,_,_)=>m.toNat-i) ((0:Nat),([]:List Rnd),A,T) ⟨by omega,rfl,by simp,g5⟩ fun (i,q,a,t) ⟨hi,hq,hr,ha⟩=>?_
 have g1:=zCw ha
 have g2:=zCw g1
 have g3:=zCw g2
 have u1:=zBQ l a t (9-1)
 have u2:=zBQ l (zAm l a) (zAD l a t) (5-1)
 have u3:=zBQ l (zAm l (zAm l a)) (zAD l (zAm l a) (zAD l a t)) (cr-1)
 refine zAc (zAa (zAe 1 (zAd (zAc (zCL ((↑i:Int)<m) (fun k0=>(zAx (zAc (zAp 1 (zAc (zAa (zAe 1 (S_a [(8,.ret (I (1+zAz l a t (9-1))) ([zBO l (zAm l a) (zAD l a t)]))] (ap (f27 (l) (a) (t) (1) (9) (by omega) (by omega) (by omega)) an) (zAe 1 (S_a [(8,.ret (I (1+zAz l (zAm l a) (zAD l a t) (5-1))) ([zBO l (zAm l (zAm l a)) (zAD l (zAm l a) (zAD l a t))]))] (ap (f27 (l) (zAm l a) (zAD l a t) (1) (5) (by omega) (by omega) (by omega)) an) (zAe 3 (zAd (zAc (zAa (zAe 3 (S_a [(1,.v (I (cr-1)))] (ap ((zAR rfl (by omega)):I (IntKind.i64.wrap (cr-1))=I (cr-1)) an) (S_a [(6,.ret (I (zAz l (zAm l (zAm l a)) (zAD l (zAm l a) (zAD l a t)) (cr-1))) ([zBO l (zAm l (zAm l (zAm l a))) (zAD l (zAm l (zAm l a)) (zAD l (zAm l a) (zAD l a t)))]))] (ap (f24 (l) (zAm l (zAm l a)) (zAD l (zAm l a) (zAD l a t)) (cr-1) (by omega) (by omega)) an) (zAe 1 (zAd (zAc (zAc (zAa (zAe 3 (zAd (zAp 2 ?_))))))))))))))))))))))))) (fun k0=>(zBM 0 (zAc (zAa (zAe 1 (S_a [(4,.yes)] (ap ((by exact zB0 (by simp<;>omega)):(Nat.beq 0 0&&(List.map zJL q).length.beq (List.map zJL q).length)=true) an) (zAd (zAJ (E_q [(7,.yes),(1,.v (PV.own 3 (List.map zJL q)))] (ap ((by exact zAL (by simp only [List.length_map,zzLn,zAI]<;>omega)):(0+(List.map zJL q).length).ble (List.map zJL q).length=true) (ap ((zFc zDb):PV.own 3 (List.take (List.map zJL q).length (List.drop 0 (List.map zJL q)))=PV.own 3 (List.map zJL q)) an)) (PV.agg [I cr,I wd,I st,I fn,PV.own 3 (List.map zJL q)]) ([(PV.agg [PV.sl (List.map u8 l),I (↑a:Int),PV.int IntKind.u32 t]).box]) ?_))))))))))))))
 ·generalize zAD l (zAm l (zAm l a)) (zAD l (zAm l a) (zAD l a t))=T2 at *
  generalize zAz l (zAm l (zAm l a)) (zAD l (zAm l a) (zAD l a t)) (cr-1)=su at *
  generalize vQ:1+zAz l (zAm l a) (zAD l a t) (5-1)=w2 at *
  generalize hw1:1+zAz l a t (9-1)=w1 at *
  generalize zAm l (zAm l (zAm l a))=A2 at *
  have hcr1:1≤cr∧cr≤4:=by omega
  refine zBo (fun (c,p,a,t)=>(c:Int)≤cr∧(∀ x∈p,0≤x∧x<c)∧zMR p=true∧(su<c→p.length≠0)∧p.length≤c∧zD5 l a) (fun (c,p,a,t)=>[(6,.box (.agg [I w1,I w2,.own 1 (p.map I)])),(35,I (c:Nat)),(50000000,zBO l a t)]) (fun (c,_,_,_)=>cr.toNat-c) ((0:Nat),([]:List Int),A2,T2) ⟨by omega,by simp,rfl,by omega,Nat.le_refl _,g3⟩ fun (c,p,a,t) ⟨hc,uC,uF,hp3,hp4,ha⟩=>?_
  have g1:=zCw ha
  have g2:=zCw g1
  have gM:∀ x∈p++[(c:Int)],0≤x∧x<(c+1:Nat):=fun x hx=>by
   rcases List.mem_append.1 hx with hx | hx
   ·have:=uC x hx;omega
   ·rw [List.mem_singleton] at hx;omega
  have hai:zMR (p++[(c:Int)])=true:=zRT uF fun y hy=>(uC y hy).2
  have uD:(p++[(c:Int)]).length=p.length+1:=by simp
  refine zAc (zAa (zAe 1 (zAd (zAc (zCL ((↑c:Int)<cr) (fun k1=>(zAx (zAc (zAp 3 (zAc (zAa (zAe 2 (zAd (zAc (zAa (zAe 4 (zKN 41 ((↑c:Int)=su) (fun k2=>(zAe 4 (zAd (zEl (zAa (zAe 1 (S_a [(1,.v (PV.bor 6 [(0,2)] 1 0 p.length))] (ap ((by simp):PV.bor 6 [(0,2)] 1 0 (List.map I p).length=PV.bor 6 [(0,2)] 1 0 p.length) an) (zAe 2 (S_a [(4,.ob),(0,.ob),(0,.yes),(2,.v (PV.own 1 (List.map I (p++[(↑c:Int)]))))] (ap ((by exact zAL (by simp only [List.length_map,zzLn,zAI]<;>omega)):(0+p.length).ble (List.map I p).length=true) (ap ((by exact zAL (by simp only [List.length_map,zzLn,zAI]<;>omega)):((List.map I p).length + [I (↑c:Int)].length).ble zAI=true) (ap ((by exact zB0 (by simp<;>omega)):(0+p.length).beq (List.map I p).length=true) (ap ((by simp):PV.own 1 (List.map I p++[I (↑c:Int)])=PV.own 1 (List.map I (p++[(↑c:Int)]))) an)))) (zAe 2 (zAd (zAa (S_a [(1,.v (I (↑(c+1):Int)))] (ap ((zAR (by omega) (by omega)):I (IntKind.i64.wrap ((↑c:Int)+1))=I (↑(c+1):Int)) an) (zAe 1 (zAd ?_))))))))))))))) (fun k2=>(zAe 1 (S_a [(6,.ret (PV.bool (decide (zAz l a t (3-1)=0))) ([zBO l (zAm l a) (zAD l a t)]))] (ap (f28 (l) (a) (t) (3) (by omega) (by omega)) an) (zAe 2 (zAd (zJI (zAz l a t (3-1)=0) (fun k3=>(zAa (zAe 1 (S_a [(1,.v (PV.bor 6 [(0,2)] 1 0 p.length))] (ap ((by simp):PV.bor 6 [(0,2)] 1 0 (List.map I p).length=PV.bor 6 [(0,2)] 1 0 p.length) an) (zAe 2 (S_a [(4,.ob),(0,.ob),(0,.yes),(2,.v (PV.own 1 (List.map I (p++[(↑c:Int)]))))] (ap ((by exact zAL (by simp only [List.length_map,zzLn,zAI]<;>omega)):(0+p.length).ble (List.map I p).length=true) (ap ((by exact zAL (by simp only [List.length_map,zzLn,zAI]<;>omega)):((List.map I p).length + [I (↑c:Int)].length).ble zAI=true) (ap ((by exact zB0 (by simp<;>omega)):(0+p.length).beq (List.map I p).length=true) (ap ((by simp):PV.own 1 (List.map I p++[I (↑c:Int)])=PV.own 1 (List.map I (p++[(↑c:Int)]))) an)))) (zAe 2 (zAd (zAa (S_a [(1,.v (I (↑(c+1):Int)))] (ap ((zAR (by omega) (by omega)):I (IntKind.i64.wrap ((↑c:Int)+1))=I (↑(c+1):Int)) an) (zAe 1 (zAd ?_)))))))))))) (fun k3=>(zAx (zAa (S_a [(1,.v (I (↑(c+1):Int)))] (ap ((zAR (by omega) (by omega)):I (IntKind.i64.wrap ((↑c:Int)+1))=I (↑(c+1):Int)) an) (zAe 1 (zAd ?_)))))))))))))))))))))))) (fun k1=>(zBM 2 (zAa (zAe 1 (S_a [(1,.v (PV.bor 5 [(0,4)] 3 0 q.length))] (ap ((by simp):PV.bor 5 [(0,4)] 3 0 (List.map zJL q).length=PV.bor 5 [(0,4)] 3 0 q.length) an) (zAe 1 (S_a [(2,.yes)] (ap ((by exact zB0 (by simp<;>omega)):(Nat.beq 0 0&&(List.map I p).length.beq (List.map I p).length)=true) an) (S_a [(4,.ob),(0,.ob),(0,.yes),(2,.v (PV.own 3 (List.map zJL (q++[{w:=w1,s:=w2,may:=p}]))))] (ap ((by exact zAL (by simp only [List.length_map,zzLn,zAI]<;>omega)):(0+q.length).ble (List.map zJL q).length=true) (ap ((by exact zAL (by simp only [List.length_map,zzLn,zAI]<;>omega)):((List.map zJL q).length + [PV.agg [I w1,I w2,PV.own 1 (List.map I p)]].length).ble zAI=true) (ap ((by exact zB0 (by simp<;>omega)):(0+q.length).beq (List.map zJL q).length=true) (ap ((by simp):PV.own 3 (List.map zJL q++[PV.agg [I w1,I w2,PV.own 1 (List.map I p)]])=PV.own 3 (List.map zJL (q++[{w:=w1,s:=w2,may:=p}]))) an)))) (zAe 2 (zAd (zAa (S_a [(1,.v (I (↑(i+1):Int)))] (ap ((zAR (by omega) (by omega)):I (IntKind.i64.wrap ((↑i:Int)+1))=I (↑(i+1):Int)) an) (zAe 1 (zAd ?_)))))))))))))))))))
  ·exact ⟨(c+1,p++[(c:Int)],a,t),⟨by omega,gM,hai,by omega,by omega,ha⟩,by simp only;omega,by kernel_rfl,by kernel_rfl⟩
  ·exact ⟨(c+1,p++[(c:Int)],zAm l a,zAD l a t),⟨by omega,gM,hai,by omega,by omega,g1⟩,by simp only;omega,by kernel_rfl,by kernel_rfl⟩
  ·exact ⟨(c+1,p,zAm l a,zAD l a t),⟨by omega,fun x hx=>by have:=uC x hx;omega,uF,fun h=>hp3 (by omega),by omega,g1⟩,by simp only;omega,by kernel_rfl,by kernel_rfl⟩
  ·refine ⟨(i+1,q++[⟨w1,w2,p⟩],a,t),⟨by omega,by simp [hq],fun r yx=>?_,ha⟩,by simp only;omega,by kernel_rfl,by kernel_rfl⟩
   rcases List.mem_append.1 yx with yx | yx
   ·exact hr r yx
   ·rw [List.mem_singleton] at yx;subst yx
    exact ⟨by simp only;omega,by simp only;omega,hp3 (by omega),fun x hx=>by have:=uC x hx;omega,uF⟩
 ·refine ⟨⟨cr,wd,st,fn,q⟩,a,t,rfl,rfl,⟨by simp only;omega,by simp only;omega,by simp only;omega,by simp only;omega,by simp only;omega,fun r h=>⟨(hr r h).w,(hr r h).s⟩,fun r h=>⟨(hr r h).n,(hr r h).may,(hr r h).inc⟩⟩,by simp only;omega,ha⟩
theorem f57 (b:Dk) (r:Nat) (hr:r<b.rs.length) (hg:Good b):FG 57 [zEZ b,I r] (I (zBW b (rnd b r))):=by
 refine zAi Try.f57 ?_
 have h1:=hg.wd
 have h2:=hg.st
 have h3:=zJm hg hr
 have h4:0≤(b.rs.getD r default).w*b.wd∧(b.rs.getD r default).w*b.wd≤9*20:=⟨Int.mul_nonneg (by omega) (by omega),Int.mul_le_mul (by omega) (by omega) (by omega) (by omega)⟩
 have h5:0≤(b.rs.getD r default).s*(b.st+(b.rs.getD r default).w*b.wd)∧(b.rs.getD r default).s*(b.st+(b.rs.getD r default).w*b.wd)≤1000:=zF1 hg h3
 refine zAc (zAa (zAe 2 (zAd (zAc (zAa (zAe 3 (S_a [(2,.v (PV.agg [I (b.rs.getD r default).w,I (b.rs.getD r default).s,PV.sl (List.map I (b.rs.getD r default).may)]))] (ap (zCG (default) (by omega):(List.map zBb b.rs)[r]? = some (PV.agg [I (b.rs.getD r default).w,I (b.rs.getD r default).s,PV.sl (List.map I (b.rs.getD r default).may)])) an) (zAe 3 (zAd (zAc (zAa (zAe 8 (S_a [(1,.v (I ((b.rs.getD r default).w*b.wd)))] (ap ((zAR rfl (by omega)):I (IntKind.i64.wrap ((b.rs.getD r default).w*b.wd))=I ((b.rs.getD r default).w*b.wd)) an) (S_a [(1,.v (I (b.st+(b.rs.getD r default).w*b.wd)))] (ap ((zAR rfl (by omega)):I (IntKind.i64.wrap (b.st+(b.rs.getD r default).w*b.wd))=I (b.st+(b.rs.getD r default).w*b.wd)) an) (S_a [(1,.v (I ((b.rs.getD r default).s*(b.st+(b.rs.getD r default).w*b.wd))))] (ap ((zAR rfl (by omega)):I (IntKind.i64.wrap ((b.rs.getD r default).s*(b.st+(b.rs.getD r default).w*b.wd)))=I ((b.rs.getD r default).s*(b.st+(b.rs.getD r default).w*b.wd))) an) (zAe 1 (zAd (zAJ (E_a [] an (I ((b.rs.getD r default).s*(b.st+(b.rs.getD r default).w*b.wd))) ([]) rfl rfl)))))))))))))))))))
theorem f23_ex (l:List Int) (a:Nat) (t:Int) (b:Dk) (h:zD5 l a) (hg:Good b):∃ v h',zBm Try.prog zAq 23 [zML,zEZ b] [zBO l a t] v h'∧∃ s a' t',v = .own 1 (s.map I)∧h'=[zBO l a' t']∧ShareOk b s∧zD5 l a':=by
 refine zD7 Try.f23 _ ?_
 have hO:=hg.len
 have jD:=hg.cr
 refine zAc (zAa (zAe 2 (zAd (zAc (zAa (zAe 1 (zAd (zAc (zAc (zAa (zAe 2 (S_a [(0,.n (b.rs.length))] (ap ((by simp):some (List.map zBb b.rs).length=some b.rs.length) an) (zAe 1 (zAd (zAp 0 ?_)))))))))))))))
 refine zBo (fun (i,s,a,t)=>i≤b.rs.length∧zD5 l a∧s.length=i∧(∀ r,r<i→has (rnd b r).may (s.getD r 0)=true∧0≤s.getD r 0∧s.getD r 0≤b.cr-1)) (fun (i,s,a,t)=>[(5,.own 1 (s.map I)),(11,I (i:Nat)),(50000000,zBO l a t)]) (fun (i,_,_,_)=>b.rs.length-i) ((0:Nat),([]:List Int),a,t) ⟨Nat.zero_le _,h,rfl,fun r hr=>absurd hr (Nat.not_lt_zero _)⟩ fun (i,s,a,t) ⟨hi,ha,hs,hm⟩=>?_
 have hma:i<b.rs.length→(b.rs.getD i default).may.length≠0∧(b.rs.getD i default).may.length≤4:=fun h=>⟨(zCA hg h).1,zEv (zCA hg h).2.2 (zCA hg h).2.1 jD⟩
 have yZ:=zBQ l a t ((((b.rs.getD i default).may.length-1:Nat):Int))
 have g1:=zCw ha
 refine zAc (zAa (zAe 1 (zAd (zAc (zCL ((↑i:Int)<(↑b.rs.length:Int)) (fun k0=>(zAx (zAc (zAp 1 (zAc (zAa (S_a [(2,.v (PV.agg [I (b.rs.getD i default).w,I (b.rs.getD i default).s,PV.sl (List.map I (b.rs.getD i default).may)]))] (ap (zCG (default) (by omega):(List.map zBb b.rs)[i]? = some (PV.agg [I (b.rs.getD i default).w,I (b.rs.getD i default).s,PV.sl (List.map I (b.rs.getD i default).may)])) an) (zAe 3 (zAd (zAa (zAe 6 (S_a [(0,.n ((b.rs.getD i default).may.length))] (ap ((by simp):some (List.map I (b.rs.getD i default).may).length=some (b.rs.getD i default).may.length) an) (S_a [(1,.v (I (↑((b.rs.getD i default).may.length-1):Int)))] (ap ((zAR (by omega) (by omega)):I (IntKind.i64.wrap ((↑(b.rs.getD i default).may.length:Int)-1))=I (↑((b.rs.getD i default).may.length-1):Int)) an) (S_a [(6,.ret (I (zAz l a t (↑((b.rs.getD i default).may.length-1):Int))) ([zBO l (zAm l a) (zAD l a t)]))] (ap (f24 (l) (a) (t) ((↑((b.rs.getD i default).may.length-1):Int)) (by omega) (by omega)) an) (S_a [(0,.ob),(1,.v (I ((b.rs.getD i default).may.getD (zAz l a t (↑((b.rs.getD i default).may.length-1):Int)).toNat 0)))] (ap ((by exact zA8 (by omega)):decide (0≤zAz l a t (↑((b.rs.getD i default).may.length-1):Int))=true) (ap (zCG (0) (by omega):(List.map I (b.rs.getD i default).may)[(zAz l a t (↑((b.rs.getD i default).may.length-1):Int)).toNat]? = some (I ((b.rs.getD i default).may.getD (zAz l a t (↑((b.rs.getD i default).may.length-1):Int)).toNat 0))) an)) (zAe 2 (S_a [(4,.ob),(0,.ob),(0,.yes),(2,.v (PV.own 1 (List.map I (s++[(b.rs.getD i default).may.getD (zAz l a t (↑((b.rs.getD i default).may.length-1):Int)).toNat 0]))))] (ap ((by exact zAL (by simp only [List.length_map,zzLn,zAI]<;>omega)):(0+(List.map I s).length).ble (List.map I s).length=true) (ap ((by exact zAL (by simp only [List.length_map,zzLn,zAI]<;>omega)):((List.map I s).length + [I ((b.rs.getD i default).may.getD (zAz l a t (↑((b.rs.getD i default).may.length-1):Int)).toNat 0)].length).ble zAI=true) (ap ((by exact zB0 (by simp<;>omega)):(0+(List.map I s).length).beq (List.map I s).length=true) (ap ((by simp):PV.own 1 (List.map I s++[I ((b.rs.getD i default).may.getD (zAz l a t (↑((b.rs.getD i default).may.length-1):Int)).toNat 0)])=PV.own 1 (List.map I (s++[(b.rs.getD i default).may.getD (zAz l a t (↑((b.rs.getD i default).may.length-1):Int)).toNat 0]))) an)))) (zAe 1 (zAd (zAa (S_a [(1,.v (I (↑(i+1):Int)))] (ap ((zAR (by omega) (by omega)):I (IntKind.i64.wrap ((↑i:Int)+1))=I (↑(i+1):Int)) an) (zAe 1 (zAd ?_))))))))))))))))))))))) (fun k0=>(zBM 0 (zAc (zAa (zAe 1 (S_a [(2,.yes)] (ap ((by exact zB0 (by simp<;>omega)):(Nat.beq 0 0&&(List.map I s).length.beq (List.map I s).length)=true) an) (zAd (zAJ (E_q [(1,.yes),(1,.v (PV.own 1 (List.map I s)))] (ap ((by exact zAL (by simp only [List.length_map,zzLn,zAI]<;>omega)):(0+(List.map I s).length).ble (List.map I s).length=true) (ap ((zFc zDb):PV.own 1 (List.take (List.map I s).length (List.drop 0 (List.map I s)))=PV.own 1 (List.map I s)) an)) (PV.own 1 (List.map I s)) ([(PV.agg [PV.sl (List.map u8 l),I (↑a:Int),PV.int IntKind.u32 t]).box]) ?_))))))))))))))
 ·refine ⟨(i+1,s++[(b.rs.getD i default).may.getD (zAz l a t (((b.rs.getD i default).may.length-1:Nat):Int)).toNat 0],zAm l a,zAD l a t),⟨by omega,g1,by simp [hs],fun r hr=>?_⟩,by simp only;omega,by kernel_rfl,by kernel_rfl⟩
  rcases Nat.lt_succ_iff_lt_or_eq.1 hr with hr | rfl
  ·have:(s++[(b.rs.getD i default).may.getD (zAz l a t (((b.rs.getD i default).may.length-1:Nat):Int)).toNat 0]).getD r 0=s.getD r 0:=by
    simp [List.getD_eq_getElem?_getD,List.getElem?_append_left (show r<s.length by omega)]
   rw [this];exact hm r hr
  ·have yL:(zAz l a t (((b.rs.getD r default).may.length-1:Nat):Int)).toNat<(b.rs.getD r default).may.length:=by omega
   have:(s++[(b.rs.getD r default).may.getD (zAz l a t (((b.rs.getD r default).may.length-1:Nat):Int)).toNat 0]).getD r 0=(b.rs.getD r default).may.getD (zAz l a t (((b.rs.getD r default).may.length-1:Nat):Int)).toNat 0:=by
    simp [List.getD_eq_getElem?_getD,← hs]
   rw [this]
   exact ⟨zVQ yL rfl,zBB (zCA hg (by omega)).2.1 _ yL⟩
 ·have vH:i=b.rs.length:=by omega
  refine ⟨s,a,t,rfl,rfl,⟨zGS hg,by omega,fun x hx=>?_,zIh fun r hr=>(hm r (by omega)).1⟩,ha⟩
  obtain ⟨j,hj,rfl⟩:=List.getElem_of_mem hx
  have:=(hm j (by omega)).2
  rwa [zAK hj] at this
omit [Yo] in
theorem zRy {l:List Int} {i n:Nat} {v:Int}:(l.take n).set i v=(l.set i v).take n:=by rw [List.take_set]
omit [Yo] in
theorem zLA {l:List Int} {i n:Nat} (h:i<n):(l.take n).getD i 0=l.getD i 0:=by
 simp only [List.getD_eq_getElem?_getD,List.getElem?_take,h,if_true]
theorem f25_1 (b:Dk) (s:List Int) (h:ShareOk b s):FG 25 [zEZ b,zCm s] (.own 1 ((zAj b s).map I)):=by
 have hg:=zBl h.box
 have jD:=hg.cr
 have hO:=hg.len
 have jK:=h.len
 have hs:zAG b s=0:=by
  have h2:(!s.all (fun x=>decide (0≤x)&&decide (x≤b.cr-1)))=false:=by
   simp only [Bool.not_eq_false',List.all_eq_true]
   intro x hx;have:=h.rng x hx;simp;omega
  simp only [zAG,h.box,h.len,h2,h.may,if_true];rfl
 have hf:zAj b s=(zFl (zAg b) s s.length).take b.cr.toNat:=by simp only [zAj,hs,if_true]
 rw [hf]
 have h0:List.replicate b.cr.toNat 0=(zFl (zAg b) s 0).take b.cr.toNat:=by
  obtain hc | hc | hc | hc:b.cr=1∨b.cr=2∨b.cr=3∨b.cr=4:=by omega
  all_goals rw [hc];rfl
 refine zAi Try.f25 ?_
 refine zAc (zAa (zAe 2 (zAd (zAc (zAa (zAe 2 (S_a [(0,.ob),(1,.ob),(1,.ob),(0,.ob),(1,.v (PV.own 1 (List.map I (List.replicate b.cr.toNat 0))))] (ap ((by exact zA8 (by omega)):decide (0≤b.cr)=true) (ap ((by exact zA8 (by omega)):decide (0≤b.cr)=true) (ap ((by exact zA8 (by omega)):decide (b.cr.toNat≤b.cr.toNat)=true) (ap ((by exact zA8 (by simp [zAI]<;>omega)):decide (b.cr.toNat≤zAI)=true) (ap ((by simp):PV.own 1 (List.replicate b.cr.toNat (I 0))=PV.own 1 (List.map I (List.replicate b.cr.toNat 0))) an))))) (zAe 1 (zAd (zAc (zAc (zAa (zAe 1 (S_a [(0,.n (s.length))] (ap ((by simp):some (List.map I s).length=some s.length) an) (zAe 1 (zAd (zAp 0 ?_)))))))))))))))))
 refine zBo (fun (i,o)=>i≤s.length∧o=(zFl (zAg b) s i).take b.cr.toNat) (fun (i,o)=>[(5,.own 1 (o.map I)),(13,I (i:Nat))]) (fun (i,_)=>s.length-i) ((0:Nat),List.replicate b.cr.toNat 0) ⟨Nat.zero_le _,h0⟩ fun (i,o) ⟨hi,ho⟩=>?_
 have hol:o.length=b.cr.toNat:=by rw [ho,List.length_take,zDe];omega
 have hx:i<s.length→0≤s.getD i 0∧s.getD i 0≤b.cr-1:=fun hi=>zBB h.rng i hi
 have hmy:i<s.length→has (rnd b i).may (s.getD i 0)=true:=fun hi=>zF6 h.may hi
 have hbd:=zGs (zAk:=s) (zBx hg) i (s.getD i 0).toNat
 have hod:i<s.length→o.getD (s.getD i 0).toNat 0=(zFl (zAg b) s i).getD (s.getD i 0).toNat 0:=fun hi=>by rw [ho,zLA (by have:=hx hi;omega)]
 have ud:i<b.rs.length→0≤zBW b (rnd b i)∧zBW b (rnd b i)≤1000:=fun h=>zF1 hg (zJm hg h)
 have gz:i<b.rs.length→(b.rs.getD i default).may.length≤4:=fun h=>zEv (zCA hg h).2.2 (zCA hg h).2.1 jD
 refine zAc (zAa (zAe 1 (zAd (zAc (zCL ((↑i:Int)<(↑s.length:Int)) (fun k0=>(zAx (zAc (zAp 1 (zAc (zAa (zAe 1 (S_a [(2,.v (I (s.getD i 0)))] (ap (zCG (0) (by omega):(List.map I s)[i]? = some (I (s.getD i 0))) an) (zAe 3 (zAd (zAc (zAc (zAa (zAe 3 (S_a [(0,.n (b.rs.length))] (ap ((by simp):some (List.map zBb b.rs).length=some b.rs.length) an) (zAe 2 (zMH 23 ((↑i:Int)≥(↑b.rs.length:Int)) (by omega) (zAe 3 (S_a [(2,.v (PV.agg [I (b.rs.getD i default).w,I (b.rs.getD i default).s,PV.sl (List.map I (b.rs.getD i default).may)]))] (ap (zCG (default) (by omega):(List.map zBb b.rs)[i]? = some (PV.agg [I (b.rs.getD i default).w,I (b.rs.getD i default).s,PV.sl (List.map I (b.rs.getD i default).may)])) an) (zAe 3 (S_a [(8,.ret (PV.bool (has (b.rs.getD i default).may (s.getD i 0))) ([]))] (ap (f87 ((b.rs.getD i default).may) (s.getD i 0) (by omega)) an) (zAe 2 (zAd (zLv (!has (b.rs.getD i default).may (s.getD i 0)) (fun k1=>(zAc (zAa (zAe 1 (zAd (zAJ (E_a [] an (PV.nils 1) ([]) ?_ rfl))))))) (fun k1=>(zAx (zAa (zAe 2 (S_a [(0,.ob),(1,.ob),(1,.n ((s.getD i 0).toNat))] (ap ((by exact zA8 (by omega)):decide (0≤s.getD i 0)=true) (ap ((by exact zA8 (by simp only [List.length_map,zzLn]<;>omega)):decide ((s.getD i 0).toNat<(List.map I o).length)=true) (ap ((by simp):some (0+(s.getD i 0).toNat)=some (s.getD i 0).toNat) an))) (S_a [(0,.cs false ([I (o.getD (s.getD i 0).toNat 0)]))] (ap (zEJ (q:=PV.own 1 (List.map I o)) (xs:=List.map I o) (x:=I (o.getD (s.getD i 0).toNat 0)) rfl (zCG (0) (by omega)):zAH 5 (PV.own 1 (List.map I o)) [] (s.getD i 0).toNat 0 1=some (false,[I (o.getD (s.getD i 0).toNat 0)])) an) (zAe 2 (S_a [(8,.ret (I (zBW b (rnd b i))) ([]))] (ap (f57 (b) (i) (by first | omega | (simp<;>omega)) (by omega)) an) (S_a [(1,.v (I (o.getD (s.getD i 0).toNat 0+zBW b (rnd b i))))] (ap ((zAR rfl (by omega)):I (IntKind.i64.wrap (o.getD (s.getD i 0).toNat 0+zBW b (rnd b i)))=I (o.getD (s.getD i 0).toNat 0+zBW b (rnd b i))) an) (S_a [(0,.ob),(1,.ob),(1,.n ((s.getD i 0).toNat))] (ap ((by exact zA8 (by omega)):decide (0≤s.getD i 0)=true) (ap ((by exact zA8 (by simp only [List.length_map,zzLn]<;>omega)):decide ((s.getD i 0).toNat<(List.map I o).length)=true) (ap ((by simp):some (0+(s.getD i 0).toNat)=some (s.getD i 0).toNat) an))) (S_a [(8,.root (PV.own 1 (List.map I (o.set (s.getD i 0).toNat (o.getD (s.getD i 0).toNat 0+zBW b (rnd b i))))) true)] (ap (zUV (zCG (0) (by omega)) zG7:zBL (PV.own 1 (List.map I o)) [] (s.getD i 0).toNat 0 (I (o.getD (s.getD i 0).toNat 0+zBW b (rnd b i))).cells=some (PV.own 1 (List.map I (o.set (s.getD i 0).toNat (o.getD (s.getD i 0).toNat 0+zBW b (rnd b i)))))∧zAM (PV.own 1 (List.map I o)) (PV.own 1 (List.map I (o.set (s.getD i 0).toNat (o.getD (s.getD i 0).toNat 0+zBW b (rnd b i))))) []=true) an) (zAd (zAa (S_a [(1,.v (I (↑(i+1):Int)))] (ap ((zAR (by omega) (by omega)):I (IntKind.i64.wrap ((↑i:Int)+1))=I (↑(i+1):Int)) an) (zAe 1 (zAd ?_)))))))))))))))))))))))))))))))))))))))) (fun k0=>(zBM 0 (zAc (zAc (zAa (zAe 1 (S_a [(0,.n (s.length))] (ap ((by simp):some (List.map I s).length=some s.length) an) (zAe 2 (S_a [(0,.n (b.rs.length))] (ap ((by simp):some (List.map zBb b.rs).length=some b.rs.length) an) (zAe 1 (zAd (zIL ((↑s.length:Int)=(↑b.rs.length:Int)) (by omega) (zAx (zAc (zAa (zAe 1 (S_a [(2,.yes)] (ap ((by exact zB0 (by simp<;>omega)):(Nat.beq 0 0&&(List.map I o).length.beq (List.map I o).length)=true) an) (zAd (zAJ (E_a [(1,.yes),(1,.v (PV.own 1 (List.map I o)))] (ap ((by exact zAL (by simp only [List.length_map,zzLn,zAI]<;>omega)):(0+(List.map I o).length).ble (List.map I o).length=true) (ap ((zFc zDb):PV.own 1 (List.take (List.map I o).length (List.drop 0 (List.map I o)))=PV.own 1 (List.map I o)) an)) (PV.own 1 (List.map I o)) ([]) ?_ rfl)))))))))))))))))))))))))
 ·have:=hmy (by omega)
  unfold rnd at this
  rw [this] at k1;cases k1
 ·refine ⟨(i+1,o.set (s.getD i 0).toNat (o.getD (s.getD i 0).toNat 0+zBW b (rnd b i))),⟨by omega,?_⟩,by simp only;omega,by kernel_rfl,by kernel_rfl⟩
  rw [hod (by omega),ho,zRy,zFl,zEM (by omega)];rfl
 ·rw [ho,show i=s.length by omega]
end
end Go.Eng
set_option maxRecDepth 10000
set_option maxHeartbeats 4000000
namespace Go.Eng
open Go Go.Proofs
section
variable [Yo]
end
end Go.Eng
set_option maxRecDepth 10000
set_option maxHeartbeats 4000000
namespace Go.Eng
open Go Go.Proofs
section
variable [Yo]
end
end Go.Eng
set_option maxRecDepth 10000
namespace Go.Eng
open Go Go.Proofs
abbrev zJr:Dk:=⟨2,1,2,2,[⟨4,2,[0,1]⟩,⟨3,1,[0,1]⟩,⟨8,1,[0,1]⟩,⟨1,1,[1]⟩]⟩
abbrev zQx:List Int:=[12,5,10,3]
section
variable [Yo]
theorem f88x:zBm Try.prog zAq 88 [zEZ zJr,zCm [0,0,0,1]] [] (.tup [.ref (zBs zJr zQx),I 0]) []:=zBm.closed 400
theorem f93x:zBm Try.prog zAq 93 [.ref (zBs zJr zQx),.bor 50000000 [(0,0)] 1 0 4] [.box (.own 1 [I 0,I 0,I 0,I 1])] (.func 130 [] (.ref (.bor 50000000 [(0,0)] 1 0 4)::(zFp zJr zQx [27,3,0,0] []).tail)) [.box (.own 1 [I 0,I 0,I 0,I 1])]:=zBm.closed 400
theorem f93y:zBm Try.prog zAq 93 [.ref (zBs zJr zQx),.bor 50000000 [(0,0)] 1 0 4] [.box (.own 1 [I 1,I 0,I 0,I 1])] (.func 130 [] (.ref (.bor 50000000 [(0,0)] 1 0 4)::(zFp zJr zQx [15,15,0,0] []).tail)) [.box (.own 1 [I 1,I 0,I 0,I 1])]:=zBm.closed 400
theorem f36w (hx:zGX 130 [] (zFp zJr zQx [27,3,0,0] [0,0,0,1]) [[mvV (0,1)],[mvV (1,1)],[mvV (2,1)]]) (hy:zGX 130 [] (zFp zJr zQx [15,15,0,0] [1,0,0,1]) []):zBm Try.prog zAq 36 [zEZ zJr,zCm [0,0,0,1]] [] (.tup [.own 1 [I 1,I 0,I 0,I 1],I 1,I 0]) []:=by
 refine zAi Try.f36 ?_
 refine zAc (zAa (zAe 4 (zAd (zAc (zAa (zAe 2 (S_a [(8,.ret (PV.tup [(zBs zJr zQx).ref,I 0]) ([]))] (ap (f88x) an) (zAe 5 (zAd (zAc (zAc (zAa (zAe 2 (zAd (zBE (zAx (zAc (zAa (zAe 1 (zAe 1 (zAe 3 (zAd (zAc (zAa (zAe 1 (zAe 1 ?_))))))))))))))))))))))))))
 refine zAe 1 (zAd ?_)
 refine zAc (zAa (zAe 1 (zAd (zAp 0 ?_))))
 refine zBo (fun (n,sh)=>n=0∧sh=[0,0,0,1]∨n=1∧sh=[1,0,0,1]) (fun (n,sh)=>[(9,.box (.own 1 (sh.map I))),(10,I (n:Nat))]) (fun (n,_)=>2-n) ((0:Nat),([0,0,0,1]:List Int)) (.inl ⟨rfl,rfl⟩) fun (n,sh) h=>?_
 rcases h with ⟨rfl,rfl⟩ | ⟨rfl,rfl⟩
 ·refine zAc (zAp 1 (zKX (zAc (zAa (zAe 2 (zAd (zAc (zKF (zAc (zAc (zAa (zAe 1 (zAe 1 (S_a [(5,.ret (PV.func 130 [] ((PV.bor 50000000 [(0,0)] 1 0 4).ref::(zFp zJr zQx [27,3,0,0] []).tail)) ([(PV.own 1 [I 0,I 0,I 0,I 1]).box]))] (ap (f93x) an) (zAd (zAp 2 ?_))))))))))))))))
  refine zHg (t:=32) (R:=[9]) hx ?_
  simp only [Rg]
  refine zOk ?_
  refine zAa (zAe 2 (zAd ?_))
  refine ⟨rfl,by kernel_rfl,?_⟩
  refine zAp 3 (zAc (zAa (zAe 1 (zAe 4 (zAe 1 (zAe 2 (zAd (zBM 2 ?_))))))))
  refine ⟨by kernel_rfl,?_⟩
  refine zAc (zAa (zAe 2 (zAd (zBE (zAx (zAa (zAe 3 (zAd ?_))))))))
  exact ⟨(1,[1,0,0,1]),.inr ⟨rfl,rfl⟩,by decide,by kernel_rfl,by kernel_rfl⟩
 ·refine zAc (zAp 1 (zKX (zAc (zAa (zAe 2 (zAd (zAc (zKF (zAc (zAc (zAa (zAe 1 (zAe 1 (S_a [(5,.ret (PV.func 130 [] ((PV.bor 50000000 [(0,0)] 1 0 4).ref::(zFp zJr zQx [15,15,0,0] []).tail)) ([(PV.own 1 [I 1,I 0,I 0,I 1]).box]))] (ap (f93y) an) (zAd (zAp 2 ?_))))))))))))))))
  refine zHg (t:=32) (R:=[9]) hy ?_
  simp only [Rg]
  refine zAc (zAa (zAe 2 (zAd (zEl (zAc (zAa (zAe 1 (zAe 4 (zAd (zAJ (E_a [] an (PV.tup [PV.own 1 [I 1,I 0,I 0,I 1],I (↑1:Int),I 0]) ([]) rfl rfl)))))))))))
end
noncomputable instance feeYo:Yo:=yo1 Try.prog zAq
theorem zQD {f zAk:List Int} (hf:f.length=4) (hs:zAk.length=4) (h1:zAk.all (fun x=>decide (0≤x∧x<4))=true) (h2:f.all (fun x=>decide (-1000000≤x∧x≤1000000))=true):MvOk zJr zQx f zAk:=by
 refine ⟨⟨by decide,by decide⟩,by decide,hf,rfl,hs,fun x hx=>by simpa using List.all_eq_true.1 h1 x hx,fun i=>?_,fun i=>?_⟩
 ·rcases Nat.lt_or_ge i f.length with h | h
  ·rw [zAK h];simpa using List.all_eq_true.1 h2 _ (List.getElem_mem h)
  ·rw [List.getD_eq_getElem?_getD,List.getElem?_eq_none h];simp
 ·rcases Nat.lt_or_ge i 4 with h | h
  ·match i,h with
   | 0,_=>decide
   | 1,_=>decide
   | 2,_=>decide
   | 3,_=>decide
  ·rw [List.getD_eq_getElem?_getD,List.getElem?_eq_none h];simp
theorem f130a {b:Dk} {fee f zAk:List Int} (h:MvOk b fee f zAk):zGX 130 [] (zFp b fee f zAk) (zJN b fee f zAk zAk.length):=by
 refine ⟨?_,fun j h1 h2=>?_⟩
 ·have:=f130h h (-1) (.inl rfl)
  rwa [if_pos rfl] at this
 ·have:=f130h h (j:Int) (.inr ⟨by omega,by simpa using h2⟩)
  rw [if_neg (by omega)] at this
  exact this
theorem f36x:zBm Try.prog zAq 36 [zEZ zJr,zCm [0,0,0,1]] [] (.tup [.own 1 [I 1,I 0,I 0,I 1],I 1,I 0]) []:=by
 refine f36w ?_ ?_
 ·exact f130a (zQD rfl rfl (by decide) (by decide))
 ·exact f130a (zQD rfl rfl (by decide) (by decide))
end Go.Eng
namespace Go.Eng
open Go Go.Proofs
def zVJ:List Int:=[5,-2,-3,4,-4]
abbrev ad (j:Nat):PV := .addr (50000000+j) [] 0 0 none
abbrev zWa:PV := .box (.func 135 [] [ad 0,ad 1,ad 2,ad 3])
abbrev zVZ (l:List Int):PV := .own 1 (l.map I)
abbrev zUu (l:List (List Int)):PV := .own 1 (l.map zVZ)
abbrev zUo (i:Nat) (now out out':List (List Int)):Entry:=⟨135,[I (i:Nat),ad 0,ad 1,ad 2,ad 3],[.box (zCm zVJ),zWa,.box (zUu now),.box (zUu out)],.tup [],[.box (zCm zVJ),zWa,.box (zUu now),.box (zUu out')]⟩
abbrev zUv (i:Nat) (now out out':List (List Int)):Prop:=∀ [Yo],zVI Try.prog zAq [zUo i now out out']
theorem zUc:zUv 3 [[0,1,2]] [] [[0,1,2],[3,4]]:=⟨zBm.closed 400,trivial⟩
theorem zRE:zUv 3 [[0,1],[2]] [[0,1,2],[3,4]] [[0,1,2],[3,4]]:=⟨zBm.closed 400,trivial⟩
theorem zSY:zUv 3 [[0,2],[1]] [[0,1,2],[3,4]] [[0,1,2],[3,4]]:=⟨zBm.closed 400,trivial⟩
theorem zR0:zUv 3 [[0],[1,2]] [[0,1,2],[3,4]] [[0,1,2],[3,4]]:=⟨zBm.closed 400,trivial⟩
theorem zQd:zUv 3 [[0],[1],[2]] [[0,1,2],[3,4]] [[0,1,2],[3,4]]:=⟨zBm.closed 400,trivial⟩
theorem g0_:zUv 0 [] [] [[0,1,2],[3,4]]:=⟨zBm.table ([zUo 3 [[0,1,2]] [] [[0,1,2],[3,4]],zUo 3 [[0,1],[2]] [[0,1,2],[3,4]] [[0,1,2],[3,4]],zUo 3 [[0,2],[1]] [[0,1,2],[3,4]] [[0,1,2],[3,4]],zUo 3 [[0],[1,2]] [[0,1,2],[3,4]] [[0,1,2],[3,4]],zUo 3 [[0],[1],[2]] [[0,1,2],[3,4]] [[0,1,2],[3,4]]]) ⟨zUc.1,zRE.1,zSY.1,zR0.1,zQd.1,trivial⟩ 400,trivial⟩
theorem f49x [Yo]:zBm Try.prog zAq 49 [zCm zVJ] [] (.tup [zUu [[0,1,2],[3,4]],I 0]) []:=zBm.table [zUo 0 [] [] [[0,1,2],[3,4]]] ⟨g0_.1,trivial⟩ 400
end Go.Eng
set_option maxRecDepth 10000
namespace Go.Eng
open Go Go.Proofs
section
variable [Yo]
theorem f26x:zBm Try.prog zAq 26 [zEZ zJr,zCm [1,0,0,1],zCm [4,10]] [] (.tup [.own 1 [I 7,I 0],I 23,I 0]) []:=zBm.closed 400
theorem f41x:zBm Try.prog zAq 41 [zEZ zJr] [] (.tup [.own 1 [I 1,I 0,I 0,I 1],I 15,I 0]) []:=zBm.closed 400
theorem f34x:zBm Try.prog zAq 34 [zEZ zJr,zCm [0,0,1,1]] [] (.tup [.own 2 [.agg [I 0,I 2]],I 0]) []:=zBm.closed 400
theorem f69x:zBm Try.prog zAq 69 [zEZ zJr,zCm [3,0]] [] (.tup [I 8,I 0]) []:=zBm.closed 400
theorem f18x:zBm Try.prog zAq 18 [I 10,zCm [5,3,1]] [] (.tup [.own 1 [I 6,I 3,I 1],I 0]) []:=zBm.closed 400
end
abbrev zVF:List Entry:=[
 ⟨36,[zEZ zJr,zCm [0,0,0,1]],[],.tup [.own 1 [I 1,I 0,I 0,I 1],I 1,I 0],[]⟩,
 ⟨41,[zEZ zJr],[],.tup [.own 1 [I 1,I 0,I 0,I 1],I 15,I 0],[]⟩,
 ⟨34,[zEZ zJr,zCm [0,0,1,1]],[],.tup [.own 2 [.agg [I 0,I 2]],I 0],[]⟩,
 ⟨26,[zEZ zJr,zCm [1,0,0,1],zCm [4,10]],[],.tup [.own 1 [I 7,I 0],I 23,I 0],[]⟩,
 ⟨69,[zEZ zJr,zCm [3,0]],[],.tup [I 8,I 0],[]⟩,
 ⟨18,[I 10,zCm [5,3,1]],[],.tup [.own 1 [I 6,I 3,I 1],I 0],[]⟩,
 ⟨49,[zCm zVJ],[],.tup [zUu [[0,1,2],[3,4]],I 0],[]⟩]
theorem f16:zBm Try.prog zAq 16 [] [] (.bool true) []:=zBm.table zVF ⟨f36x,f41x,f34x,f26x,f69x,f18x,f49x,trivial⟩ 400
end Go.Eng
set_option maxRecDepth 10000
set_option maxHeartbeats 4000000
namespace Go.Eng
open Go Go.Proofs
end Go.Eng
set_option maxRecDepth 10000
set_option maxHeartbeats 4000000
namespace Go.Eng
open Go Go.Proofs
abbrev zVK (l:List Int):PV := .own 1 (l.map I)
section
variable [Yo]
end
end Go.Eng
