/- No zAk that is tried has a lesser spread than the closest one; a settled zAk where all may cry all. -/
import Derived.Test.YtpmbobnmpehobaaPf
import Derived.Test.YtpmbobnmpehobaaPd
import Derived.Test.YtpmbobnmpehobaaPe
set_option linter.unusedVariables false
set_option linter.unusedSimpArgs false
set_option linter.unusedSectionVars false
set_option maxRecDepth 10000
namespace Go.Eng
open Go Go.Proofs
def fieldsOf (P:Program) (t:TypeId):List Field:=match P.underlying t with
 | some (.struct fs)=>fs.toList
 | _=>[]
abbrev fsV (r f0 f1 f2 f3:Int):PV := .agg [I r,I f0,I f1,I f2,I f3]
theorem zWh (a1 a2 a3 a4 b1 b2 b3 b4:Int):zN1 (eqT Try.prog 18 3) none 1 (.agg [I a1,I a2,I a3,I a4]) (.agg [I b1,I b2,I b3,I b4]) 0 4=some (a1==b1&&(a2==b2&&(a3==b3&&a4==b4))):=by
 have s1:zN1 (eqT Try.prog 18 3) none 1 (.agg [I a1,I a2,I a3,I a4]) (.agg [I b1,I b2,I b3,I b4]) 0 4=(match some (a1==b1) with | some true=>zN1 (eqT Try.prog 18 3) none 1 (.agg [I a1,I a2,I a3,I a4]) (.agg [I b1,I b2,I b3,I b4]) 1 3 | r=>r):=by kernel_rfl
 have s2:zN1 (eqT Try.prog 18 3) none 1 (.agg [I a1,I a2,I a3,I a4]) (.agg [I b1,I b2,I b3,I b4]) 1 3=(match some (a2==b2) with | some true=>zN1 (eqT Try.prog 18 3) none 1 (.agg [I a1,I a2,I a3,I a4]) (.agg [I b1,I b2,I b3,I b4]) 2 2 | r=>r):=by kernel_rfl
 have s3:zN1 (eqT Try.prog 18 3) none 1 (.agg [I a1,I a2,I a3,I a4]) (.agg [I b1,I b2,I b3,I b4]) 2 2=(match some (a3==b3) with | some true=>zN1 (eqT Try.prog 18 3) none 1 (.agg [I a1,I a2,I a3,I a4]) (.agg [I b1,I b2,I b3,I b4]) 3 1 | r=>r):=by kernel_rfl
 have s4:zN1 (eqT Try.prog 18 3) none 1 (.agg [I a1,I a2,I a3,I a4]) (.agg [I b1,I b2,I b3,I b4]) 3 1=(match some (a4==b4) with | some true=>some true | r=>r):=by kernel_rfl
 rw [s1]
 cases a1==b1
 ·rfl
 simp only [s2]
 cases a2==b2
 ·rfl
 simp only [s3]
 cases a3==b3
 ·rfl
 simp only [s4]
 cases a4==b4<;>rfl
theorem zWj (a0 a1 a2 a3 a4 b0 b1 b2 b3 b4:Int):eqT Try.prog 20 177 (fsV a0 a1 a2 a3 a4) (fsV b0 b1 b2 b3 b4)=some (a0==b0&&(a1==b1&&(a2==b2&&(a3==b3&&a4==b4)))):=by
 have s1:eqT Try.prog 20 177 (fsV a0 a1 a2 a3 a4) (fsV b0 b1 b2 b3 b4)=(match some (a0==b0) with | some true=>zTa (eqT Try.prog 19) (shT Try.prog) (fsV a0 a1 a2 a3 a4) (fsV b0 b1 b2 b3 b4) (fieldsOf Try.prog 177).tail | r=>r):=by kernel_rfl
 have s2:zTa (eqT Try.prog 19) (shT Try.prog) (fsV a0 a1 a2 a3 a4) (fsV b0 b1 b2 b3 b4) (fieldsOf Try.prog 177).tail=(match zN1 (eqT Try.prog 18 3) none 1 (.agg [I a1,I a2,I a3,I a4]) (.agg [I b1,I b2,I b3,I b4]) 0 4 with | some true=>some true | r=>r):=by kernel_rfl
 rw [s1]
 cases a0==b0
 ·rfl
 simp only [s2,zWh,Bool.true_and]
 cases (a1==b1&&(a2==b2&&(a3==b3&&a4==b4)))<;>rfl
structure En where
 r:Int
 f0:Int
 f1:Int
 f2:Int
 f3:Int
 v:Int
abbrev zId (x:En):PV×PV:=(fsV x.r x.f0 x.f1 x.f2 x.f3,I x.v)
def zSt (a0 a1 a2 a3 a4:Int) (x:En):Bool:=a0==x.r&&(a1==x.f0&&(a2==x.f1&&(a3==x.f2&&a4==x.f3)))
theorem zIv (a0 a1 a2 a3 a4:Int):∀ (M:List En) (i:Nat),zDE Try.prog 177 (fsV a0 a1 a2 a3 a4) (M.map zId) i=some ((M.findIdx? (zSt a0 a1 a2 a3 a4)).map (· + i))
 | [],i=>rfl
 | x :: M,i=>by
  have h1:=zWj a0 a1 a2 a3 a4 x.r x.f0 x.f1 x.f2 x.f3
  have h2:zFw (fsV a0 a1 a2 a3 a4).cells (fsV x.r x.f0 x.f1 x.f2 x.f3).cells=some (a0==x.r&&(a1==x.f0&&(a2==x.f1&&(a3==x.f2&&(a4==x.f3&&true))))):=by kernel_rfl
  rw [Bool.and_true] at h2
  rw [List.map_cons]
  simp only [zDE,h1,h2]
  rw [List.findIdx?_cons]
  have e:zSt a0 a1 a2 a3 a4 x=(a0==x.r&&(a1==x.f0&&(a2==x.f1&&(a3==x.f2&&a4==x.f3)))):=rfl
  cases hk:zSt a0 a1 a2 a3 a4 x with
  | true =>
   rw [e] at hk
   simp only [hk,Option.map_some,Nat.zero_add,if_true]
  | false =>
   rw [e] at hk
   simp only [hk]
   rw [zIv a0 a1 a2 a3 a4 M (i+1)]
   simp only [Bool.false_eq_true,if_false,Option.map_map]
   congr 2
   funext y
   simp only [Function.comp];omega
def zB2 (f c k x:Int):Int:=if c=k then f+x else f
def zOR (l:List Int):Int:=l.foldl (fun m x=>if m<0 then x else if x<m then x else m) (-1)
def zB4 (b:Dk) (k:Nat):Int:=(zAg b).getD (b.rs.length-k) 0
def zB5 (b:Dk) (w:Int→Int→Int→Int→Int):Nat→Int→Int→Int→Int→Int
 | 0,f0,f1,f2,f3=>w f0 f1 f2 f3
 | k+1,f0,f1,f2,f3=>zOR ((rnd b (b.rs.length-(k+1))).may.map fun c=>zB5 b w k (zB2 f0 c 0 (zB4 b (k+1))) (zB2 f1 c 1 (zB4 b (k+1))) (zB2 f2 c 2 (zB4 b (k+1))) (zB2 f3 c 3 (zB4 b (k+1))))
structure EnsOk (b:Dk) (w:Int→Int→Int→Int→Int) (M:List En):Prop where
 ok:∀ x∈M,x.v=zB5 b w (b.rs.length-x.r.toNat) x.f0 x.f1 x.f2 x.f3
theorem zSH {M:List En} {a0 a1 a2 a3 a4:Int} {i:Nat} (h:M.findIdx? (zSt a0 a1 a2 a3 a4)=some i):∃ x,M[i]? = some x∧x∈M∧x.r=a0∧x.f0=a1∧x.f1=a2∧x.f2=a3∧x.f3=a4:=by
 obtain ⟨hi,hk,_⟩:=List.findIdx?_eq_some_iff_getElem.1 h
 refine ⟨M[i],List.getElem?_eq_getElem hi,List.getElem_mem hi,?_⟩
 simp only [zSt,Bool.and_eq_true,beq_iff_eq] at hk
 exact ⟨hk.1.symm,hk.2.1.symm,hk.2.2.1.symm,hk.2.2.2.1.symm,hk.2.2.2.2.symm⟩
end Go.Eng
set_option maxRecDepth 10000
set_option maxHeartbeats 4000000
namespace Go.Eng
open Go Go.Proofs
section
variable [Yo]
theorem f132 (b:Dk) (r:Nat) (f0 f1 f2 f3 c:Int) (hg:Good b) (hr:r<b.rs.length) (hc:0≤c∧c<4) (h0:0≤f0∧f0≤1000*r) (h1:0≤f1∧f1≤1000*r) (h2:0≤f2∧f2≤1000*r) (h3:0≤f3∧f3≤1000*r) :
  FG 132 [.ref (zBs b (zAg b)),fsV r f0 f1 f2 f3,I c] (fsV (r+1:Nat) (zB2 f0 c 0 ((zAg b).getD r 0)) (zB2 f1 c 1 ((zAg b).getD r 0)) (zB2 f2 c 2 ((zAg b).getD r 0)) (zB2 f3 c 3 ((zAg b).getD r 0))):=by
 have jo:(zAg b).length=b.rs.length:=zCb
 have hf:=zBx hg r
 have kG:=hg.len
 obtain rfl | rfl | rfl | rfl:c=0∨c=1∨c=2∨c=3:=by omega
 ·refine zAi Try.f132 ?_
  refine zAc (zAa (zAe 2 (zAd (zAc (zAa (zAe 2 (zAe 1 (zAe 7 (S_a [(2,.v (I ((zAg b).getD r 0)))] (ap (zCG (0) (by omega):(List.map I (zAg b))[r]? = some (I ((zAg b).getD r 0))) an) (zAe 1 (S_a [(1,.v (I (f0+(zAg b).getD r 0)))] (ap ((zAR rfl (by omega)):I (IntKind.i64.wrap (f0+(zAg b).getD r 0))=I (f0+(zAg b).getD r 0)) an) (zAe 1 (zAe 1 (zAe 1 (zAd (zAc (zAa (zAe 2 (S_a [(1,.v (I (↑(r+1):Int)))] (ap ((zAR (by omega) (by omega)):I (IntKind.i64.wrap ((↑r:Int)+1))=I (↑(r+1):Int)) an) (zAe 2 (zAd (zAc (zAa (zAe 2 (zAd (zAJ (E_a [] an (PV.agg [I (↑(r+1):Int),I (f0+(zAg b).getD r 0),I f1,I f2,I f3]) ([]) rfl rfl)))))))))))))))))))))))))))
 ·refine zAi Try.f132 ?_
  refine zAc (zAa (zAe 2 (zAd (zAc (zAa (zAe 2 (zAe 1 (zAe 7 (S_a [(2,.v (I ((zAg b).getD r 0)))] (ap (zCG (0) (by omega):(List.map I (zAg b))[r]? = some (I ((zAg b).getD r 0))) an) (zAe 1 (S_a [(1,.v (I (f1+(zAg b).getD r 0)))] (ap ((zAR rfl (by omega)):I (IntKind.i64.wrap (f1+(zAg b).getD r 0))=I (f1+(zAg b).getD r 0)) an) (zAe 1 (zAe 1 (zAe 1 (zAd (zAc (zAa (zAe 2 (S_a [(1,.v (I (↑(r+1):Int)))] (ap ((zAR (by omega) (by omega)):I (IntKind.i64.wrap ((↑r:Int)+1))=I (↑(r+1):Int)) an) (zAe 2 (zAd (zAc (zAa (zAe 2 (zAd (zAJ (E_a [] an (PV.agg [I (↑(r+1):Int),I f0,I (f1+(zAg b).getD r 0),I f2,I f3]) ([]) rfl rfl)))))))))))))))))))))))))))
 ·refine zAi Try.f132 ?_
  refine zAc (zAa (zAe 2 (zAd (zAc (zAa (zAe 2 (zAe 1 (zAe 7 (S_a [(2,.v (I ((zAg b).getD r 0)))] (ap (zCG (0) (by omega):(List.map I (zAg b))[r]? = some (I ((zAg b).getD r 0))) an) (zAe 1 (S_a [(1,.v (I (f2+(zAg b).getD r 0)))] (ap ((zAR rfl (by omega)):I (IntKind.i64.wrap (f2+(zAg b).getD r 0))=I (f2+(zAg b).getD r 0)) an) (zAe 1 (zAe 1 (zAe 1 (zAd (zAc (zAa (zAe 2 (S_a [(1,.v (I (↑(r+1):Int)))] (ap ((zAR (by omega) (by omega)):I (IntKind.i64.wrap ((↑r:Int)+1))=I (↑(r+1):Int)) an) (zAe 2 (zAd (zAc (zAa (zAe 2 (zAd (zAJ (E_a [] an (PV.agg [I (↑(r+1):Int),I f0,I f1,I (f2+(zAg b).getD r 0),I f3]) ([]) rfl rfl)))))))))))))))))))))))))))
 ·refine zAi Try.f132 ?_
  refine zAc (zAa (zAe 2 (zAd (zAc (zAa (zAe 2 (zAe 1 (zAe 7 (S_a [(2,.v (I ((zAg b).getD r 0)))] (ap (zCG (0) (by omega):(List.map I (zAg b))[r]? = some (I ((zAg b).getD r 0))) an) (zAe 1 (S_a [(1,.v (I (f3+(zAg b).getD r 0)))] (ap ((zAR rfl (by omega)):I (IntKind.i64.wrap (f3+(zAg b).getD r 0))=I (f3+(zAg b).getD r 0)) an) (zAe 1 (zAe 1 (zAe 1 (zAd (zAc (zAa (zAe 2 (S_a [(1,.v (I (↑(r+1):Int)))] (ap ((zAR (by omega) (by omega)):I (IntKind.i64.wrap ((↑r:Int)+1))=I (↑(r+1):Int)) an) (zAe 2 (zAd (zAc (zAa (zAe 2 (zAd (zAJ (E_a [] an (PV.agg [I (↑(r+1):Int),I f0,I f1,I f2,I (f3+(zAg b).getD r 0)]) ([]) rfl rfl)))))))))))))))))))))))))))
def zJM:List PV:=[.addr 50000000 [] 0 0 none,.addr 50000001 [] 0 0 (some 1),.addr 50000002 [] 0 0 none,.addr 50000003 [] 0 0 none]
def zS9 (b:Dk) (t:PV) (M:List En):List PV:=[.box (.ref (zBs b (zAg b))),.box (.agg [t]),.box (.omap (M.map zId)),.box (.func 131 [] zJM)]
omit [Yo] in
theorem zRa {l:List Int} {F:Int→Int} {j:Nat} (h:j<l.length):zOR ((l.take (j+1)).map F)=(if zOR ((l.take j).map F)<0 then F (l.getD j 0) else if F (l.getD j 0)<zOR ((l.take j).map F) then F (l.getD j 0) else zOR ((l.take j).map F)):=by
 rw [List.take_add_one,List.getElem?_eq_getElem h,zAK h]
 simp only [zOR,List.map_append,Option.toList,List.map_cons,List.map_nil,List.foldl_append,List.foldl_cons,List.foldl_nil]
 rfl
omit [Yo] in
theorem zDN {f c k x:Int} {r:Nat} (hf:0≤f∧f≤1000*r) (hx:0≤x∧x≤1000):0≤zB2 f c k x∧zB2 f c k x≤1000*(r+1:Nat):=by
 unfold zB2;split<;>omega
omit [Yo] in
theorem zVp {M N:List En} {a0 a1 a2 a3 a4:Int} (h:M.findIdx? (zSt a0 a1 a2 a3 a4)=none) (h2:∀ x∈N,a0<x.r):(M++N).findIdx? (zSt a0 a1 a2 a3 a4)=none:=by
 rw [List.findIdx?_eq_none_iff] at h ⊢
 intro x hx
 rcases List.mem_append.1 hx with hx | hx
 ·exact h x hx
 ·have:=h2 x hx
  simp only [zSt,Bool.and_eq_false_iff,beq_eq_false_iff_ne]
  exact .inl (by omega)
theorem f131b (b:Dk) (w:Int→Int→Int→Int→Int) (hg:Good b) (hw:∀ f0 f1 f2 f3:Int,(0≤f0∧f0≤7000)→(0≤f1∧f1≤7000)→(0≤f2∧f2≤7000)→(0≤f3∧f3≤7000)→FG 107 [.ref (zBs b (zAg b)),.agg [I f0,I f1,I f2,I f3]] (I (w f0 f1 f2 f3))):∀ (k:Nat) (r:Nat) (f0 f1 f2 f3:Int) (M:List En),r+k=b.rs.length→(0≤f0∧f0≤1000*r)→(0≤f1∧f1≤1000*r)→(0≤f2∧f2≤1000*r)→(0≤f3∧f3≤1000*r)→EnsOk b w M →
  ∃ v h',zBm Try.prog zAq 131 (fsV r f0 f1 f2 f3::zJM) (zS9 b (.func 107 [.ref (zBs b (zAg b))] []) M) v h'∧∃ N,v=I (zB5 b w k f0 f1 f2 f3)∧h'=zS9 b (.func 107 [.ref (zBs b (zAg b))] []) (M++N)∧EnsOk b w N∧∀ x∈N,(r:Int)≤x.r:=by
 have kG:=hg.len
 intro k
 induction k with
 | zero =>
  intro r f0 f1 f2 f3 M hr h0 h1 h2 h3 hM
  have hw':=hw f0 f1 f2 f3 (by omega) (by omega) (by omega) (by omega)
  unfold zJM zS9
  refine zD7 Try.f131 _ ?_
  refine zAc (zAa (zAe 2 (zAd (zAc (zAc (zAa (zAe 7 (S_a [(0,.n (b.rs.length))] (ap ((by simp):some (List.map zBb b.rs).length=some b.rs.length) an) (zAe 1 (zAd (zFm ((↑r:Int)=(↑b.rs.length:Int)) (by omega) (zAc (zAa (zAe 4 (S_a [(7,.ret (I (w f0 f1 f2 f3)) ([]))] (ap (hw (f0) (f1) (f2) (f3) (by omega) (by omega) (by omega) (by omega)) an) (zAe 1 (zAd (zAJ (E_q [] an (I (w f0 f1 f2 f3)) ([(PV.agg [I b.cr,I b.wd,I b.st,I b.fn,PV.sl (List.map zBb b.rs),PV.sl (List.map I (zAg b))]).ref.box,(PV.agg [PV.func 107 [(PV.agg [I b.cr,I b.wd,I b.st,I b.fn,PV.sl (List.map zBb b.rs),PV.sl (List.map I (zAg b))]).ref] []]).box,(PV.omap (List.map zId M)).box,(PV.func 131 [] [PV.addr 50000000 [] 0 0 none,PV.addr 50000001 [] 0 0 (some 1),PV.addr 50000002 [] 0 0 none,PV.addr 50000003 [] 0 0 none]).box]) ?_)))))))))))))))))))
  exact ⟨[],rfl,by rw [List.append_nil];rfl,⟨fun x hx=>by cases hx⟩,fun x hx=>by cases hx⟩
 | succ k ih =>
  intro r f0 f1 f2 f3 M hr h0 h1 h2 h3 hM
  have hX:=zBx hg r
  have LA:r=b.rs.length-(k+1):=by omega
  have qh:zB5 b w (k+1) f0 f1 f2 f3=zOR ((b.rs.getD r default).may.map fun c=>zB5 b w k (zB2 f0 c 0 ((zAg b).getD r 0)) (zB2 f1 c 1 ((zAg b).getD r 0)) (zB2 f2 c 2 ((zAg b).getD r 0)) (zB2 f3 c 3 ((zAg b).getD r 0))):=by
   simp only [zB5,zB4,← LA,rnd]
  cases hL:M.findIdx? (zSt r f0 f1 f2 f3) with
  | some i =>
   have kH:zDE Try.prog 177 (fsV r f0 f1 f2 f3) (M.map zId) 0=some (some i):=by rw [zIv,hL];rfl
   obtain ⟨x,jZ,jY,e0,e1,e2,e3,e4⟩:=zSH hL
   have uY:zPs (M.map zId) i=some (I (zB5 b w (k+1) f0 f1 f2 f3)):=by
    have:=hM.ok x jY
    rw [e0,e1,e2,e3,e4,Int.toNat_natCast,show b.rs.length-r=k+1 by omega] at this
    rw [← this]
    simp only [zPs,List.getElem?_map,jZ,Option.map_some]
   clear qh ih
   unfold zJM zS9
   refine zD7 Try.f131 _ ?_
   refine zAc (zAa (zAe 2 (zAd (zAc (zAc (zAa (zAe 7 (S_a [(0,.n (b.rs.length))] (ap ((by simp):some (List.map zBb b.rs).length=some b.rs.length) an) (zAe 1 (zAd (zEo ((↑r:Int)=(↑b.rs.length:Int)) (by omega) (zAx (zAc (zAc (zAa (zAe 2 (S_a [(3,.ix (some i)),(0,.v (I (zB5 b w (k+1) f0 f1 f2 f3)))] (ap (kH) (ap (uY:zPs (List.map zId M) i=some (I (zB5 b w (k+1) f0 f1 f2 f3))) an)) (zAe 5 (zAd (zAc (zAa (zAe 1 (zAd (zEl (zAc (zAa (zAe 2 (zAd (zAJ (E_q [] an (I (zB5 b w (k+1) f0 f1 f2 f3)) ([(PV.agg [I b.cr,I b.wd,I b.st,I b.fn,PV.sl (List.map zBb b.rs),PV.sl (List.map I (zAg b))]).ref.box,(PV.agg [PV.func 107 [(PV.agg [I b.cr,I b.wd,I b.st,I b.fn,PV.sl (List.map zBb b.rs),PV.sl (List.map I (zAg b))]).ref] []]).box,(PV.omap (List.map zId M)).box,(PV.func 131 [] [PV.addr 50000000 [] 0 0 none,PV.addr 50000001 [] 0 0 (some 1),PV.addr 50000002 [] 0 0 none,PV.addr 50000003 [] 0 0 none]).box]) ?_))))))))))))))))))))))))))))))
   exact ⟨[],rfl,by rw [List.append_nil];rfl,⟨fun x hx=>by cases hx⟩,fun x hx=>by cases hx⟩
  | none =>
   have kH:zDE Try.prog 177 (fsV r f0 f1 f2 f3) (M.map zId) 0=some none:=by rw [zIv,hL];rfl
   have jE:=zCA hg (i:=r) (by omega)
   have gz:=zEv jE.2.2 jE.2.1 hg.cr
   have jD:=hg.cr
   rw [qh]
   unfold zJM zS9
   refine zD7 Try.f131 _ ?_
   refine zAc (zAa (zAe 2 (zAd (zAc (zAc (zAa (zAe 7 (S_a [(0,.n (b.rs.length))] (ap ((by simp):some (List.map zBb b.rs).length=some b.rs.length) an) (zAe 1 (zAd (zEo ((↑r:Int)=(↑b.rs.length:Int)) (by omega) (zAx (zAc (zAc (zAa (zAe 2 (S_a [(3,.ix (none))] (ap (kH) an) (zAe 5 (zAd (zAc (zAa (zAe 1 (zAd (zBE (zAx (zAc (zAa (zAe 1 (zAd (zAc (zAc (zAa (zAe 7 (S_a [(2,.v (PV.agg [I (b.rs.getD r default).w,I (b.rs.getD r default).s,PV.sl (List.map I (b.rs.getD r default).may)]))] (ap (zCG (default) (by omega):(List.map zBb b.rs)[r]? = some (PV.agg [I (b.rs.getD r default).w,I (b.rs.getD r default).s,PV.sl (List.map I (b.rs.getD r default).may)])) an) (zAe 2 (S_a [(0,.n ((b.rs.getD r default).may.length))] (ap ((by simp):some (List.map I (b.rs.getD r default).may).length=some (b.rs.getD r default).may.length) an) (zAe 1 (zAd (zAp 0 ?_)))))))))))))))))))))))))))))))))))))))
   clear kH
   generalize hF:(fun c=>zB5 b w k (zB2 f0 c 0 ((zAg b).getD r 0)) (zB2 f1 c 1 ((zAg b).getD r 0)) (zB2 f2 c 2 ((zAg b).getD r 0)) (zB2 f3 c 3 ((zAg b).getD r 0)))=F at *
   refine zBo (fun (j,m,Q)=>j≤(b.rs.getD r default).may.length∧m=zOR (((b.rs.getD r default).may.take j).map F)∧∃ N,Q=M++N∧EnsOk b w N∧∀ x∈N,((r+1:Nat):Int)≤x.r) (fun (j,m,Q)=>[(9,I m),(46,I (j:Nat)),(50000002,.box (.omap (Q.map zId)))]) (fun (j,_,_)=>(b.rs.getD r default).may.length-j) ((0:Nat),(-1:Int),M) ⟨Nat.zero_le _,rfl,[],(List.append_nil M).symm,⟨fun x hx=>by cases hx⟩,fun x hx=>by cases hx⟩ fun (j,m,Q) ⟨hj,hm,N,hQ,hN,LB⟩=>?_
   subst hQ
   by_cases jf:j<(b.rs.getD r default).may.length
   ·have hc:=zBB jE.2.1 j jf
    have uj:=zRa (F:=F) jf
    rw [← hm] at uj
    have hFc:F ((b.rs.getD r default).may.getD j 0)=zB5 b w k (zB2 f0 ((b.rs.getD r default).may.getD j 0) 0 ((zAg b).getD r 0)) (zB2 f1 ((b.rs.getD r default).may.getD j 0) 1 ((zAg b).getD r 0)) (zB2 f2 ((b.rs.getD r default).may.getD j 0) 2 ((zAg b).getD r 0)) (zB2 f3 ((b.rs.getD r default).may.getD j 0) 3 ((zAg b).getD r 0)):=by rw [← hF]
    obtain ⟨v,h',yM,N2,rfl,rfl,qA,hN2r⟩:=ih (r+1) _ _ _ _ (M++N) (by omega) (zDN (c:=(b.rs.getD r default).may.getD j 0) (k:=0) h0 hX) (zDN (c:=(b.rs.getD r default).may.getD j 0) (k:=1) h1 hX) (zDN (c:=(b.rs.getD r default).may.getD j 0) (k:=2) h2 hX) (zDN (c:=(b.rs.getD r default).may.getD j 0) (k:=3) h3 hX) ⟨fun x hx=>(List.mem_append.1 hx).elim (hM.ok x) (hN.ok x)⟩
    rw [← hFc] at yM
    unfold zJM zS9 at yM
    have LC:EnsOk b w (N++N2):=⟨fun x hx=>(List.mem_append.1 hx).elim (hN.ok x) (qA.ok x)⟩
    have gT:∀ x∈N++N2,((r+1:Nat):Int)≤x.r:=fun x hx=>(List.mem_append.1 hx).elim (LB x) (hN2r x)
    rw [List.append_assoc] at yM
    clear ih hm hN qA LB hN2r hM qh hF
    refine zAc (zAa (zAe 1 (zAd (zAc (zFm ((↑j:Int)<(↑(b.rs.getD r default).may.length:Int)) (by omega) (zAx (zAc (zAp 1 (zAc (zAa (S_a [(2,.v (I ((b.rs.getD r default).may.getD j 0)))] (ap (zCG (0) (by omega):(List.map I (b.rs.getD r default).may)[j]? = some (I ((b.rs.getD r default).may.getD j 0))) an) (zAe 2 (zAd (zAc (zAa (zAe 4 (S_a [(9,.ret (fsV (↑(r+1):Int) (zB2 f0 ((b.rs.getD r default).may.getD j 0) 0 ((zAg b).getD r 0)) (zB2 f1 ((b.rs.getD r default).may.getD j 0) 1 ((zAg b).getD r 0)) (zB2 f2 ((b.rs.getD r default).may.getD j 0) 2 ((zAg b).getD r 0)) (zB2 f3 ((b.rs.getD r default).may.getD j 0) 3 ((zAg b).getD r 0))) ([]))] (ap (f132 (b) (r) (f0) (f1) (f2) (f3) ((b.rs.getD r default).may.getD j 0) (by omega) (by first | omega | (simp<;>omega)) (by omega) (by omega) (by omega) (by omega) (by omega)) an) (S_a [(6,.ret (I (F ((b.rs.getD r default).may.getD j 0))) ([(zBs b (zAg b)).ref.box,(PV.agg [PV.func 107 [(zBs b (zAg b)).ref] []]).box,(PV.omap (List.map zId (M++(N++N2)))).box,(PV.func 131 [] zJM).box]))] (ap (yM) an) (zAe 1 (zAd (zAc (zAa (zAe 3 (zKN 58 (m<0) (fun k1=>(zAe 4 (zAd (zEl (zAa (zAe 2 (zAd (zAa (S_a [(1,.v (I (↑(j+1):Int)))] (ap ((zAR (by omega) (by omega)):I (IntKind.i64.wrap ((↑j:Int)+1))=I (↑(j+1):Int)) an) (zAe 1 (zAd ?_))))))))))) (fun k1=>(zAe 4 (zAd (zCL (F ((b.rs.getD r default).may.getD j 0)<m) (fun k2=>(zAa (zAe 2 (zAd (zAa (S_a [(1,.v (I (↑(j+1):Int)))] (ap ((zAR (by omega) (by omega)):I (IntKind.i64.wrap ((↑j:Int)+1))=I (↑(j+1):Int)) an) (zAe 1 (zAd ?_)))))))) (fun k2=>(zAx (zAa (S_a [(1,.v (I (↑(j+1):Int)))] (ap ((zAR (by omega) (by omega)):I (IntKind.i64.wrap ((↑j:Int)+1))=I (↑(j+1):Int)) an) (zAe 1 (zAd ?_))))))))))))))))))))))))))))))))))
    ·exact ⟨(j+1,F ((b.rs.getD r default).may.getD j 0),M++(N++N2)),⟨by omega,by rw [uj,if_pos k1],_,rfl,LC,gT⟩,by simp only;omega,by kernel_rfl,by kernel_rfl⟩
    ·exact ⟨(j+1,F ((b.rs.getD r default).may.getD j 0),M++(N++N2)),⟨by omega,by rw [uj,if_neg k1,if_pos k2],_,rfl,LC,gT⟩,by simp only;omega,by kernel_rfl,by kernel_rfl⟩
    ·exact ⟨(j+1,m,M++(N++N2)),⟨by omega,by rw [uj,if_neg k1,if_neg k2],_,rfl,LC,gT⟩,by simp only;omega,by kernel_rfl,by kernel_rfl⟩
   ·rw [List.take_of_length_le (by omega)] at hm
    have kH:zDE Try.prog 177 (fsV r f0 f1 f2 f3) ((M++N).map zId) 0=some none:=by
     rw [zIv,zVp hL fun x hx=>by have:=LB x hx;omega];rfl
    refine zAc (zAa (zAe 1 (zAd (zAc (zEo ((↑j:Int)<(↑(b.rs.getD r default).may.length:Int)) (by omega) (zBM 0 (zAc (zAa (zAe 3 (S_a [(5,.ix (none)),(0,.v (PV.omap (List.map zId (M++N++[{r:=↑r,f0:=f0,f1:=f1,f2:=f2,f3:=f3,v:=m}]))))] (ap (kH) (ap ((by simp):PV.omap (List.map zId (M++N)++[(PV.agg [I (↑r:Int),I f0,I f1,I f2,I f3],I m)])=PV.omap (List.map zId (M++N++[{r:=↑r,f0:=f0,f1:=f1,f2:=f2,f3:=f3,v:=m}]))) an)) (zAd (zAc (zAa (zAe 2 (zAd (zAJ (E_q [] an (I m) ([(PV.agg [I b.cr,I b.wd,I b.st,I b.fn,PV.sl (List.map zBb b.rs),PV.sl (List.map I (zAg b))]).ref.box,(PV.agg [PV.func 107 [(PV.agg [I b.cr,I b.wd,I b.st,I b.fn,PV.sl (List.map zBb b.rs),PV.sl (List.map I (zAg b))]).ref] []]).box,(PV.omap (List.map zId (M++N++[{r:=(↑r:Int),f0:=f0,f1:=f1,f2:=f2,f3:=f3,v:=m}]))).box,(PV.func 131 [] [PV.addr 50000000 [] 0 0 none,PV.addr 50000001 [] 0 0 (some 1),PV.addr 50000002 [] 0 0 none,PV.addr 50000003 [] 0 0 none]).box]) ?_)))))))))))))))))
    refine ⟨N++[⟨r,f0,f1,f2,f3,m⟩],by rw [hm],by rw [← List.append_assoc];rfl,⟨fun x hx=>?_⟩,fun x hx=>?_⟩
    ·rcases List.mem_append.1 hx with hx | hx
     ·exact hN.ok x hx
     ·rw [List.mem_singleton] at hx;subst hx
      simp only [Int.toNat_natCast,show b.rs.length-r=k+1 by omega]
      rw [qh,hm]
    ·rcases List.mem_append.1 hx with hx | hx
     ·have:=LB x hx;omega
     ·rw [List.mem_singleton] at hx;subst hx;exact Int.le_refl _
end
end Go.Eng
set_option maxRecDepth 10000
namespace Go.Eng
open Go Go.Proofs
def zEG (b:Dk) (w:Int→Int→Int→Int→Int) (k:Nat) (f0 f1 f2 f3 c:Int):Int:=zB5 b w k (zB2 f0 c 0 (zB4 b (k+1))) (zB2 f1 c 1 (zB4 b (k+1))) (zB2 f2 c 2 (zB4 b (k+1))) (zB2 f3 c 3 (zB4 b (k+1)))
def zFR (b:Dk) (w:Int→Int→Int→Int→Int) (k:Nat) (f0 f1 f2 f3:Int):Int:=((rnd b (b.rs.length-(k+1))).may.find? fun c=>decide (zEG b w k f0 f1 f2 f3 c=zB5 b w (k+1) f0 f1 f2 f3)).getD 0
def zEK (b:Dk) (w:Int→Int→Int→Int→Int):Nat→Int→Int→Int→Int→List Int
 | 0,_,_,_,_=>[]
 | k+1,f0,f1,f2,f3=>zFR b w k f0 f1 f2 f3::zEK b w k (zB2 f0 (zFR b w k f0 f1 f2 f3) 0 (zB4 b (k+1))) (zB2 f1 (zFR b w k f0 f1 f2 f3) 1 (zB4 b (k+1))) (zB2 f2 (zFR b w k f0 f1 f2 f3) 2 (zB4 b (k+1))) (zB2 f3 (zFR b w k f0 f1 f2 f3) 3 (zB4 b (k+1)))
theorem zOO {l:List Int} {p:Int→Bool} {j:Nat} (hj:j<l.length) (h:p (l.getD j 0)=true) (hb:∀ k,k<j→p (l.getD k 0)=false):l.find? p=some (l.getD j 0):=by
 rw [List.find?_eq_some_iff_getElem]
 refine ⟨h,j,hj,(zAK hj).symm,fun k hk=>?_⟩
 have:=hb k hk
 rw [zAK (by omega)] at this
 simp [this]
theorem zOJ {l:List Int} (h0:∀ x∈l,0≤x) (hH:l≠[]):zOR l∈l∧∀ x∈l,zOR l≤x:=by
 have key:∀ (l:List Int) (m:Int),(∀ x∈l,0≤x)→0≤m→(l.foldl (fun m x=>if m<0 then x else if x<m then x else m) m=m∨l.foldl (fun m x=>if m<0 then x else if x<m then x else m) m∈l)∧l.foldl (fun m x=>if m<0 then x else if x<m then x else m) m≤m∧∀ x∈l,l.foldl (fun m x=>if m<0 then x else if x<m then x else m) m≤x:=by
  intro l
  induction l with
  | nil=>intro m _ _;exact ⟨.inl rfl,Int.le_refl _,fun x hx=>by cases hx⟩
  | cons y l ih =>
   intro m h0 hm
   have hy:=h0 y (by simp)
   simp only [List.foldl_cons,if_neg (show ¬ m<0 by omega)]
   by_cases yL:y<m
   ·simp only [if_pos yL]
    obtain ⟨g1,g2,g3⟩:=ih y (fun x hx=>h0 x (by simp [hx])) hy
    refine ⟨.inr ?_,by omega,fun x hx=>?_⟩
    ·rcases g1 with g1 | g1
     ·rw [g1];simp
     ·simp [g1]
    ·rcases List.mem_cons.1 hx with rfl | hx
     ·exact g2
     ·exact g3 x hx
   ·simp only [if_neg yL]
    obtain ⟨g1,g2,g3⟩:=ih m (fun x hx=>h0 x (by simp [hx])) hm
    refine ⟨g1.imp id fun g=>by simp [g],g2,fun x hx=>?_⟩
    rcases List.mem_cons.1 hx with rfl | hx
    ·omega
    ·exact g3 x hx
 cases l with
 | nil=>exact (hH rfl).elim
 | cons y l =>
  have hy:=h0 y (by simp)
  obtain ⟨g1,g2,g3⟩:=key l y (fun x hx=>h0 x (by simp [hx])) hy
  have e:zOR (y::l)=l.foldl (fun m x=>if m<0 then x else if x<m then x else m) y:=by simp [zOR]
  rw [e]
  refine ⟨?_,fun x hx=>?_⟩
  ·rcases g1 with g1 | g1
   ·rw [g1];simp
   ·simp [g1]
  ·rcases List.mem_cons.1 hx with rfl | hx
   ·exact g2
   ·exact g3 x hx
theorem zOe {b:Dk} {w:Int→Int→Int→Int→Int} (hg:Good b) (hw:∀ f0 f1 f2 f3:Int,0≤f0→0≤f1→0≤f2→0≤f3→0≤w f0 f1 f2 f3):∀ (k:Nat) (f0 f1 f2 f3:Int),k≤b.rs.length→0≤f0→0≤f1→0≤f2→0≤f3→0≤zB5 b w k f0 f1 f2 f3
 | 0,f0,f1,f2,f3,_,h0,h1,h2,h3=>hw f0 f1 f2 f3 h0 h1 h2 h3
 | k + 1,f0,f1,f2,f3,hk,h0,h1,h2,h3=>by
  have hX:=zBx hg (b.rs.length-(k+1))
  have jE:=zCA hg (i:=b.rs.length-(k+1)) (by omega)
  have hb:∀ f c q:Int,0≤f→0≤zB2 f c q (zB4 b (k+1)):=fun f c q hf=>by unfold zB2 zB4;split<;>omega
  have jI:∀ x∈(rnd b (b.rs.length-(k+1))).may.map fun c=>zB5 b w k (zB2 f0 c 0 (zB4 b (k+1))) (zB2 f1 c 1 (zB4 b (k+1))) (zB2 f2 c 2 (zB4 b (k+1))) (zB2 f3 c 3 (zB4 b (k+1))),0≤x:=fun x hx=>by
   obtain ⟨c,_,rfl⟩:=List.mem_map.1 hx
   exact zOe hg hw k _ _ _ _ (by omega) (hb _ _ _ h0) (hb _ _ _ h1) (hb _ _ _ h2) (hb _ _ _ h3)
  exact jI _ (zOJ jI (fun h=>jE.1 (by have h5:=congrArg List.length h;rw [List.length_map,List.length_nil] at h5;exact h5))).1
theorem zJz {b:Dk} {w:Int→Int→Int→Int→Int} (hg:Good b) (hw:∀ f0 f1 f2 f3:Int,0≤f0→0≤f1→0≤f2→0≤f3→0≤w f0 f1 f2 f3) {k:Nat} {f0 f1 f2 f3:Int} (hk:k+1≤b.rs.length) (h0:0≤f0) (h1:0≤f1) (h2:0≤f2) (h3:0≤f3) :
  (∃ j,j<(rnd b (b.rs.length-(k+1))).may.length∧zEG b w k f0 f1 f2 f3 ((rnd b (b.rs.length-(k+1))).may.getD j 0)=zB5 b w (k+1) f0 f1 f2 f3)∧∀ c∈(rnd b (b.rs.length-(k+1))).may,zB5 b w (k+1) f0 f1 f2 f3≤zEG b w k f0 f1 f2 f3 c:=by
 have hX:=zBx hg (b.rs.length-(k+1))
 have jE:=zCA hg (i:=b.rs.length-(k+1)) (by omega)
 have hb:∀ f c q:Int,0≤f→0≤zB2 f c q (zB4 b (k+1)):=fun f c q hf=>by unfold zB2 zB4;split<;>omega
 have jI:∀ x∈(rnd b (b.rs.length-(k+1))).may.map (zEG b w k f0 f1 f2 f3),0≤x:=fun x hx=>by
  obtain ⟨c,_,rfl⟩:=List.mem_map.1 hx
  exact zOe hg hw k _ _ _ _ (by omega) (hb _ _ _ h0) (hb _ _ _ h1) (hb _ _ _ h2) (hb _ _ _ h3)
 have e:zB5 b w (k+1) f0 f1 f2 f3=zOR ((rnd b (b.rs.length-(k+1))).may.map (zEG b w k f0 f1 f2 f3)):=rfl
 obtain ⟨g1,g2⟩:=zOJ jI (fun h=>jE.1 (by have h5:=congrArg List.length h;rw [List.length_map,List.length_nil] at h5;exact h5))
 rw [e]
 constructor
 ·obtain ⟨c,hc,hce⟩:=List.mem_map.1 g1
  obtain ⟨j,hj,rfl⟩:=List.getElem_of_mem hc
  exact ⟨j,hj,by rw [zAK hj];exact hce⟩
 ·intro c hc
  exact g2 _ (List.mem_map.2 ⟨c,hc,rfl⟩)
end Go.Eng
set_option maxRecDepth 10000
set_option maxHeartbeats 4000000
namespace Go.Eng
open Go Go.Proofs
def zOQ:List PV:=[.addr 50000000 [] 0 0 none,.addr 50000001 [] 0 0 none,.addr 50000002 [] 0 0 (some 5),.addr 50000003 [] 0 0 none]
def zTo (b:Dk) (t:PV) (bad:Int) (r f0 f1 f2 f3:Int) (Q:List En):List PV:=[.box (.func 131 [] [.addr 50000001 [] 0 0 none,.addr 50000004 [] 0 0 (some 1),.addr 50000005 [] 0 0 none,.addr 50000000 [] 0 0 none]),.box (.ref (zBs b (zAg b))),.box (fsV r f0 f1 f2 f3),.box (I bad),.box (.agg [t]),.box (.omap (Q.map zId))]
section
variable [Yo]
theorem f133b (b:Dk) (w:Int→Int→Int→Int→Int) (hg:Good b) (hw:∀ f0 f1 f2 f3:Int,(0≤f0∧f0≤7000)→(0≤f1∧f1≤7000)→(0≤f2∧f2≤7000)→(0≤f3∧f3≤7000)→FG 107 [.ref (zBs b (zAg b)),.agg [I f0,I f1,I f2,I f3]] (I (w f0 f1 f2 f3))) (k r:Nat) (f0 f1 f2 f3 bad c:Int) (M:List En) (hr:r+(k+1)=b.rs.length) (h0:0≤f0∧f0≤1000*r) (h1:0≤f1∧f1≤1000*r) (h2:0≤f2∧f2≤1000*r) (h3:0≤f3∧f3≤1000*r) (hM:EnsOk b w M) (hc:0≤c∧c<4) :
  ∃ v h',zBm Try.prog zAq 133 (I c::zOQ) (zTo b (.func 107 [.ref (zBs b (zAg b))] []) bad r f0 f1 f2 f3 M) v h'∧∃ N,v = .bool (decide (zEG b w k f0 f1 f2 f3 c=bad))∧h'=zTo b (.func 107 [.ref (zBs b (zAg b))] []) bad r f0 f1 f2 f3 (M++N)∧EnsOk b w N:=by
 have hX:=zBx hg r
 have jD:=hg.cr
 have kG:=hg.len
 have LA:b.rs.length-(k+1)=r:=by omega
 obtain ⟨v,h',yM,N2,rfl,rfl,qA,_⟩:=f131b b w hg hw k (r+1) _ _ _ _ M (by omega) (zDN (c:=c) (k:=0) h0 hX) (zDN (c:=c) (k:=1) h1 hX) (zDN (c:=c) (k:=2) h2 hX) (zDN (c:=c) (k:=3) h3 hX) hM
 have hn:zB5 b w k (zB2 f0 c 0 ((zAg b).getD r 0)) (zB2 f1 c 1 ((zAg b).getD r 0)) (zB2 f2 c 2 ((zAg b).getD r 0)) (zB2 f3 c 3 ((zAg b).getD r 0))=zEG b w k f0 f1 f2 f3 c:=by simp only [zEG,zB4,LA]
 rw [hn] at yM
 unfold zJM zS9 at yM
 clear hw hn
 unfold zOQ zTo
 refine zD7 Try.f133 _ ?_
 refine zAc (zAa (zAe 1 (zAd (zAc (zAa (zAe 4 (S_a [(9,.ret (fsV (↑(r+1):Int) (zB2 f0 c 0 ((zAg b).getD r 0)) (zB2 f1 c 1 ((zAg b).getD r 0)) (zB2 f2 c 2 ((zAg b).getD r 0)) (zB2 f3 c 3 ((zAg b).getD r 0))) ([]))] (ap (f132 (b) (r) (f0) (f1) (f2) (f3) (c) (by omega) (by first | omega | (simp<;>omega)) (by omega) (by omega) (by omega) (by omega) (by omega)) an) (S_a [(6,.ret (I (zEG b w k f0 f1 f2 f3 c)) ([(zBs b (zAg b)).ref.box,(PV.agg [PV.func 107 [(zBs b (zAg b)).ref] []]).box,(PV.omap (List.map zId (M++N2))).box,(PV.func 131 [] zJM).box]))] (ap (yM) an) (zAe 3 (zAd (zAJ (E_q [] an (PV.bool (zEG b w k f0 f1 f2 f3 c==bad)) ([(PV.func 131 [] [PV.addr 50000001 [] 0 0 none,PV.addr 50000004 [] 0 0 (some 1),PV.addr 50000005 [] 0 0 none,PV.addr 50000000 [] 0 0 none]).box,(PV.agg [I b.cr,I b.wd,I b.st,I b.fn,PV.sl (List.map zBb b.rs),PV.sl (List.map I (zAg b))]).ref.box,(PV.agg [I (↑r:Int),I f0,I f1,I f2,I f3]).box,(I bad).box,(PV.agg [PV.func 107 [(PV.agg [I b.cr,I b.wd,I b.st,I b.fn,PV.sl (List.map zBb b.rs),PV.sl (List.map I (zAg b))]).ref] []]).box,(PV.omap (List.map zId (M++N2))).box]) ?_))))))))))))
 exact ⟨N2,rfl,rfl,qA⟩
theorem f118b (b:Dk) (w:Int→Int→Int→Int→Int) (hg:Good b) (hw:∀ f0 f1 f2 f3:Int,(0≤f0∧f0≤7000)→(0≤f1∧f1≤7000)→(0≤f2∧f2≤7000)→(0≤f3∧f3≤7000)→FG 107 [.ref (zBs b (zAg b)),.agg [I f0,I f1,I f2,I f3]] (I (w f0 f1 f2 f3))) (LD:∀ f0 f1 f2 f3:Int,0≤f0→0≤f1→0≤f2→0≤f3→0≤w f0 f1 f2 f3) (k r:Nat) (f0 f1 f2 f3:Int) (M:List En) (hr:r+(k+1)=b.rs.length) (h0:0≤f0∧f0≤1000*r) (h1:0≤f1∧f1≤1000*r) (h2:0≤f2∧f2≤1000*r) (h3:0≤f3∧f3≤1000*r) (hM:EnsOk b w M) :
  ∃ v h',zBm Try.prog zAq 118 [zCm (b.rs.getD r default).may,.func 133 [] zOQ] (zTo b (.func 107 [.ref (zBs b (zAg b))] []) (zB5 b w (k+1) f0 f1 f2 f3) r f0 f1 f2 f3 M) v h'∧∃ N,∃ j:Nat,v=I (j:Nat)∧h'=zTo b (.func 107 [.ref (zBs b (zAg b))] []) (zB5 b w (k+1) f0 f1 f2 f3) r f0 f1 f2 f3 (M++N)∧EnsOk b w N∧j<(b.rs.getD r default).may.length∧(b.rs.getD r default).may.getD j 0=zFR b w k f0 f1 f2 f3:=by
 have LA:b.rs.length-(k+1)=r:=by omega
 have jE:=zCA hg (i:=r) (by omega)
 have gz:=zEv jE.2.2 jE.2.1 hg.cr
 have jD:=hg.cr
 have kI:=(zJz hg LD (k:=k) (f0:=f0) (f1:=f1) (f2:=f2) (f3:=f3) (by omega) h0.1 h1.1 h2.1 h3.1).1
 rw [LA] at kI
 have hfc:∀ j,j<(b.rs.getD r default).may.length→zEG b w k f0 f1 f2 f3 ((b.rs.getD r default).may.getD j 0)=zB5 b w (k+1) f0 f1 f2 f3→(∀ i,i<j→¬ zEG b w k f0 f1 f2 f3 ((b.rs.getD r default).may.getD i 0)=zB5 b w (k+1) f0 f1 f2 f3)→(b.rs.getD r default).may.getD j 0=zFR b w k f0 f1 f2 f3:=fun j hj e hb=>by
  have:=zOO (p:=fun c=>decide (zEG b w k f0 f1 f2 f3 c=zB5 b w (k+1) f0 f1 f2 f3)) hj (decide_eq_true e) fun i hi=>decide_eq_false (hb i hi)
  unfold zFR
  rw [LA]
  show _=(((b.rs.getD r default).may.find? _).getD 0)
  rw [this];rfl
 generalize hbd:zB5 b w (k+1) f0 f1 f2 f3=bad at *
 unfold zTo zOQ
 refine zD7 Try.f118 _ ?_
 refine zAc (zAa (zAe 1 (zAd (zAc (zAc (zAa (zAe 1 (S_a [(0,.n ((b.rs.getD r default).may.length))] (ap ((by simp):some (List.map I (b.rs.getD r default).may).length=some (b.rs.getD r default).may.length) an) (zAe 1 (zAd (zAp 0 ?_)))))))))))
 refine zBo (fun (j,Q)=>j≤(b.rs.getD r default).may.length∧(∃ N,Q=M++N∧EnsOk b w N)∧∀ i,i<j→¬ zEG b w k f0 f1 f2 f3 ((b.rs.getD r default).may.getD i 0)=bad) (fun (j,Q)=>[(8,I (j:Nat)),(50000005,.box (.omap (Q.map zId)))]) (fun (j,_)=>(b.rs.getD r default).may.length-j) ((0:Nat),M) ⟨Nat.zero_le _,⟨[],(List.append_nil M).symm,⟨fun x hx=>by cases hx⟩⟩,fun i hi=>absurd hi (Nat.not_lt_zero _)⟩ fun (j,Q) ⟨hj,⟨N,hQ,hN⟩,jd⟩=>?_
 subst hQ
 by_cases jf:j<(b.rs.getD r default).may.length
 ·have hc:=zBB jE.2.1 j jf
  obtain ⟨v,h',yM,N2,rfl,rfl,qA⟩:=f133b b w hg hw k r f0 f1 f2 f3 bad ((b.rs.getD r default).may.getD j 0) (M++N) hr h0 h1 h2 h3 ⟨fun x hx=>(List.mem_append.1 hx).elim (hM.ok x) (hN.ok x)⟩ (by omega)
  have LC:EnsOk b w (N++N2):=⟨fun x hx=>(List.mem_append.1 hx).elim (hN.ok x) (qA.ok x)⟩
  rw [List.append_assoc] at yM
  unfold zOQ zTo at yM
  clear hw hM hN qA kI
  by_cases he:zEG b w k f0 f1 f2 f3 ((b.rs.getD r default).may.getD j 0)=bad
  ·rw [decide_eq_true he] at yM
   refine zAc (zAa (zAe 1 (zAd (zAc (zFm ((↑j:Int)<(↑(b.rs.getD r default).may.length:Int)) (by omega) (zAx (zAc (zAp 1 (zAc (zAa (zAe 2 (zAd (zAc (zAa (zAe 3 (S_a [(2,.v (I ((b.rs.getD r default).may.getD j 0)))] (ap (zCG (0) (by omega):(List.map I (b.rs.getD r default).may)[j]? = some (I ((b.rs.getD r default).may.getD j 0))) an) (zAe 1 (S_a [(6,.ret (PV.bool true) ([(PV.func 131 [] [PV.addr 50000001 [] 0 0 none,PV.addr 50000004 [] 0 0 (some 1),PV.addr 50000005 [] 0 0 none,PV.addr 50000000 [] 0 0 none]).box,(zBs b (zAg b)).ref.box,(fsV (↑r:Int) f0 f1 f2 f3).box,(I bad).box,(PV.agg [PV.func 107 [(zBs b (zAg b)).ref] []]).box,(PV.omap (List.map zId (M++(N++N2)))).box]))] (ap (yM) an) (zAd (zEl (zAc (zAa (zAe 2 (zAd (zAJ (E_q [] an (I (↑j:Int)) ([(PV.func 131 [] [PV.addr 50000001 [] 0 0 none,PV.addr 50000004 [] 0 0 (some 1),PV.addr 50000005 [] 0 0 none,PV.addr 50000000 [] 0 0 none]).box,(PV.agg [I b.cr,I b.wd,I b.st,I b.fn,PV.sl (List.map zBb b.rs),PV.sl (List.map I (zAg b))]).ref.box,(PV.agg [I (↑r:Int),I f0,I f1,I f2,I f3]).box,(I bad).box,(PV.agg [PV.func 107 [(PV.agg [I b.cr,I b.wd,I b.st,I b.fn,PV.sl (List.map zBb b.rs),PV.sl (List.map I (zAg b))]).ref] []]).box,(PV.omap (List.map zId (M++(N++N2)))).box]) ?_))))))))))))))))))))))))))
   exact ⟨N++N2,j,rfl,rfl,LC,jf,hfc j jf he jd⟩
  ·rw [decide_eq_false he] at yM
   clear hfc
   refine zAc (zAa (zAe 1 (zAd (zAc (zFm ((↑j:Int)<(↑(b.rs.getD r default).may.length:Int)) (by omega) (zAx (zAc (zAp 1 (zAc (zAa (zAe 2 (zAd (zAc (zAa (zAe 3 (S_a [(2,.v (I ((b.rs.getD r default).may.getD j 0)))] (ap (zCG (0) (by omega):(List.map I (b.rs.getD r default).may)[j]? = some (I ((b.rs.getD r default).may.getD j 0))) an) (zAe 1 (S_a [(6,.ret (PV.bool false) ([(PV.func 131 [] [PV.addr 50000001 [] 0 0 none,PV.addr 50000004 [] 0 0 (some 1),PV.addr 50000005 [] 0 0 none,PV.addr 50000000 [] 0 0 none]).box,(zBs b (zAg b)).ref.box,(fsV (↑r:Int) f0 f1 f2 f3).box,(I bad).box,(PV.agg [PV.func 107 [(zBs b (zAg b)).ref] []]).box,(PV.omap (List.map zId (M++(N++N2)))).box]))] (ap (yM) an) (zAd (zBE (zAx (zAa (S_a [(1,.v (I (↑(j+1):Int)))] (ap ((zAR (by omega) (by omega)):I (IntKind.i64.wrap ((↑j:Int)+1))=I (↑(j+1):Int)) an) (zAe 1 (zAd ?_)))))))))))))))))))))))))
   refine ⟨(j+1,M++(N++N2)),⟨by omega,⟨_,rfl,LC⟩,fun i hi=>?_⟩,by simp only;omega,by kernel_rfl,by kernel_rfl⟩
   rcases Nat.lt_succ_iff_lt_or_eq.1 hi with hi | rfl
   ·exact jd i hi
   ·exact he
 ·obtain ⟨i,hi,hie⟩:=kI
  have qL:i<(b.rs.getD r default).may.length:=hi
  exact absurd hie (jd i (by omega))
end
end Go.Eng
set_option maxRecDepth 10000
set_option maxHeartbeats 4000000
namespace Go.Eng
open Go Go.Proofs
section
variable [Yo]
theorem f102b (b:Dk) (w:Int→Int→Int→Int→Int) (hg:Good b) (hw:∀ f0 f1 f2 f3:Int,(0≤f0∧f0≤7000)→(0≤f1∧f1≤7000)→(0≤f2∧f2≤7000)→(0≤f3∧f3≤7000)→FG 107 [.ref (zBs b (zAg b)),.agg [I f0,I f1,I f2,I f3]] (I (w f0 f1 f2 f3))) (LD:∀ f0 f1 f2 f3:Int,0≤f0→0≤f1→0≤f2→0≤f3→0≤w f0 f1 f2 f3):FG 102 [.ref (zBs b (zAg b)),.agg [.func 107 [.ref (zBs b (zAg b))] []]] (.tup [zVK (zEK b w b.rs.length 0 0 0 0),I (zB5 b w b.rs.length 0 0 0 0)]):=by
 have kG:=hg.len
 have jD:=hg.cr
 obtain ⟨v,h',yM,N,rfl,rfl,hN,LB⟩:=f131b b w hg hw b.rs.length 0 0 0 0 0 [] (by omega) (by omega) (by omega) (by omega) (by omega) ⟨fun x hx=>by cases hx⟩
 unfold zS9 zJM at yM
 rw [List.nil_append] at yM
 refine zAi Try.f102 ?_
 refine zAc (zAa (zAe 4 (zAd (zAc (zAa (zAe 3 (zAd (zAc (zAa (zAe 1 (zAd (zAc (zAa (zAe 2 (zAd (zAc (zAa (zAe 1 (zAd (zAc (zAa (zAe 1 (zAd (zAc (zAa (zAe 2 (S_a [(6,.ret (I (zB5 b w b.rs.length 0 0 0 0)) ([(zBs b (zAg b)).ref.box,(PV.agg [PV.func 107 [(zBs b (zAg b)).ref] []]).box,(PV.omap (List.map zId N)).box,(PV.func 131 [] [PV.addr 50000000 [] 0 0 none,PV.addr 50000001 [] 0 0 (some 1),PV.addr 50000002 [] 0 0 none,PV.addr 50000003 [] 0 0 none]).box]))] (ap (yM) an) (zAe 2 (zAd (zAc (zAp 0 ?_)))))))))))))))))))))))))))))))
 generalize kN:zB5 b w b.rs.length 0 0 0 0=bad at *
 refine zBo (fun (i,f0,f1,f2,f3,o,Q)=>i≤b.rs.length∧(0≤f0∧f0≤1000*i)∧(0≤f1∧f1≤1000*i)∧(0≤f2∧f2≤1000*i)∧(0≤f3∧f3≤1000*i)∧EnsOk b w Q∧o.length=i∧zB5 b w (b.rs.length-i) f0 f1 f2 f3=bad∧o++zEK b w (b.rs.length-i) f0 f1 f2 f3=zEK b w b.rs.length 0 0 0 0) (fun (i,f0,f1,f2,f3,o,Q)=>[(6,.box (.omap (Q.map zId))),(8,.own 1 (o.map I)),(9,.box (fsV (i:Nat) f0 f1 f2 f3))]) (fun (i,_)=>b.rs.length-i) ((0:Nat),(0:Int),(0:Int),(0:Int),(0:Int),([]:List Int),N) ⟨Nat.zero_le _,by omega,by omega,by omega,by omega,hN,rfl,kN,rfl⟩ fun (i,f0,f1,f2,f3,o,Q) ⟨hi,h0,h1,h2,h3,hQ,ho,qh,hpp⟩=>?_
 by_cases hin:i<b.rs.length
 ·have jE:=zCA hg (i:=i) (by omega)
  have gz:=zEv jE.2.2 jE.2.1 hg.cr
  have hX:=zBx hg i
  obtain ⟨k,hk⟩:∃ k,b.rs.length-i=k+1:=⟨b.rs.length-i-1,by omega⟩
  obtain ⟨v,h',u7,N2,j,rfl,rfl,qA,hj,hjc⟩:=f118b b w hg hw LD k i f0 f1 f2 f3 Q (by omega) h0 h1 h2 h3 hQ
  rw [hk] at qh hpp
  have hc:=zBB jE.2.1 j hj
  have hfa:zB4 b (k+1)=(zAg b).getD i 0:=by unfold zB4;rw [show b.rs.length-(k+1)=i by omega]
  have hks:zB5 b w k (zB2 f0 ((b.rs.getD i default).may.getD j 0) 0 ((zAg b).getD i 0)) (zB2 f1 ((b.rs.getD i default).may.getD j 0) 1 ((zAg b).getD i 0)) (zB2 f2 ((b.rs.getD i default).may.getD j 0) 2 ((zAg b).getD i 0)) (zB2 f3 ((b.rs.getD i default).may.getD j 0) 3 ((zAg b).getD i 0))=bad:=by
   have kI:=(zJz hg LD (k:=k) (f0:=f0) (f1:=f1) (f2:=f2) (f3:=f3) (by omega) h0.1 h1.1 h2.1 h3.1).1
   rw [show b.rs.length-(k+1)=i by omega] at kI
   obtain ⟨q,hq,hqe⟩:=kI
   have qS:(b.rs.getD i default).may.find? (fun c=>decide (zEG b w k f0 f1 f2 f3 c=zB5 b w (k+1) f0 f1 f2 f3))≠none:=fun hn=>by
    have:=List.find?_eq_none.1 hn ((b.rs.getD i default).may.getD q 0) (by rw [zAK (show q<(b.rs.getD i default).may.length from hq)];exact List.getElem_mem _)
    exact this (decide_eq_true hqe)
   obtain ⟨c,hce⟩:=Option.ne_none_iff_exists'.1 qS
   have h5:=List.find?_some hce
   have h6:zFR b w k f0 f1 f2 f3=c:=by unfold zFR;rw [show b.rs.length-(k+1)=i by omega];exact congrArg (fun o:Option Int=>o.getD 0) hce
   rw [hjc,h6,← qh,← of_decide_eq_true h5]
   simp only [zEG,hfa]
  have uF:(o++[(b.rs.getD i default).may.getD j 0])++zEK b w k (zB2 f0 ((b.rs.getD i default).may.getD j 0) 0 ((zAg b).getD i 0)) (zB2 f1 ((b.rs.getD i default).may.getD j 0) 1 ((zAg b).getD i 0)) (zB2 f2 ((b.rs.getD i default).may.getD j 0) 2 ((zAg b).getD i 0)) (zB2 f3 ((b.rs.getD i default).may.getD j 0) 3 ((zAg b).getD i 0))=zEK b w b.rs.length 0 0 0 0:=by
   rw [← hpp,List.append_assoc,hjc];simp only [zEK,hfa];rfl
  have vr:b.rs.length-(i+1)=k:=by omega
  rw [qh] at u7
  unfold zTo zOQ at u7
  have hQN:EnsOk b w (Q++N2):=⟨fun x hx=>(List.mem_append.1 hx).elim (hQ.ok x) (qA.ok x)⟩
  have b0:=zDN (c:=(b.rs.getD i default).may.getD j 0) (k:=0) h0 hX
  have b1:=zDN (c:=(b.rs.getD i default).may.getD j 0) (k:=1) h1 hX
  have b2:=zDN (c:=(b.rs.getD i default).may.getD j 0) (k:=2) h2 hX
  have b3:=zDN (c:=(b.rs.getD i default).may.getD j 0) (k:=3) h3 hX
  clear hw LD yM hjc hpp kN hN LB
  refine zAc (zAc (zAa (zAe 7 (S_a [(0,.n (b.rs.length))] (ap ((by simp):some (List.map zBb b.rs).length=some b.rs.length) an) (zAe 1 (zAd (zFm ((↑i:Int)<(↑b.rs.length:Int)) (by omega) (zAx (zAp 1 (zAc (zAa (zAe 7 (S_a [(2,.v (PV.agg [I (b.rs.getD i default).w,I (b.rs.getD i default).s,PV.sl (List.map I (b.rs.getD i default).may)]))] (ap (zCG (default) (by omega):(List.map zBb b.rs)[i]? = some (PV.agg [I (b.rs.getD i default).w,I (b.rs.getD i default).s,PV.sl (List.map I (b.rs.getD i default).may)])) an) (zAe 3 (zAd (zAc (zAa (zAe 3 (S_a [(6,.ret (I (↑j:Int)) ([(PV.func 131 [] [PV.addr 50000001 [] 0 0 none,PV.addr 50000004 [] 0 0 (some 1),PV.addr 50000005 [] 0 0 none,PV.addr 50000000 [] 0 0 none]).box,(zBs b (zAg b)).ref.box,(fsV (↑i:Int) f0 f1 f2 f3).box,(I bad).box,(PV.agg [PV.func 107 [(zBs b (zAg b)).ref] []]).box,(PV.omap (List.map zId (Q++N2))).box]))] (ap (u7) an) (S_a [(2,.v (I ((b.rs.getD i default).may.getD j 0)))] (ap (zCG (0) (by omega):(List.map I (b.rs.getD i default).may)[j]? = some (I ((b.rs.getD i default).may.getD j 0))) an) (zAe 2 (zAd (zAa (zAe 3 (S_a [(4,.ob),(0,.ob),(0,.yes),(2,.v (PV.own 1 (List.map I (o++[(b.rs.getD i default).may.getD j 0]))))] (ap ((by exact zAL (by simp only [List.length_map,zzLn,zAI]<;>omega)):(0+(List.map I o).length).ble (List.map I o).length=true) (ap ((by exact zAL (by simp only [List.length_map,zzLn,zAI]<;>omega)):((List.map I o).length + [I ((b.rs.getD i default).may.getD j 0)].length).ble zAI=true) (ap ((by exact zB0 (by simp<;>omega)):(0+(List.map I o).length).beq (List.map I o).length=true) (ap ((by simp):PV.own 1 (List.map I o++[I ((b.rs.getD i default).may.getD j 0)])=PV.own 1 (List.map I (o++[(b.rs.getD i default).may.getD j 0]))) an)))) (zAe 3 (S_a [(9,.ret (fsV (↑(i+1):Int) (zB2 f0 ((b.rs.getD i default).may.getD j 0) 0 ((zAg b).getD i 0)) (zB2 f1 ((b.rs.getD i default).may.getD j 0) 1 ((zAg b).getD i 0)) (zB2 f2 ((b.rs.getD i default).may.getD j 0) 2 ((zAg b).getD i 0)) (zB2 f3 ((b.rs.getD i default).may.getD j 0) 3 ((zAg b).getD i 0))) ([]))] (ap (f132 (b) (i) (f0) (f1) (f2) (f3) ((b.rs.getD i default).may.getD j 0) (by omega) (by omega) (by omega) (by omega) (by omega) (by omega) (by omega)) an) (zAe 2 (zAd ?_)))))))))))))))))))))))))))))
  exact ⟨(i+1,zB2 f0 ((b.rs.getD i default).may.getD j 0) 0 ((zAg b).getD i 0),zB2 f1 ((b.rs.getD i default).may.getD j 0) 1 ((zAg b).getD i 0),zB2 f2 ((b.rs.getD i default).may.getD j 0) 2 ((zAg b).getD i 0),zB2 f3 ((b.rs.getD i default).may.getD j 0) 3 ((zAg b).getD i 0),o++[(b.rs.getD i default).may.getD j 0],Q++N2),⟨by omega,b0,b1,b2,b3,hQN,by simp [ho],by rw [vr];exact hks,by rw [vr];exact uF⟩,by simp only;omega,by kernel_rfl,by kernel_rfl⟩
 ·have e:b.rs.length-i=0:=by omega
  rw [e] at hpp
  have hoe:o=zEK b w b.rs.length 0 0 0 0:=by rw [← hpp];exact (List.append_nil o).symm
  clear hw LD yM
  refine zAc (zAc (zAa (zAe 7 (S_a [(0,.n (b.rs.length))] (ap ((by simp):some (List.map zBb b.rs).length=some b.rs.length) an) (zAe 1 (zAd (zEo ((↑i:Int)<(↑b.rs.length:Int)) (by omega) (zBM 0 (zAc (zAa (zAe 2 (S_a [(2,.yes)] (ap ((by exact zB0 (by simp<;>omega)):(Nat.beq 0 0&&(List.map I o).length.beq (List.map I o).length)=true) an) (zAe 1 (zAd (zAJ (E_a [(1,.yes),(1,.v (PV.own 1 (List.map I o)))] (ap ((by exact zAL (by simp only [List.length_map,zzLn,zAI]<;>omega)):(0+(List.map I o).length).ble (List.map I o).length=true) (ap ((zFc zDb):PV.own 1 (List.take (List.map I o).length (List.drop 0 (List.map I o)))=PV.own 1 (List.map I o)) an)) (PV.tup [PV.own 1 (List.map I o),I bad]) ([]) (by simp [*]) rfl))))))))))))))))
def zA7 (b:Dk) (f0 f1 f2 f3:Int):Int:=zBI ([f0,f1,f2,f3].take b.cr.toNat)-zCc ([f0,f1,f2,f3].take b.cr.toNat)
omit [Yo] in
theorem zEX:∀ (l:List Int) (m:Int),m≤l.foldl (fun m x=>if x>m then x else m) m
 | [],m=>Int.le_refl _
 | x::l,m=>by
  simp only [List.foldl_cons]
  by_cases h:x>m
  ·rw [if_pos h];have:=zEX l x;omega
  ·rw [if_neg h];exact zEX l m
omit [Yo] in
theorem zHz:∀ (l:List Int) (m:Int),l.foldl (fun m x=>if x<m then x else m) m≤m
 | [],m=>Int.le_refl _
 | x::l,m=>by
  simp only [List.foldl_cons]
  by_cases h:x<m
  ·rw [if_pos h];have:=zHz l x;omega
  ·rw [if_neg h];exact zHz l m
omit [Yo] in
theorem zLQ {b:Dk} (hg:Good b) (f0 f1 f2 f3:Int) (_:0≤f0) (_:0≤f1) (_:0≤f2) (_:0≤f3):0≤zA7 b f0 f1 f2 f3:=by
 have h1:=zEX ([f0,f1,f2,f3].take b.cr.toNat).tail (([f0,f1,f2,f3].take b.cr.toNat).getD 0 0)
 have h3:=zHz ([f0,f1,f2,f3].take b.cr.toNat).tail (([f0,f1,f2,f3].take b.cr.toNat).getD 0 0)
 unfold zA7 zBI zCc
 omega
def zEz (b:Dk) (w:Int→Int→Int→Int→Int):List Int:=if zBc b=0 then zEK b w b.rs.length 0 0 0 0 else []
def zIc (b:Dk) (w:Int→Int→Int→Int→Int):Int:=if zBc b=0 then zB5 b w b.rs.length 0 0 0 0 else 0
theorem f43 (b:Dk) (hb:zGe b):FG 43 [zEZ b] (.tup [zVK (zEz b (zA7 b)),I (zIc b (zA7 b)),I (zBc b)]):=by
 by_cases h:zBc b=0
 ·have hg:=zBl h
  have h102:=f102b b (zA7 b) hg (fun f0 f1 f2 f3 h0 h1 h2 h3=>f107 b (zAg b) [f0,f1,f2,f3] rfl (fun x hx=>by simp only [List.mem_cons,List.not_mem_nil,or_false] at hx;omega) hg.cr) (zLQ hg)
  have e1:zEz b (zA7 b)=zEK b (zA7 b) b.rs.length 0 0 0 0:=by simp only [zEz,h,if_true]
  have e2:zIc b (zA7 b)=zB5 b (zA7 b) b.rs.length 0 0 0 0:=by simp only [zIc,h,if_true]
  rw [← e1,← e2] at h102
  rw [h]
  refine zAi Try.f43 ?_
  refine zAc (zAa (zAe 4 (zAd (zAc (zAa (zAe 1 (S_a [(6,.ret (PV.tup [(zBs b (zAg b)).ref,I 0]) ([]))] (ap (f101_1 (b) (by omega) (by omega)) an) (zAe 5 (zAd (zAc (zAc (zAa (zAe 2 (zAd (zBE (zAx (zAc (zAa (zAe 4 (S_a [(7,.ret (PV.tup [zVK (zEz b (zA7 b)),I (zIc b (zA7 b))]) ([]))] (ap (h102) an) (zAe 5 (zAd (zAc (zAa (zAe 2 (S_a [(2,.yes)] (ap ((by exact zB0 (by simp<;>omega)):(Nat.beq 0 0&&(List.map I (zEz b (zA7 b))).length.beq (List.map I (zEz b (zA7 b))).length)=true) an) (zAe 2 (zAd (zAJ (E_a [(1,.yes),(1,.v (PV.own 1 (List.map I (zEz b (zA7 b)))))] (ap ((by exact zAL (by simp only [List.length_map,zzLn,zAI]<;>omega)):(0+(List.map I (zEz b (zA7 b))).length).ble (List.map I (zEz b (zA7 b))).length=true) (ap ((zFc zDb):PV.own 1 (List.take (List.map I (zEz b (zA7 b))).length (List.drop 0 (List.map I (zEz b (zA7 b)))))=PV.own 1 (List.map I (zEz b (zA7 b)))) an)) (PV.tup [PV.own 1 (List.map I (zEz b (zA7 b))),I (zIc b (zA7 b)),I 0]) ([]) rfl rfl))))))))))))))))))))))))))))))
 ·have e1:zEz b (zA7 b)=[]:=by simp only [zEz,h,if_false]
  have e2:zIc b (zA7 b)=0:=by simp only [zIc,h,if_false]
  rw [e1,e2]
  refine zAi Try.f43 ?_
  refine zAc (zAa (zAe 4 (zAd (zAc (zAa (zAe 1 (S_a [(6,.ret (PV.tup [PV.nilp,I (zBc b)]) ([]))] (ap (f101_2 (b) (by omega) (by omega)) an) (zAe 5 (zAd (zAc (zAc (zAa (zAe 2 (zAd (zGI (zBc b=0) (by omega) (zAc (zAa (zAe 4 (zAd (zAJ (E_a [] an (PV.tup [PV.own 1 [],I 0,I (zBc b)]) ([]) rfl rfl)))))))))))))))))))))
end
end Go.Eng
set_option maxRecDepth 10000
namespace Go.Eng
open Go Go.Proofs
def shN (b:Dk):Nat→List (List Int)
 | 0=>[[]]
 | k+1=>(rnd b (b.rs.length-(k+1))).may.flatMap fun c=>(shN b k).map (c::·)
def zPf (b:Dk) (w:Int→Int→Int→Int→Int):Nat→Int→Int→Int→Int→List Int→Int
 | k+1,f0,f1,f2,f3,c::l=>zPf b w k (zB2 f0 c 0 (zB4 b (k+1))) (zB2 f1 c 1 (zB4 b (k+1))) (zB2 f2 c 2 (zB4 b (k+1))) (zB2 f3 c 3 (zB4 b (k+1))) l
 | _,f0,f1,f2,f3,_=>w f0 f1 f2 f3
def zRQ (V:List Int→Int) (L:List (List Int)) (x:List Int):Prop:=∃ A B,L=A++x::B∧(∀ y∈A,V x<V y)∧∀ y∈B,V x≤V y
theorem zKb {b:Dk} {w:Int→Int→Int→Int→Int} (hg:Good b) (hw:∀ f0 f1 f2 f3:Int,0≤f0→0≤f1→0≤f2→0≤f3→0≤w f0 f1 f2 f3):∀ (k:Nat) (f0 f1 f2 f3:Int),k≤b.rs.length→0≤f0→0≤f1→0≤f2→0≤f3 →
  zRQ (zPf b w k f0 f1 f2 f3) (shN b k) (zEK b w k f0 f1 f2 f3)∧zPf b w k f0 f1 f2 f3 (zEK b w k f0 f1 f2 f3)=zB5 b w k f0 f1 f2 f3∧∀ l∈shN b k,zB5 b w k f0 f1 f2 f3≤zPf b w k f0 f1 f2 f3 l
 | 0,f0,f1,f2,f3,_,_,_,_,_=>by
  refine ⟨⟨[],[],rfl,fun y hy=>(by cases hy),fun y hy=>(by cases hy)⟩,rfl,fun l hl=>?_⟩
  simp only [shN,List.mem_singleton] at hl
  subst hl
  exact Int.le_refl _
 | k + 1,f0,f1,f2,f3,hk,h0,h1,h2,h3=>by
  have hX:=zBx hg (b.rs.length-(k+1))
  have hb:∀ f c q:Int,0≤f→0≤zB2 f c q (zB4 b (k+1)):=fun f c q hf=>by unfold zB2 zB4;split<;>omega
  have ih:=fun c:Int=>zKb hg hw k (zB2 f0 c 0 (zB4 b (k+1))) (zB2 f1 c 1 (zB4 b (k+1))) (zB2 f2 c 2 (zB4 b (k+1))) (zB2 f3 c 3 (zB4 b (k+1))) (by omega) (hb _ _ _ h0) (hb _ _ _ h1) (hb _ _ _ h2) (hb _ _ _ h3)
  obtain ⟨⟨j,hj,hje⟩,yK⟩:=zJz hg hw (k:=k) hk h0 h1 h2 h3
  have qS:(rnd b (b.rs.length-(k+1))).may.find? (fun c=>decide (zEG b w k f0 f1 f2 f3 c=zB5 b w (k+1) f0 f1 f2 f3))≠none:=fun hn=>by
   have:=List.find?_eq_none.1 hn ((rnd b (b.rs.length-(k+1))).may.getD j 0) (by rw [zAK hj];exact List.getElem_mem _)
   exact this (decide_eq_true hje)
  obtain ⟨c,hc⟩:=Option.ne_none_iff_exists'.1 qS
  have hfc:zFR b w k f0 f1 f2 f3=c:=congrArg (fun o:Option Int=>o.getD 0) hc
  obtain ⟨hp,C1,C2,hC,hC1⟩:=List.find?_eq_some_iff_append.1 hc
  have hp:=of_decide_eq_true hp
  have jI:∀ l∈shN b (k+1),zB5 b w (k+1) f0 f1 f2 f3≤zPf b w (k+1) f0 f1 f2 f3 l:=fun l hl=>by
   simp only [shN,List.mem_flatMap,List.mem_map] at hl
   obtain ⟨c',yg,l',vG,rfl⟩:=hl
   exact Int.le_trans (yK c' yg) ((ih c').2.2 l' vG)
  have u6:zPf b w (k+1) f0 f1 f2 f3 (zEK b w (k+1) f0 f1 f2 f3)=zB5 b w (k+1) f0 f1 f2 f3:=by
   rw [← hp,zEK,hfc];exact (ih c).2.1
  refine ⟨?_,u6,jI⟩
  obtain ⟨A,B,e,g1,g2⟩:=(ih c).1
  have hbp:zEK b w (k+1) f0 f1 f2 f3=c::zEK b w k (zB2 f0 c 0 (zB4 b (k+1))) (zB2 f1 c 1 (zB4 b (k+1))) (zB2 f2 c 2 (zB4 b (k+1))) (zB2 f3 c 3 (zB4 b (k+1))):=by rw [zEK,hfc]
  have jU:shN b (k+1)=(C1.flatMap fun c=>(shN b k).map (c::·))++(A.map (c::·))++zEK b w (k+1) f0 f1 f2 f3::(B.map (c::·)++C2.flatMap fun c=>(shN b k).map (c::·)):=by
   rw [hbp]
   simp only [shN]
   rw [hC,List.flatMap_append,List.flatMap_cons,e]
   simp only [List.map_append,List.map_cons,List.append_assoc,List.cons_append,List.nil_append]
  refine ⟨_,_,jU,fun y hy=>?_,fun y hy=>?_⟩
  ·rw [u6]
   rcases List.mem_append.1 hy with hy | hy
   ·obtain ⟨c',yg,hy⟩:=List.mem_flatMap.1 hy
    obtain ⟨l',vG,rfl⟩:=List.mem_map.1 hy
    have h5:=yK c' (by rw [hC];simp [yg])
    have h6:=hC1 c' yg
    simp only [Bool.not_eq_true',decide_eq_false_iff_not] at h6
    have h7:zEG b w k f0 f1 f2 f3 c'≤zPf b w (k+1) f0 f1 f2 f3 (c'::l'):=(ih c').2.2 l' vG
    omega
   ·obtain ⟨l',vG,rfl⟩:=List.mem_map.1 hy
    have h5:=g1 l' vG
    rw [(ih c).2.1] at h5
    have h6:zEG b w k f0 f1 f2 f3 c<zPf b w (k+1) f0 f1 f2 f3 (c::l'):=h5
    omega
  ·rw [u6]
   apply jI
   rw [jU]
   simp only [List.mem_append,List.mem_cons] at hy ⊢
   exact .inr (.inr hy)
theorem zPA {b:Dk}:∀ {k:Nat} {l:List Int},k≤b.rs.length→l∈shN b k→l.length=k∧∀ j,j<k→l.getD j 0∈(rnd b (b.rs.length-k+j)).may
 | 0,l,_,h=>by simp only [shN,List.mem_singleton] at h;subst h;exact ⟨rfl,fun j hj=>absurd hj (Nat.not_lt_zero _)⟩
 | k + 1,l,hk,h=>by
  simp only [shN,List.mem_flatMap,List.mem_map] at h
  obtain ⟨c,hc,l',vG,rfl⟩:=h
  obtain ⟨g1,g2⟩:=zPA (by omega) vG
  refine ⟨by simp [g1],fun j hj=>?_⟩
  cases j with
  | zero=>exact hc
  | succ j =>
   have:=g2 j (by omega)
   rw [show b.rs.length-(k+1)+(j+1)=b.rs.length-k+j by omega]
   exact this
theorem zUO {b:Dk} (hg:Good b) {l:List Int} (h:l∈shN b b.rs.length):ShareOk b l:=by
 obtain ⟨h1,h2⟩:=zPA (Nat.le_refl _) h
 have hm:∀ r,r<l.length→l.getD r 0∈(rnd b r).may:=fun r hr=>by
  have:=h2 r (by omega)
  rwa [show b.rs.length-b.rs.length+r=r by omega] at this
 refine ⟨zGS hg,h1,fun x hx=>?_,zIh fun r hr=>?_⟩
 ·obtain ⟨r,hr,rfl⟩:=List.getElem_of_mem hx
  have:=hm r hr
  rw [zAK hr] at this
  exact (zCA hg (i:=r) (by omega)).2.1 _ this
 ·simp only [has,List.any_eq_true,decide_eq_true_eq]
  exact ⟨_,hm r hr,rfl⟩
theorem zN2 {b:Dk} {w:Int→Int→Int→Int→Int} (hg:Good b) {l:List Int} (hl:l.length=b.rs.length):∀ k,k≤b.rs.length→zPf b w k (zB3 b l 0 (b.rs.length-k)) (zB3 b l 1 (b.rs.length-k)) (zB3 b l 2 (b.rs.length-k)) (zB3 b l 3 (b.rs.length-k)) (l.drop (b.rs.length-k))=w (zB3 b l 0 b.rs.length) (zB3 b l 1 b.rs.length) (zB3 b l 2 b.rs.length) (zB3 b l 3 b.rs.length)
 | 0,_=>by simp only [Nat.sub_zero,zPf]
 | k + 1,hk=>by
  have ih:=zN2 (w:=w) hg hl k (by omega)
  have hr:b.rs.length-(k+1)<l.length:=by omega
  have e:b.rs.length-k=b.rs.length-(k+1)+1:=by omega
  rw [List.drop_eq_getElem_cons hr,zPf,← ih]
  have hf:zB4 b (k+1)=zBW b (rnd b (b.rs.length-(k+1))):=zEM (by omega)
  have gU:∀ q:Int,zB2 (zB3 b l q (b.rs.length-(k+1))) l[b.rs.length-(k+1)] q (zB4 b (k+1))=zB3 b l q (b.rs.length-k):=fun q=>by
   rw [e,zB3,zAK hr,hf];rfl
  rw [gU 0,gU 1,gU 2,gU 3,← e]
theorem zQs {b:Dk} {l:List Int} (hs:ShareOk b l):zAj b l=[zB3 b l 0 b.rs.length,zB3 b l 1 b.rs.length,zB3 b l 2 b.rs.length,zB3 b l 3 b.rs.length].take b.cr.toNat:=by
 have jD:=(zBl hs.box).cr
 rw [zIS hs,hs.len]
 have:b.cr.toNat=1∨b.cr.toNat=2∨b.cr.toNat=3∨b.cr.toNat=4:=by omega
 rcases this with h | h | h | h<;>rw [h]<;>rfl
theorem zQv {b:Dk} {w:Int→Int→Int→Int→Int} {l:List Int} (hs:ShareOk b l):zPf b w b.rs.length 0 0 0 0 l=w (zB3 b l 0 b.rs.length) (zB3 b l 1 b.rs.length) (zB3 b l 2 b.rs.length) (zB3 b l 3 b.rs.length):=by
 have:=zN2 (w:=w) (zBl hs.box) hs.len b.rs.length (Nat.le_refl _)
 rw [Nat.sub_self] at this
 exact this
end Go.Eng
set_option maxRecDepth 10000
set_option maxHeartbeats 4000000
namespace Go.Eng
open Go Go.Proofs
section
variable [Yo]
end
end Go.Eng
namespace Go.Eng
def zDO (g:Nat→Int) (l:List Int) (c:Int):Nat→Int
 | 0=>0
 | n+1=>if l.getD n 0=c then zDO g l c n+g n else zDO g l c n
theorem zEP {g:Nat→Int} {l:List Int} {r:Nat} (hr:r<l.length) (v c:Int):∀ n,zDO g (l.set r v) c n=zDO g l c n-(if r<n∧l.getD r 0=c then g r else 0)+(if r<n∧v=c then g r else 0)
 | 0=>by simp [zDO]
 | n + 1=>by
  have ih:=zEP (g:=g) hr v c n
  simp only [zDO,zGU]
  by_cases h:r=n
  ·subst h
   have e1:(r=r∧r<l.length):=⟨rfl,hr⟩
   rw [if_pos e1]
   simp only [Nat.lt_irrefl,false_and,if_false,Nat.lt_succ_self,true_and] at ih ⊢
   repeat' split
   all_goals omega
  ·have e1:¬ (r=n∧n<l.length):=fun h'=>h h'.1
   rw [if_neg e1]
   have e2:r<n+1↔r<n:=by omega
   simp only [e2]
   repeat' split
   all_goals omega
theorem zKY {g:Nat→Int} {l:List Int} {c B:Int} (hg:∀ r,0≤g r∧g r≤B):∀ n:Nat,0≤zDO g l c n∧zDO g l c n≤B*n
 | 0=>by simp [zDO]
 | n+1=>by
  have ih:=zKY (l:=l) (c:=c) hg n
  have h1:=hg n
  have h2:B*((n+1:Nat):Int)=B*n+B:=by rw [Int.natCast_add,Int.mul_add];simp
  simp only [zDO];split<;>omega
theorem zIy {g:Nat→Int} {l:List Int} {c:Int}:∀ n:Nat,zDO (fun r=>16*g r+1) l c n=16*zDO g l c n+zDO (fun _=>1) l c n
 | 0=>by simp [zDO]
 | n+1=>by
  have ih:=zIy (g:=g) (l:=l) (c:=c) n
  simp only [zDO];split<;>omega
theorem zIP {b:Dk} {l:List Int} {c:Int}:∀ n,zB3 b l c n=zDO (fun r=>zBW b (rnd b r)) l c n
 | 0=>rfl
 | n+1=>by simp only [zB3,zDO,zIP n]
theorem zUF {a b x:Int} (hx:1≤x) (h:a+x<b):(a+x)*(a+x)+(b-x)*(b-x)<a*a+b*b:=by
 have h1:0<x*(b-a-x):=Int.mul_pos (by omega) (by omega)
 have e1:x*(b-a-x)=x*b-x*a-x*x:=by rw [Int.mul_sub,Int.mul_sub]
 have e2:(a+x)*(a+x)=a*a+2*(x*a)+x*x:=by rw [Int.add_mul,Int.mul_add,Int.mul_add,Int.mul_comm a x];omega
 have e3:(b-x)*(b-x)=b*b-2*(x*b)+x*x:=by rw [Int.sub_mul,Int.mul_sub,Int.mul_sub,Int.mul_comm b x];omega
 omega
def sq (x:Int):Int:=x*x
def zMZ (E:Int→Int):Int:=sq (E 0)+sq (E 1)+sq (E 2)+sq (E 3)
theorem zQr {E E':Int→Int} {f t x:Int} (hf:0≤f∧f<4) (ht:0≤t∧t<4) (hft:f≠t) (hx:1≤x) (h:E t+x<E f) (h1:E' t=E t+x) (h2:E' f=E f-x) (h3:∀ c,c≠t→c≠f→E' c=E c):zMZ E'<zMZ E:=by
 have hd:=zUF hx h
 rw [← h1,← h2] at hd
 have gL:=h3 0
 have jX:=h3 1
 have jF:=h3 2
 have vT:=h3 3
 clear h3 h1 h2 h
 obtain rfl | rfl | rfl | rfl:f=0∨f=1∨f=2∨f=3:=by omega
 all_goals obtain rfl | rfl | rfl | rfl:t=0∨t=1∨t=2∨t=3:=by omega
 all_goals first | exact absurd rfl hft | skip
 all_goals unfold zMZ sq
 all_goals simp at gL jX jF vT
 all_goals simp only [*] at *
 all_goals omega
def zUt (b:Dk) (l:List Int):Int:=zMZ fun c=>zDO (fun r=>16*zBW b (rnd b r)+1) l c l.length
theorem zRM {b:Dk} {l:List Int} {r:Nat} {t:Int} (hg:∀ r,0≤zBW b (rnd b r)) (hl:l.length≤7) (hr:r<l.length) (hx:∀ x∈l,0≤x∧x<4) (ht:0≤t∧t<4) (hH:t≠l.getD r 0) (h:zB3 b l t l.length+zBW b (rnd b r)<zB3 b l (l.getD r 0) l.length):zUt b (l.set r t)<zUt b l:=by
 have hf:=zBB hx r hr
 rw [zIP,zIP] at h
 have yI:∀ c,0≤zDO (fun _=>1) l c l.length∧zDO (fun _=>1) l c l.length≤1*(l.length:Int):=fun c=>zKY (fun _=>by omega) _
 unfold zUt
 rw [List.length_set]
 refine zQr (f:=l.getD r 0) (t:=t) (x:=16*zBW b (rnd b r)+1) hf ht (fun h=>hH h.symm) (by have:=hg r;omega) ?_ ?_ ?_ ?_
 ·show zDO _ l t _+_<zDO _ l (l.getD r 0) _
  rw [zIy,zIy]
  have h1:=yI t
  have h2:=yI (l.getD r 0)
  omega
 ·show zDO _ (l.set r t) t _=_
  rw [zEP hr,if_neg (fun h=>hH h.2.symm),if_pos ⟨hr,rfl⟩];omega
 ·show zDO _ (l.set r t) (l.getD r 0) _=_
  rw [zEP hr,if_pos ⟨hr,rfl⟩,if_neg (fun h=>hH h.2)];omega
 ·intro c h1 h2
  show zDO _ (l.set r t) c _=_
  rw [zEP hr,if_neg (fun h=>h2 h.2.symm),if_neg (fun h=>h1 h.2.symm)];omega
theorem zRK {E:Int→Int} (h:∀ c,0≤E c∧E c≤1000000):0≤zMZ E∧zMZ E≤4000000000000:=by
 have h1:∀ c,0≤E c*E c∧E c*E c≤1000000*1000000:=fun c=>⟨Int.mul_nonneg (h c).1 (h c).1,Int.mul_le_mul (h c).2 (h c).2 (h c).1 (by omega)⟩
 have a0:=h1 0
 have a1:=h1 1
 have a2:=h1 2
 have a3:=h1 3
 unfold zMZ sq;omega
theorem zQq {b:Dk} {l:List Int} (hg:∀ r,0≤zBW b (rnd b r)∧zBW b (rnd b r)≤1000) (hl:l.length≤7):0≤zUt b l∧zUt b l≤4000000000000:=by
 refine zRK fun c=>?_
 have:=zKY (l:=l) (c:=c) (g:=fun r=>16*zBW b (rnd b r)+1) (B:=16001) (fun r=>by have:=hg r;omega) l.length
 omega
def pot (b:Dk) (l:List Int):Nat:=(zUt b l).toNat
end Go.Eng
set_option maxRecDepth 10000
set_option maxHeartbeats 4000000
namespace Go.Eng
open Go Go.Proofs
theorem zC8 {b:Dk} {s:List Int} (h:ShareOk b s):zAG b s=0:=by
 have h2:(!s.all (fun x=>decide (0≤x)&&decide (x≤b.cr-1)))=false:=by
  simp only [Bool.not_eq_false',List.all_eq_true]
  intro x hx;have:=h.rng x hx;simp;omega
 simp only [zAG,h.box,h.len,h2,h.may,if_true];rfl
def zMj (b:Dk) (s:List Int):List Int:=zFl (zAg b) s s.length
theorem zGO {b:Dk} {s:List Int} (hs:ShareOk b s):∀ x∈s,0≤x∧x<4:=fun x hx=>by
 have:=(zBl hs.box).cr
 have:=hs.rng x hx
 omega
theorem zMI {b:Dk} {s:List Int} (hs:ShareOk b s) {c:Nat} (hc:c<4):(zMj b s).getD c 0=zB3 b s c s.length:=zJc (zGO hs) s.length (Nat.le_refl _) (by rw [hs.len];exact Nat.le_refl _) c hc
theorem zVP {b:Dk} {s:List Int} (hs:ShareOk b s) (jc:zGe b):MvOk b (zAg b) (zMj b s) s:=by
 have hg:=zBl hs.box
 have jD:=hg.cr
 have hO:=hg.len
 have jK:=hs.len
 refine ⟨jc,by omega,zDe _,zCb,hs.len,zGO hs,fun i=>?_,fun i=>?_⟩
 ·have:=zGs (zAk:=s) (zBx hg) s.length i
  unfold zMj;omega
 ·have:=zBx hg i;omega
def zRu (b:Dk) (l:List Int):List (Nat×Nat):=if zAG b l=0 then mvs b (zAg b) (zMj b l) l l.length else []
theorem zJt {b:Dk} {l:List Int} {r:Nat} (hr:r<l.length) {c:Int} (hc:c≠l.getD r 0):zB3 b (l.set r c) c l.length=zB3 b l c l.length+zBW b (rnd b r):=by
 rw [zIP,zIP,zEP hr,if_neg (fun h=>hc h.2.symm),if_pos ⟨hr,rfl⟩];omega
theorem zLh {b:Dk} {s:List Int} (hs:ShareOk b s) {r t:Nat} (hr:r<s.length) (ht:(t:Int)<b.cr):zNc b (zAg b) (zMj b s) s r t=(decide ((t:Int)≠s.getD r 0)&&(has (rnd b r).may t&&decide (zB3 b (s.set r t) t s.length<zB3 b s (s.getD r 0) s.length))):=by
 have jD:=(zBl hs.box).cr
 have hx:=zBB (zGO hs) r hr
 have jK:=hs.len
 unfold zNc
 by_cases hH:(t:Int)≠s.getD r 0
 ·rw [zJt hr hH,zMI hs (by omega),zMI hs (by omega),zEM (by omega),Int.toNat_of_nonneg hx.1];rfl
 ·simp only [hH,decide_false,Bool.false_and]
section
variable [Yo]
theorem f93_2 (b:Dk) (fee zAk:List Int) (h1:∀ x∈zAk,0≤x∧x<4) (h2:∀ i,0≤fee.getD i 0∧fee.getD i 0≤1000) (h3:zAk.length≤1000) (h4:zAk.length=fee.length):zBm Try.prog zAq 93 [.ref (zBs b fee),.bor 50000000 [(0,0)] 1 0 zAk.length] [.box (.own 1 (zAk.map I))] (.func 130 [] (.ref (.bor 50000000 [(0,0)] 1 0 zAk.length)::(zFp b fee (zFl fee zAk zAk.length) []).tail)) [.box (.own 1 (zAk.map I))]:=by
 have h90:=f90 b fee zAk h1 h2 h3 h4
 obtain ⟨x0,x1,x2,x3,hx⟩:=zFE (zDe (fee:=fee) (zAk:=zAk) zAk.length)
 rw [hx] at h90 ⊢
 have h90:FG 90 [.ref (zBs b fee),zCm zAk] (.agg [I x0,I x1,I x2,I x3]):=h90
 refine zAi Try.f93 ?_
 refine zAc (zAa (zAe 3 (zAd (zAc (zAa (zAe 3 (zAe 1 (S_a [(4,.ob),(0,.v (PV.sl (List.map I zAk))),(2,.ret (PV.agg (List.map I [x0,x1,x2,x3])) ([]))] (ap ((by exact zAL (by simp only [List.length_map,zzLn,zAI]<;>omega)):(0+zAk.length).ble (List.map I zAk).length=true) (ap ((zCj (zD4 (by simp [zDg]) (zA6 _))):PV.sl (zAo (List.take zAk.length (List.drop 0 (List.map I zAk))))=PV.sl (List.map I zAk)) (ap (h90) an))) (zAe 4 (zAd (zAc (zAa (zAe 2 (zAd (zAJ (E_a [] an (PV.func 130 [] [(PV.bor 50000000 [(0,0)] 1 0 zAk.length).ref,(PV.agg [I b.cr,I b.wd,I b.st,I b.fn,PV.sl (List.map zBb b.rs),PV.sl (List.map I fee)]).ref.ref,(PV.func 98 [(PV.agg [I b.cr,I b.wd,I b.st,I b.fn,PV.sl (List.map zBb b.rs),PV.sl (List.map I fee)]).ref] []).ref,(PV.agg [I x0,I x1,I x2,I x3]).ref]) ([(PV.own 1 (List.map I zAk)).box]) rfl rfl))))))))))))))))
end
end Go.Eng
set_option maxRecDepth 10000
set_option maxHeartbeats 4000000
namespace Go.Eng
open Go Go.Proofs
structure FinedOk (b:Dk) (s late:List Int) (n:Nat) (got less:List Int):Prop where
 err:zB1 b s late=0
 ge:zAr b s late=got
 le:zCR b s late=less.sum
 gl:got.length=n
 ll:less.length=n
 at_:∀ c,c<n→0≤(zAj b s).getD c 0∧(zAj b s).getD c 0≤1000000∧0≤less.getD c 0∧less.getD c 0=min ((zAj b s).getD c 0) (b.fn*late.getD c 0)∧got.getD c 0=(zAj b s).getD c 0-less.getD c 0
theorem zGT {b:Dk} {s:List Int} (hs:ShareOk b s):(zAj b s).length=b.cr.toNat:=by
 have:=(zBl hs.box).cr
 rw [zIS hs];simp
theorem zVi {b:Dk} {s late:List Int} (hs:ShareOk b s) (hl:(late.length:Int)=b.cr) (hr:∀ x∈late,0≤x∧x≤60):∃ got less,FinedOk b s late b.cr.toNat got less:=by
 have hg:=zBl hs.box
 have jD:=hg.cr
 have kD:=hg.fn
 have jK:=hs.len
 have kG:=hg.len
 have yx:(!late.all (fun x=>decide (0≤x)&&decide (x≤60)))=false:=by
  simp only [Bool.not_eq_false',List.all_eq_true]
  intro x hx;have:=hr x hx;simp;omega
 have e:zB1 b s late=0:=by simp only [zB1,zC8 hs,hl,yx,if_true];rfl
 have hf:zAj b s=(zFl (zAg b) s s.length).take b.cr.toNat:=by simp only [zAj,zC8 hs,if_true]
 refine ⟨zQl b (zFl (zAg b) s s.length) late b.cr.toNat,zIN b (zFl (zAg b) s s.length) late b.cr.toNat,e,by simp only [zAr,e,if_true],by simp only [zCR,e,if_true],by simp [zQl],by simp [zIN],fun c hc=>?_⟩
 have h1:(zAj b s).getD c 0=(zFl (zAg b) s s.length).getD c 0:=by rw [hf,zLA hc]
 have hbd:=zGs (zAk:=s) (zBx hg) s.length c
 have h2:(zIN b (zFl (zAg b) s s.length) late b.cr.toNat).getD c 0=zJQ b (zFl (zAg b) s s.length) late c:=by simp [zIN,List.getD_eq_getElem?_getD,hc]
 have h3:(zQl b (zFl (zAg b) s s.length) late b.cr.toNat).getD c 0=(zFl (zAg b) s s.length).getD c 0-zJQ b (zFl (zAg b) s s.length) late c:=by simp [zQl,List.getD_eq_getElem?_getD,hc]
 have h4:=zBB hr c (by omega)
 have h5:=Int.mul_nonneg kD.1 h4.1
 rw [h1,h2,h3]
 unfold zJQ zUA
 refine ⟨hbd.1,by omega,?_,?_,rfl⟩
 ·split<;>omega
 ·split<;>omega
theorem zSn {l:List Int} {i:Nat} (h:i<l.length):(l.drop i).sum=l.getD i 0+(l.drop (i+1)).sum:=by
 rw [List.drop_eq_getElem_cons h,zAK h,List.sum_cons]
theorem zMS {l:List Int} {B:Int} (h:∀ c,c<l.length→0≤l.getD c 0∧l.getD c 0≤B) (hB:0≤B) (i:Nat):0≤(l.drop i).sum∧(l.drop i).sum≤B*l.length:=by
 have h1:∀ x∈l.drop i,0≤x∧x≤B:=fun x hx=>by
  obtain ⟨j,hj,rfl⟩:=List.getElem_of_mem (List.mem_of_mem_drop hx)
  have:=h j hj;rwa [zAK hj] at this
 have h2:=zTk (B:=B) (l:=l.drop i) fun x hx=>by have:=h1 x hx;omega
 have h3:=zUY fun x hx=>(h1 x hx).1
 have h4:B*((l.drop i).length:Int)≤B*l.length:=Int.mul_le_mul_of_nonneg_left (by simp) hB
 omega
theorem f4 (nums tries mins:List Int) (which:Int) (h1:nums.length<9223372036854775808) (h2:tries.length<9223372036854775808) (h3:mins.length<9223372036854775808) (hw:0≤which∧which≤255):FG 4 [.sl (nums.map u8),.sl (tries.map u8),.sl (mins.map u8),.int .u8 which] (.bool true):=by
 obtain ⟨v,h',hm,b,a1,t1,rfl,rfl,hg,kG,ha1⟩:=f21_ex nums 0 0 7 ⟨Nat.zero_le _,h1⟩ (by omega)
 obtain ⟨v,h',jU,s,a2,t2,rfl,rfl,hs,j9⟩:=f23_ex tries 0 0 b ⟨Nat.zero_le _,h2⟩ hg
 have h25:=f25_1 b s hs
 have jD:=hg.cr
 have kD:=hg.fn
 have jo:=zGT hs
 have jK:=hs.len
 have jc:zGe b:=⟨by omega,fun r hr=>by have:=hg.may r hr;have:=zEv this.2.2 this.2.1 jD;omega⟩
 refine zAi Try.f4 ?_
 refine zAc (zAa (zAe 1 (zAd (zAc (zAa (zAe 1 (S_a [(6,.ret (zBO nums 0 0) ([]))] (ap (f22 (nums)) an) (S_a [(6,.ret (zVH b) ([zBO nums a1 t1]))] (ap (hm) an) (zAe 1 (S_a [(3,.v (PV.agg [I b.cr,I b.wd,I b.st,I b.fn,PV.sl (List.map (fun x=>PV.agg [I x.w,I x.s,PV.sl (List.map I x.may)]) b.rs)]))] (ap ((by simp only [show zAo (List.map zJL b.rs)=List.map (fun x=>PV.agg [I x.w,I x.s,PV.sl (List.map I x.may)]) b.rs from (by first | exact zA6 _ | exact zAu _ | exact zAE (zAu _) | exact zD4 (by simp [zDg]) (zA6 _))]):PV.agg [I b.cr,I b.wd,I b.st,I b.fn,PV.sl (zAo (List.map zJL b.rs))]=PV.agg [I b.cr,I b.wd,I b.st,I b.fn,PV.sl (List.map (fun x=>PV.agg [I x.w,I x.s,PV.sl (List.map I x.may)]) b.rs)]) an) (zAd (zAc (zAa (zAe 1 (S_a [(6,.ret (zBO tries 0 0) ([]))] (ap (f22 (tries)) an) (zAe 1 (S_a [(6,.ret (PV.own 1 (List.map I s)) ([zBO tries a2 t2]))] (ap (jU) an) (zAe 1 (zAd (zAc (zAa (zAe 1 (S_a [(6,.ret (zBO mins 0 0) ([]))] (ap (f22 (mins)) an) (zAe 1 (zAd (zAc (zAa (zAe 1 (zAd (zAc (zAc (zAa (zAe 3 (zAd (zAp 0 ?_)))))))))))))))))))))))))))))))))))
 refine zBo (fun (c,la,a,t)=>(c:Int)≤b.cr∧la.length=c∧(∀ x∈la,0≤x∧x≤20)∧zD5 mins a) (fun (c,la,a,t)=>[(11,zBO mins a t),(12,.own 1 (la.map I)),(35,I (c:Nat))]) (fun (c,_,_,_)=>b.cr.toNat-c) ((0:Nat),([]:List Int),(0:Nat),(0:Int)) ⟨by omega,rfl,by simp,Nat.zero_le _,h3⟩ fun (c,la,a,t) ⟨hc,gw,wT,ha⟩=>?_
 by_cases uu:(c:Int)=b.cr
 ·obtain ⟨got,less,hF⟩:=zVi hs (by omega) (fun x hx=>by have:=wT x hx;omega:∀ x∈la,0≤x∧x≤60)
  have e1:=hF.err
  obtain rfl:=hF.ge
  have e3:=hF.le
  have e4:=hF.gl
  have e5:=hF.ll
  have jV:=Int.tmod_nonneg b.cr hw.1
  have ua:=Int.tmod_lt_of_pos which (show 0<b.cr by omega)
  have wm:(which.tmod b.cr).toNat<la.length:=by omega
  have hk3:=zBB wT (which.tmod b.cr).toNat wm
  obtain ⟨got2,less2,gV⟩:=zVi (late:=la.set (which.tmod b.cr).toNat (la.getD (which.tmod b.cr).toNat 0+1)) hs (by simp;omega) (fun x hx=>by
   rcases List.mem_or_eq_of_mem_set hx with hx | rfl
   ·have:=wT x hx;omega
   ·omega)
  have d1:=gV.err
  obtain rfl:=gV.ge
  have d4:=gV.gl
  have d5:=gV.ll
  have d6k:=gV.at_ (which.tmod b.cr).toNat (by omega)
  rw [zGU,if_pos ⟨rfl,wm⟩,Int.mul_add,Int.mul_one] at d6k
  have e6k:=hF.at_ (which.tmod b.cr).toNat (by omega)
  have yJ:(zAr b s (la.set (which.tmod b.cr).toNat (la.getD (which.tmod b.cr).toNat 0+1))).getD (which.tmod b.cr).toNat 0≤(zAr b s la).getD (which.tmod b.cr).toNat 0:=by omega
  clear d6k e6k h1 h2 h3 ha1 j9
  have hsm':=jc
  refine zAc (zAa (zAe 1 (zAd (zAc (zEo ((↑c:Int)<b.cr) (by omega) (zBM 0 (zAc (zAa (zAe 2 (S_a [(5,.ob),(0,.v (PV.sl (List.map I s))),(2,.ret (PV.own 1 (List.map I (zAj b s))) ([])),(1,.yes)] (ap ((by exact zAL (by simp only [List.length_map,zzLn,zAI]<;>omega)):(0+(List.map I s).length).ble (List.map I s).length=true) (ap ((zCj (zAE (zAu _))):PV.sl (zAo (List.take (List.map I s).length (List.drop 0 (List.map I s))))=PV.sl (List.map I s)) (ap (h25) (ap ((by exact zCO _):(PV.own 1 (List.map I (zAj b s))).free=true) an)))) (zAe 1 (zAd (zAc (zAa (zAe 3 (S_a [(5,.ob),(0,.v (PV.sl (List.map I s))),(1,.ob),(0,.v (PV.sl (List.map I la))),(2,.ret (PV.tup [PV.own 1 (List.map I (zAr b s la)),I (zCR b s la),I (zB1 b s la)]) ([])),(1,.yes)] (ap ((by exact zAL (by simp only [List.length_map,zzLn,zAI]<;>omega)):(0+(List.map I s).length).ble (List.map I s).length=true) (ap ((zCj (zAE (zAu _))):PV.sl (zAo (List.take (List.map I s).length (List.drop 0 (List.map I s))))=PV.sl (List.map I s)) (ap ((by exact zAL (by simp only [List.length_map,zzLn,zAI]<;>omega)):(0+(List.map I la).length).ble (List.map I la).length=true) (ap ((zCj (zAE (zAu _))):PV.sl (zAo (List.take (List.map I la).length (List.drop 0 (List.map I la))))=PV.sl (List.map I la)) (ap (f26 (b) (s) (la) (by omega) (by omega) (by omega)) (ap ((by exact zOd (zCO _) rfl):(PV.tup [PV.own 1 (List.map I (zAr b s la)),I (zCR b s la),I (zB1 b s la)]).free=true) an)))))) (zAe 7 (zAd (zAc (zAc (zAa (zAe 3 (zHt 59 (zB1 b s la=0) (by omega) (zAe 1 (S_a [(0,.n ((zAr b s la).length))] (ap ((by simp):some (List.map I (zAr b s la)).length=some (zAr b s la).length) an) (zAe 5 (zHt 66 ((↑(zAr b s la).length:Int)=b.cr) (by omega) (zAe 1 (S_a [(0,.n ((zAj b s).length))] (ap ((by simp):some (List.map I (zAj b s)).length=some (zAj b s).length) an) (zAe 4 (zAd (zIL ((↑(zAj b s).length:Int)=b.cr) (by omega) (zAx (zAc (zAa (zAe 2 (zAd (zAc (zAc (zAa (zAe 1 (S_a [(0,.n ((zAr b s la).length))] (ap ((by simp):some (List.map I (zAr b s la)).length=some (zAr b s la).length) an) (zAe 1 (zAd (zAp 2 ?_)))))))))))))))))))))))))))))))))))))))))))))
  refine zBo (fun (i,sm)=>i≤(zAr b s la).length∧sm=(less.drop i).sum) (fun (i,sm)=>[(17,I sm),(76,I (i:Nat))]) (fun (i,_)=>(zAr b s la).length-i) ((0:Nat),zCR b s la) ⟨Nat.zero_le _,by rw [e3];simp⟩ fun (i,sm) ⟨hi,hsu⟩=>?_
  by_cases vH:i<(zAr b s la).length
  ·have e6i:(0≤(zAj b s).getD i 0∧(zAj b s).getD i 0≤1000000)∧(zAr b s la).getD i 0=(zAj b s).getD i 0-less.getD i 0∧0≤less.getD i 0∧less.getD i 0≤(zAj b s).getD i 0∧less.getD i 0≤b.fn*la.getD i 0∧(less.getD i 0=(zAj b s).getD i 0∨less.getD i 0=b.fn*la.getD i 0):=by have:=hF.at_ i (by omega);omega
   have hz:la.getD i 0=0→b.fn*la.getD i 0=0:=fun h=>by rw [h];simp
   have gW:0≤la.getD i 0∧la.getD i 0≤20:=zBB wT i (by omega)
   have hmb:0≤b.fn*la.getD i 0∧b.fn*la.getD i 0≤20*20:=⟨Int.mul_nonneg kD.1 gW.1,Int.mul_le_mul (by omega) gW.2 gW.1 (by omega)⟩
   have hsb:=zMS (l:=less) (B:=1000000) (fun c hc=>by have:=hF.at_ c (by omega);omega) (by omega) i
   have wa:(less.drop i).sum=less.getD i 0+(less.drop (i+1)).sum:=zSn (by omega)
   rw [← hsu] at hsb wa
   have hsm2:sm+((zAr b s la).getD i 0-(zAj b s).getD i 0)=(less.drop (i+1)).sum:=by omega
   have hlal:la.length=b.cr.toNat:=by omega
   clear hF gV d1 d4 d5 jV ua wm hk3 yJ jc uu e1 wT
   refine zAc (zAa (zAe 1 (zAd (zAc (zFm ((↑i:Int)<(↑(zAr b s la).length:Int)) (by omega) (zAx (zAc (zAp 3 (zAc (zAa (zAe 1 (S_a [(2,.ob),(1,.n (i))] (ap ((by exact zA8 (by simp only [List.length_map,zzLn]<;>omega)):decide (i<(List.map I (zAr b s la)).length)=true) (ap ((by simp):some (0+i)=some i) an)) (S_a [(0,.cs false ([I ((zAr b s la).getD i 0)]))] (ap (zEJ (q:=PV.own 1 (List.map I (zAr b s la))) (xs:=List.map I (zAr b s la)) (x:=I ((zAr b s la).getD i 0)) rfl (zCG (0) (by omega)):zAH 14 (PV.own 1 (List.map I (zAr b s la))) [] i 0 1=some (false,[I ((zAr b s la).getD i 0)])) an) (zAe 2 (zAd (zAc (zAa (zAe 4 (S_a [(2,.ob),(1,.n (i))] (ap ((by exact zA8 (by simp only [List.length_map,zzLn]<;>omega)):decide (i<(List.map I (zAj b s)).length)=true) (ap ((by simp):some (0+i)=some i) an)) (S_a [(0,.cs false ([I ((zAj b s).getD i 0)]))] (ap (zEJ (q:=PV.own 1 (List.map I (zAj b s))) (xs:=List.map I (zAj b s)) (x:=I ((zAj b s).getD i 0)) rfl (zCG (0) (by omega)):zAH 13 (PV.own 1 (List.map I (zAj b s))) [] i 0 1=some (false,[I ((zAj b s).getD i 0)])) an) (S_a [(1,.v (I ((zAr b s la).getD i 0-(zAj b s).getD i 0)))] (ap ((zAR rfl (by omega)):I (IntKind.i64.wrap ((zAr b s la).getD i 0-(zAj b s).getD i 0))=I ((zAr b s la).getD i 0-(zAj b s).getD i 0)) an) (S_a [(1,.v (I (sm+((zAr b s la).getD i 0-(zAj b s).getD i 0))))] (ap ((zAR rfl (by omega)):I (IntKind.i64.wrap (sm+((zAr b s la).getD i 0-(zAj b s).getD i 0)))=I (sm+((zAr b s la).getD i 0-(zAj b s).getD i 0))) an) (zAe 1 (zAd (zAc (zAa (zAe 3 (zMH 91 ((zAr b s la).getD i 0<0) (by omega) (zAe 3 (S_a [(2,.ob),(1,.n (i))] (ap ((by exact zA8 (by simp only [List.length_map,zzLn]<;>omega)):decide (i<(List.map I (zAj b s)).length)=true) (ap ((by simp):some (0+i)=some i) an)) (S_a [(0,.cs false ([I ((zAj b s).getD i 0)]))] (ap (zEJ (q:=PV.own 1 (List.map I (zAj b s))) (xs:=List.map I (zAj b s)) (x:=I ((zAj b s).getD i 0)) rfl (zCG (0) (by omega)):zAH 13 (PV.own 1 (List.map I (zAj b s))) [] i 0 1=some (false,[I ((zAj b s).getD i 0)])) an) (zAe 3 (zMH 99 ((zAr b s la).getD i 0>(zAj b s).getD i 0) (by omega) (zAe 2 (S_a [(2,.ob),(1,.n (i))] (ap ((by exact zA8 (by simp only [List.length_map,zzLn]<;>omega)):decide (i<(List.map I la).length)=true) (ap ((by simp):some (0+i)=some i) an)) (S_a [(0,.cs false ([I (la.getD i 0)]))] (ap (zEJ (q:=PV.own 1 (List.map I la)) (xs:=List.map I la) (x:=I (la.getD i 0)) rfl (zCG (0) (by omega)):zAH 12 (PV.own 1 (List.map I la)) [] i 0 1=some (false,[I (la.getD i 0)])) an) (zAe 2 (zKN 105 (la.getD i 0=0) (fun k0=>(zAe 3 (S_a [(2,.ob),(1,.n (i))] (ap ((by exact zA8 (by simp only [List.length_map,zzLn]<;>omega)):decide (i<(List.map I (zAj b s)).length)=true) (ap ((by simp):some (0+i)=some i) an)) (S_a [(0,.cs false ([I ((zAj b s).getD i 0)]))] (ap (zEJ (q:=PV.own 1 (List.map I (zAj b s))) (xs:=List.map I (zAj b s)) (x:=I ((zAj b s).getD i 0)) rfl (zCG (0) (by omega)):zAH 13 (PV.own 1 (List.map I (zAj b s))) [] i 0 1=some (false,[I ((zAj b s).getD i 0)])) an) (zAe 4 (zHt 114 ((zAr b s la).getD i 0=(zAj b s).getD i 0) (by omega) (zAe 3 (zKN 117 ((zAr b s la).getD i 0>0) (fun k1=>(zAe 2 (S_a [(2,.ob),(1,.n (i))] (ap ((by exact zA8 (by simp only [List.length_map,zzLn]<;>omega)):decide (i<(List.map I (zAj b s)).length)=true) (ap ((by simp):some (0+i)=some i) an)) (S_a [(0,.cs false ([I ((zAj b s).getD i 0)]))] (ap (zEJ (q:=PV.own 1 (List.map I (zAj b s))) (xs:=List.map I (zAj b s)) (x:=I ((zAj b s).getD i 0)) rfl (zCG (0) (by omega)):zAH 13 (PV.own 1 (List.map I (zAj b s))) [] i 0 1=some (false,[I ((zAj b s).getD i 0)])) an) (zAe 1 (S_a [(1,.v (I ((zAj b s).getD i 0-(zAr b s la).getD i 0)))] (ap ((zAR rfl (by omega)):I (IntKind.i64.wrap ((zAj b s).getD i 0-(zAr b s la).getD i 0))=I ((zAj b s).getD i 0-(zAr b s la).getD i 0)) an) (zAe 4 (S_a [(2,.ob),(1,.n (i))] (ap ((by exact zA8 (by simp only [List.length_map,zzLn]<;>omega)):decide (i<(List.map I la).length)=true) (ap ((by simp):some (0+i)=some i) an)) (S_a [(0,.cs false ([I (la.getD i 0)]))] (ap (zEJ (q:=PV.own 1 (List.map I la)) (xs:=List.map I la) (x:=I (la.getD i 0)) rfl (zCG (0) (by omega)):zAH 12 (PV.own 1 (List.map I la)) [] i 0 1=some (false,[I (la.getD i 0)])) an) (S_a [(1,.v (I (b.fn*la.getD i 0)))] (ap ((zAR rfl (by omega)):I (IntKind.i64.wrap (b.fn*la.getD i 0))=I (b.fn*la.getD i 0)) an) (zAe 4 (zHt 134 ((zAj b s).getD i 0-(zAr b s la).getD i 0=b.fn*la.getD i 0) (by omega) (zAe 3 (zMH 137 ((zAr b s la).getD i 0=0) (by omega) (zAe 14 (zAd (zBE (zAx (zAa (S_a [(1,.v (I (↑(i+1):Int)))] (ap ((zAR (by omega) (by omega)):I (IntKind.i64.wrap ((↑i:Int)+1))=I (↑(i+1):Int)) an) (zAe 1 (zAd ?_)))))))))))))))))))))) (fun k1=>(zAe 20 (zJy 137 ((zAr b s la).getD i 0=0) (by omega) (zAe 2 (S_a [(2,.ob),(1,.n (i))] (ap ((by exact zA8 (by simp only [List.length_map,zzLn]<;>omega)):decide (i<(List.map I (zAj b s)).length)=true) (ap ((by simp):some (0+i)=some i) an)) (S_a [(0,.cs false ([I ((zAj b s).getD i 0)]))] (ap (zEJ (q:=PV.own 1 (List.map I (zAj b s))) (xs:=List.map I (zAj b s)) (x:=I ((zAj b s).getD i 0)) rfl (zCG (0) (by omega)):zAH 13 (PV.own 1 (List.map I (zAj b s))) [] i 0 1=some (false,[I ((zAj b s).getD i 0)])) an) (zAe 4 (S_a [(2,.ob),(1,.n (i))] (ap ((by exact zA8 (by simp only [List.length_map,zzLn]<;>omega)):decide (i<(List.map I la).length)=true) (ap ((by simp):some (0+i)=some i) an)) (S_a [(0,.cs false ([I (la.getD i 0)]))] (ap (zEJ (q:=PV.own 1 (List.map I la)) (xs:=List.map I la) (x:=I (la.getD i 0)) rfl (zCG (0) (by omega)):zAH 12 (PV.own 1 (List.map I la)) [] i 0 1=some (false,[I (la.getD i 0)])) an) (S_a [(1,.v (I (b.fn*la.getD i 0)))] (ap ((zAR rfl (by omega)):I (IntKind.i64.wrap (b.fn*la.getD i 0))=I (b.fn*la.getD i 0)) an) (zAe 3 (zAd (zEo ((zAj b s).getD i 0>b.fn*la.getD i 0) (by omega) (zAx (zAa (S_a [(1,.v (I (↑(i+1):Int)))] (ap ((zAR (by omega) (by omega)):I (IntKind.i64.wrap ((↑i:Int)+1))=I (↑(i+1):Int)) an) (zAe 1 (zAd ?_)))))))))))))))))))))))))) (fun k0=>(zAe 12 (zKN 117 ((zAr b s la).getD i 0>0) (fun k2=>(zAe 2 (S_a [(2,.ob),(1,.n (i))] (ap ((by exact zA8 (by simp only [List.length_map,zzLn]<;>omega)):decide (i<(List.map I (zAj b s)).length)=true) (ap ((by simp):some (0+i)=some i) an)) (S_a [(0,.cs false ([I ((zAj b s).getD i 0)]))] (ap (zEJ (q:=PV.own 1 (List.map I (zAj b s))) (xs:=List.map I (zAj b s)) (x:=I ((zAj b s).getD i 0)) rfl (zCG (0) (by omega)):zAH 13 (PV.own 1 (List.map I (zAj b s))) [] i 0 1=some (false,[I ((zAj b s).getD i 0)])) an) (zAe 1 (S_a [(1,.v (I ((zAj b s).getD i 0-(zAr b s la).getD i 0)))] (ap ((zAR rfl (by omega)):I (IntKind.i64.wrap ((zAj b s).getD i 0-(zAr b s la).getD i 0))=I ((zAj b s).getD i 0-(zAr b s la).getD i 0)) an) (zAe 4 (S_a [(2,.ob),(1,.n (i))] (ap ((by exact zA8 (by simp only [List.length_map,zzLn]<;>omega)):decide (i<(List.map I la).length)=true) (ap ((by simp):some (0+i)=some i) an)) (S_a [(0,.cs false ([I (la.getD i 0)]))] (ap (zEJ (q:=PV.own 1 (List.map I la)) (xs:=List.map I la) (x:=I (la.getD i 0)) rfl (zCG (0) (by omega)):zAH 12 (PV.own 1 (List.map I la)) [] i 0 1=some (false,[I (la.getD i 0)])) an) (S_a [(1,.v (I (b.fn*la.getD i 0)))] (ap ((zAR rfl (by omega)):I (IntKind.i64.wrap (b.fn*la.getD i 0))=I (b.fn*la.getD i 0)) an) (zAe 4 (zHt 134 ((zAj b s).getD i 0-(zAr b s la).getD i 0=b.fn*la.getD i 0) (by omega) (zAe 3 (zMH 137 ((zAr b s la).getD i 0=0) (by omega) (zAe 14 (zAd (zBE (zAx (zAa (S_a [(1,.v (I (↑(i+1):Int)))] (ap ((zAR (by omega) (by omega)):I (IntKind.i64.wrap ((↑i:Int)+1))=I (↑(i+1):Int)) an) (zAe 1 (zAd ?_)))))))))))))))))))))) (fun k2=>(zAe 20 (zJy 137 ((zAr b s la).getD i 0=0) (by omega) (zAe 2 (S_a [(2,.ob),(1,.n (i))] (ap ((by exact zA8 (by simp only [List.length_map,zzLn]<;>omega)):decide (i<(List.map I (zAj b s)).length)=true) (ap ((by simp):some (0+i)=some i) an)) (S_a [(0,.cs false ([I ((zAj b s).getD i 0)]))] (ap (zEJ (q:=PV.own 1 (List.map I (zAj b s))) (xs:=List.map I (zAj b s)) (x:=I ((zAj b s).getD i 0)) rfl (zCG (0) (by omega)):zAH 13 (PV.own 1 (List.map I (zAj b s))) [] i 0 1=some (false,[I ((zAj b s).getD i 0)])) an) (zAe 4 (S_a [(2,.ob),(1,.n (i))] (ap ((by exact zA8 (by simp only [List.length_map,zzLn]<;>omega)):decide (i<(List.map I la).length)=true) (ap ((by simp):some (0+i)=some i) an)) (S_a [(0,.cs false ([I (la.getD i 0)]))] (ap (zEJ (q:=PV.own 1 (List.map I la)) (xs:=List.map I la) (x:=I (la.getD i 0)) rfl (zCG (0) (by omega)):zAH 12 (PV.own 1 (List.map I la)) [] i 0 1=some (false,[I (la.getD i 0)])) an) (S_a [(1,.v (I (b.fn*la.getD i 0)))] (ap ((zAR rfl (by omega)):I (IntKind.i64.wrap (b.fn*la.getD i 0))=I (b.fn*la.getD i 0)) an) (zAe 3 (zAd (zEo ((zAj b s).getD i 0>b.fn*la.getD i 0) (by omega) (zAx (zAa (S_a [(1,.v (I (↑(i+1):Int)))] (ap ((zAR (by omega) (by omega)):I (IntKind.i64.wrap ((↑i:Int)+1))=I (↑(i+1):Int)) an) (zAe 1 (zAd ?_)))))))))))))))))))))))))))))))))))))))))))))))))))))))))))
   all_goals exact ⟨(i+1,sm+((zAr b s la).getD i 0-(zAj b s).getD i 0)),⟨by omega,hsm2⟩,by simp only;omega,by kernel_rfl,by kernel_rfl⟩
  ·have qE:=zCO (g:=I) (zAr b s (la.set (which.tmod b.cr).toNat (la.getD (which.tmod b.cr).toNat 0+1)))
   have yD:sm=0:=by rw [hsu,List.drop_eq_nil_of_le (by omega)];rfl
   clear hF gV
   refine zAc (zAa (zAe 1 (zAd (zAc (zEo ((↑i:Int)<(↑(zAr b s la).length:Int)) (by omega) (zBM 2 (zAc (zAa (zAe 1 (S_a [(3,.ob),(0,.v (PV.sl (List.map I la))),(2,.ret (PV.own 1 (List.map I la)) ([])),(1,.yes)] (ap ((by exact zAL (by simp only [List.length_map,zzLn,zAI]<;>omega)):(0+(List.map I la).length).ble (List.map I la).length=true) (ap ((zCj (zAE (zAu _))):PV.sl (zAo (List.take (List.map I la).length (List.drop 0 (List.map I la))))=PV.sl (List.map I la)) (ap (f17 (la) (by omega)) (ap ((by exact zCO _):(PV.own 1 (List.map I la)).free=true) an)))) (zAe 1 (zAd (zAc (zAa (zAe 1 (S_a [(0,.v (I which))] (ap ((zAR rfl (by omega)):I (IntKind.i64.wrap which)=I which) an) (zAe 2 (S_a [(0,.v (I (which.tmod b.cr)))] (ap (zTi (by omega) rfl:zNB Try.prog BinOp.rem 3 (I which) (I b.cr)=some (I (which.tmod b.cr))) an) (zAe 1 (zAd (zAc (zAa (zAe 2 (S_a [(0,.ob),(1,.ob),(1,.n ((which.tmod b.cr).toNat))] (ap ((by exact zA8 (by omega)):decide (0≤which.tmod b.cr)=true) (ap ((by exact zA8 (by simp only [List.length_map,zzLn]<;>omega)):decide ((which.tmod b.cr).toNat<(List.map I la).length)=true) (ap ((by simp):some (0+(which.tmod b.cr).toNat)=some (which.tmod b.cr).toNat) an))) (S_a [(0,.cs false ([I (la.getD (which.tmod b.cr).toNat 0)]))] (ap (zEJ (q:=PV.own 1 (List.map I la)) (xs:=List.map I la) (x:=I (la.getD (which.tmod b.cr).toNat 0)) rfl (zCG (0) (by omega)):zAH 20 (PV.own 1 (List.map I la)) [] (which.tmod b.cr).toNat 0 1=some (false,[I (la.getD (which.tmod b.cr).toNat 0)])) an) (S_a [(1,.v (I (la.getD (which.tmod b.cr).toNat 0+1)))] (ap ((zAR rfl (by omega)):I (IntKind.i64.wrap (la.getD (which.tmod b.cr).toNat 0+1))=I (la.getD (which.tmod b.cr).toNat 0+1)) an) (S_a [(0,.ob),(1,.ob),(1,.n ((which.tmod b.cr).toNat))] (ap ((by exact zA8 (by omega)):decide (0≤which.tmod b.cr)=true) (ap ((by exact zA8 (by simp only [List.length_map,zzLn]<;>omega)):decide ((which.tmod b.cr).toNat<(List.map I la).length)=true) (ap ((by simp):some (0+(which.tmod b.cr).toNat)=some (which.tmod b.cr).toNat) an))) (S_a [(8,.root (PV.own 1 (List.map I (la.set (which.tmod b.cr).toNat (la.getD (which.tmod b.cr).toNat 0+1)))) true)] (ap (zUV (zCG (0) (by omega)) zG7:zBL (PV.own 1 (List.map I la)) [] (which.tmod b.cr).toNat 0 (I (la.getD (which.tmod b.cr).toNat 0+1)).cells=some (PV.own 1 (List.map I (la.set (which.tmod b.cr).toNat (la.getD (which.tmod b.cr).toNat 0+1))))∧zAM (PV.own 1 (List.map I la)) (PV.own 1 (List.map I (la.set (which.tmod b.cr).toNat (la.getD (which.tmod b.cr).toNat 0+1)))) []=true) an) (zAd (zAc (zAa (zAe 3 (S_a [(5,.ob),(0,.v (PV.sl (List.map I s))),(1,.ob),(0,.v (PV.sl (List.map I (la.set (which.tmod b.cr).toNat (la.getD (which.tmod b.cr).toNat 0+1))))),(2,.ret (PV.tup [PV.own 1 (List.map I (zAr b s (la.set (which.tmod b.cr).toNat (la.getD (which.tmod b.cr).toNat 0+1)))),I (zCR b s (la.set (which.tmod b.cr).toNat (la.getD (which.tmod b.cr).toNat 0+1))),I (zB1 b s (la.set (which.tmod b.cr).toNat (la.getD (which.tmod b.cr).toNat 0+1)))]) ([])),(1,.yes)] (ap ((by exact zAL (by simp only [List.length_map,zzLn,zAI]<;>omega)):(0+(List.map I s).length).ble (List.map I s).length=true) (ap ((zCj (zAE (zAu _))):PV.sl (zAo (List.take (List.map I s).length (List.drop 0 (List.map I s))))=PV.sl (List.map I s)) (ap ((by exact zAL (by simp only [List.length_map,zzLn,zAI]<;>omega)):(0+(List.map I (la.set (which.tmod b.cr).toNat (la.getD (which.tmod b.cr).toNat 0+1))).length).ble (List.map I (la.set (which.tmod b.cr).toNat (la.getD (which.tmod b.cr).toNat 0+1))).length=true) (ap ((zCj (zAE (zAu _))):PV.sl (zAo (List.take (List.map I (la.set (which.tmod b.cr).toNat (la.getD (which.tmod b.cr).toNat 0+1))).length (List.drop 0 (List.map I (la.set (which.tmod b.cr).toNat (la.getD (which.tmod b.cr).toNat 0+1))))))=PV.sl (List.map I (la.set (which.tmod b.cr).toNat (la.getD (which.tmod b.cr).toNat 0+1)))) (ap (f26 (b) (s) (la.set (which.tmod b.cr).toNat (la.getD (which.tmod b.cr).toNat 0+1)) (by omega) (by omega) (by first | omega | (simp<;>omega))) (ap ((by exact zOd (zCO _) rfl):(PV.tup [PV.own 1 (List.map I (zAr b s (la.set (which.tmod b.cr).toNat (la.getD (which.tmod b.cr).toNat 0+1)))),I (zCR b s (la.set (which.tmod b.cr).toNat (la.getD (which.tmod b.cr).toNat 0+1))),I (zB1 b s (la.set (which.tmod b.cr).toNat (la.getD (which.tmod b.cr).toNat 0+1)))]).free=true) an)))))) (zAe 7 (zAd (zAc (zAa (zAe 3 (zJy 176 (zB1 b s (la.set (which.tmod b.cr).toNat (la.getD (which.tmod b.cr).toNat 0+1))=0) (by omega) (zAe 1 (S_a [(0,.n ((zAr b s (la.set (which.tmod b.cr).toNat (la.getD (which.tmod b.cr).toNat 0+1))).length))] (ap ((by simp):some (List.map I (zAr b s (la.set (which.tmod b.cr).toNat (la.getD (which.tmod b.cr).toNat 0+1)))).length=some (zAr b s (la.set (which.tmod b.cr).toNat (la.getD (which.tmod b.cr).toNat 0+1))).length) an) (zAe 5 (zJy 183 ((↑(zAr b s (la.set (which.tmod b.cr).toNat (la.getD (which.tmod b.cr).toNat 0+1))).length:Int)=b.cr) (by omega) (zAe 2 (S_a [(0,.ob),(1,.ob),(1,.n ((which.tmod b.cr).toNat))] (ap ((by exact zA8 (by omega)):decide (0≤which.tmod b.cr)=true) (ap ((by exact zA8 (by simp only [List.length_map,zzLn]<;>omega)):decide ((which.tmod b.cr).toNat<(List.map I (zAr b s (la.set (which.tmod b.cr).toNat (la.getD (which.tmod b.cr).toNat 0+1)))).length)=true) (ap ((by simp):some (0+(which.tmod b.cr).toNat)=some (which.tmod b.cr).toNat) an))) (S_a [(0,.cs false ([I ((zAr b s (la.set (which.tmod b.cr).toNat (la.getD (which.tmod b.cr).toNat 0+1))).getD (which.tmod b.cr).toNat 0)]))] (ap (zEJ (q:=PV.own 1 (List.map I (zAr b s (la.set (which.tmod b.cr).toNat (la.getD (which.tmod b.cr).toNat 0+1))))) (xs:=List.map I (zAr b s (la.set (which.tmod b.cr).toNat (la.getD (which.tmod b.cr).toNat 0+1)))) (x:=I ((zAr b s (la.set (which.tmod b.cr).toNat (la.getD (which.tmod b.cr).toNat 0+1))).getD (which.tmod b.cr).toNat 0)) rfl (zCG (0) (by omega)):zAH 22 (PV.own 1 (List.map I (zAr b s (la.set (which.tmod b.cr).toNat (la.getD (which.tmod b.cr).toNat 0+1))))) [] (which.tmod b.cr).toNat 0 1=some (false,[I ((zAr b s (la.set (which.tmod b.cr).toNat (la.getD (which.tmod b.cr).toNat 0+1))).getD (which.tmod b.cr).toNat 0)])) an) (zAe 2 (S_a [(0,.ob),(1,.ob),(1,.n ((which.tmod b.cr).toNat))] (ap ((by exact zA8 (by omega)):decide (0≤which.tmod b.cr)=true) (ap ((by exact zA8 (by simp only [List.length_map,zzLn]<;>omega)):decide ((which.tmod b.cr).toNat<(List.map I (zAr b s la)).length)=true) (ap ((by simp):some (0+(which.tmod b.cr).toNat)=some (which.tmod b.cr).toNat) an))) (S_a [(0,.cs false ([I ((zAr b s la).getD (which.tmod b.cr).toNat 0)]))] (ap (zEJ (q:=PV.own 1 (List.map I (zAr b s la))) (xs:=List.map I (zAr b s la)) (x:=I ((zAr b s la).getD (which.tmod b.cr).toNat 0)) rfl (zCG (0) (by omega)):zAH 14 (PV.own 1 (List.map I (zAr b s la))) [] (which.tmod b.cr).toNat 0 1=some (false,[I ((zAr b s la).getD (which.tmod b.cr).toNat 0)])) an) (zAe 3 (zJy 194 ((zAr b s (la.set (which.tmod b.cr).toNat (la.getD (which.tmod b.cr).toNat 0+1))).getD (which.tmod b.cr).toNat 0≤(zAr b s la).getD (which.tmod b.cr).toNat 0) (by omega) (zAe 4 (zJy 198 (sm=0) (by omega) (S_a [(4,.ret (PV.bool true) ([]))] (ap (f16) an) (zAe 2 (zAd (zAJ (E_a [] an (PV.bool true) ([]) rfl rfl))))))))))))))))))))))))))))))))))))))))))))))))))))))))))
 ·have g1:=zCw ha
  have g2:=zCw g1
  have u1:=zBQ mins a t 20
  have u2:=zBQ mins (zAm mins a) (zAD mins a t) 1
  have u3:=Int.mul_nonneg u1.1 u2.1
  clear h1 h2 h3 hw ha1 j9 kG
  have u4:zAz mins a t 20*zAz mins (zAm mins a) (zAD mins a t) 1≤20*1:=Int.mul_le_mul (by omega) (by omega) (by omega) (by omega)
  refine zAc (zAa (zAe 1 (zAd (zAc (zFm ((↑c:Int)<b.cr) (by omega) (zAx (zAc (zAp 1 (zAa (zAe 2 (S_a [(6,.ret (I (zAz mins a t 20)) ([zBO mins (zAm mins a) (zAD mins a t)]))] (ap (f24 (mins) (a) (t) (20) (by omega) (by omega)) an) (zAe 1 (S_a [(6,.ret (I (zAz mins (zAm mins a) (zAD mins a t) 1)) ([zBO mins (zAm mins (zAm mins a)) (zAD mins (zAm mins a) (zAD mins a t))]))] (ap (f24 (mins) (zAm mins a) (zAD mins a t) (1) (by omega) (by omega)) an) (S_a [(1,.v (I (zAz mins a t 20*zAz mins (zAm mins a) (zAD mins a t) 1)))] (ap ((zAR rfl (by omega)):I (IntKind.i64.wrap (zAz mins a t 20*zAz mins (zAm mins a) (zAD mins a t) 1))=I (zAz mins a t 20*zAz mins (zAm mins a) (zAD mins a t) 1)) an) (zAe 1 (S_a [(4,.ob),(0,.ob),(0,.yes),(2,.v (PV.own 1 (List.map I (la++[zAz mins a t 20*zAz mins (zAm mins a) (zAD mins a t) 1]))))] (ap ((by exact zAL (by simp only [List.length_map,zzLn,zAI]<;>omega)):(0+(List.map I la).length).ble (List.map I la).length=true) (ap ((by exact zAL (by simp only [List.length_map,zzLn,zAI]<;>omega)):((List.map I la).length + [I (zAz mins a t 20*zAz mins (zAm mins a) (zAD mins a t) 1)].length).ble zAI=true) (ap ((by exact zB0 (by simp<;>omega)):(0+(List.map I la).length).beq (List.map I la).length=true) (ap ((by simp):PV.own 1 (List.map I la++[I (zAz mins a t 20*zAz mins (zAm mins a) (zAD mins a t) 1)])=PV.own 1 (List.map I (la++[zAz mins a t 20*zAz mins (zAm mins a) (zAD mins a t) 1]))) an)))) (zAe 1 (zAd (zAa (S_a [(1,.v (I (↑(c+1):Int)))] (ap ((zAR (by omega) (by omega)):I (IntKind.i64.wrap ((↑c:Int)+1))=I (↑(c+1):Int)) an) (zAe 1 (zAd ?_))))))))))))))))))))))
  exact ⟨(c+1,la++[zAz mins a t 20*zAz mins (zAm mins a) (zAD mins a t) 1],zAm mins (zAm mins a),zAD mins (zAm mins a) (zAD mins a t)),⟨by omega,by simp [gw],fun x hx=>by
   rcases List.mem_append.1 hx with hx | hx
   ·exact wT x hx
   ·rw [List.mem_singleton] at hx;subst hx;omega,g2⟩,by simp only;omega,by kernel_rfl,by kernel_rfl⟩
end Go.Eng
set_option maxRecDepth 10000
set_option maxHeartbeats 4000000
namespace Go.Eng
open Go Go.Proofs
section
variable [Yo]
omit [Yo] in
theorem zHF {b:Dk} {l:List Int} (hs:ShareOk b l):∀ x∈zAj b l,0≤x∧x≤1000000:=fun x hx=>by
 have hg:=zBl hs.box
 have jK:=hs.len
 have kG:=hg.len
 have e:zAj b l=(zFl (zAg b) l l.length).take b.cr.toNat:=by simp only [zAj,zC8 hs,if_true]
 rw [e] at hx
 exact zNG (zBx hg) (n:=l.length) (by omega) x (List.mem_of_mem_take hx)
end
end Go.Eng
namespace Go.Eng
open Go
end Go.Eng
set_option maxRecDepth 10000
set_option maxHeartbeats 4000000
namespace Go.Eng
open Go Go.Proofs
theorem zQR {b:Dk} {fee f s:List Int} {r n:Nat} {m:Nat×Nat} (h:m∈zGD b fee f s r n):m.1=r∧m.2<n∧zNc b fee f s m.1 m.2=true:=by
 simp only [zGD,List.mem_map,List.mem_filter,List.mem_range] at h
 obtain ⟨t,⟨h1,h2⟩,rfl⟩:=h
 exact ⟨rfl,h1,h2⟩
theorem zLr {b:Dk} {fee f s:List Int} {n:Nat} {m:Nat×Nat} (h:m∈mvs b fee f s n):m.1<n∧m.2<b.cr.toNat∧zNc b fee f s m.1 m.2=true:=by
 simp only [mvs,List.mem_flatMap,List.mem_range] at h
 obtain ⟨r,h1,h2⟩:=h
 obtain ⟨rfl,h3,h4⟩:=zQR h2
 exact ⟨h1,h3,h4⟩
def zDp (b:Dk) (s:List Int):Option (List Int):=match mvs b (zAg b) (zMj b s) s s.length with
 | []=>none
 | m::_=>some (s.set m.1 (m.2:Int))
def zEx (b:Dk):Nat→List Int→List Int×Nat
 | 0,s=>(s,0)
 | k+1,s=>match zDp b s with
  | none=>(s,0)
  | some s'=>((zEx b k s').1,(zEx b k s').2+1)
def zCJ (b:Dk) (s:List Int):List Int×Nat:=zEx b (pot b s+1) s
theorem zOg {b:Dk} (hg:Good b) (r:Nat):0≤zBW b (rnd b r)∧zBW b (rnd b r)≤1000:=by
 rcases Nat.lt_or_ge r b.rs.length with h | h
 ·exact zF1 hg (zJm hg h)
 ·have e:rnd b r=default:=by unfold rnd;rw [List.getD_eq_getElem?_getD,List.getElem?_eq_none h];rfl
  rw [e];show 0≤(0:Int)*_∧(0:Int)*_≤_;simp
theorem zFC {b:Dk} {s s':List Int} (hs:ShareOk b s) (h:zDp b s=some s'):ShareOk b s'∧pot b s'<pot b s:=by
 have hg:=zBl hs.box
 have jD:=hg.cr
 have kG:=hg.len
 have jK:=hs.len
 unfold zDp at h
 split at h
 ·cases h
 ·rename_i m ms hm
  obtain ⟨r,t⟩:=m
  simp only [Option.some.injEq] at h
  subst h
  obtain ⟨h1,h2,h3⟩:=zLr (m:=(r,t)) (by rw [hm];simp:(r,t)∈mvs b (zAg b) (zMj b s) s s.length)
  simp only at h1 h2 h3
  rw [zLh hs h1 (by omega)] at h3
  simp only [Bool.and_eq_true,decide_eq_true_eq] at h3
  obtain ⟨h4,h5,h6⟩:=h3
  rw [zJt h1 h4] at h6
  refine ⟨⟨hs.box,by simpa using hs.len,fun x hx=>?_,zIh fun q hq=>?_⟩,?_⟩
  ·rcases List.mem_or_eq_of_mem_set hx with hx | rfl
   ·exact hs.rng x hx
   ·omega
  ·rw [zGU]
   rw [List.length_set] at hq
   split
   ·rename_i j4;rw [← j4.1];exact h5
   ·exact zF6 hs.may hq
  ·have hb:=zQq (l:=s.set r (t:Int)) (fun r=>zOg hg r) (by simp;omega)
   have hd:=zRM (fun r=>(zOg hg r).1) (by omega) h1 (zGO hs) (by omega:0≤(t:Int)∧(t:Int)<4) h4 h6
   unfold pot;omega
theorem zH0 {b:Dk}:∀ (k k':Nat) (s:List Int),ShareOk b s→pot b s<k→pot b s<k'→zEx b k s=zEx b k' s
 | 0,_,_,_,h,_=>absurd h (Nat.not_lt_zero _)
 | _+1,0,_,_,_,h=>absurd h (Nat.not_lt_zero _)
 | k + 1,k'+1,s,hs,h1,h2=>by
  simp only [zEx]
  cases h:zDp b s with
  | none=>rfl
  | some s' =>
   obtain ⟨h3,h4⟩:=zFC hs h
   simp only [zH0 k k' s' h3 (by omega) (by omega)]
theorem zJb {b:Dk} {s s':List Int} (hs:ShareOk b s) (h:zDp b s=some s'):zCJ b s=((zCJ b s').1,(zCJ b s').2+1):=by
 obtain ⟨h3,h4⟩:=zFC hs h
 have e:zCJ b s=((zEx b (pot b s) s').1,(zEx b (pot b s) s').2+1):=by
  unfold zCJ;rw [zEx,h]
 rw [e,zH0 (pot b s) (pot b s'+1) s' h3 (by omega) (by omega)];rfl
theorem zKs {b:Dk} {s:List Int} (h:zDp b s=none):zCJ b s=(s,0):=by
 unfold zCJ;rw [zEx,h]
def zDP (b:Dk) (l:List Int):List Int:=if zAG b l=0 then (zCJ b l).1 else []
def zE9 (b:Dk) (l:List Int):Int:=if zAG b l=0 then ((zCJ b l).2:Int) else 0
theorem zUB {b:Dk} {s:List Int} (hs:ShareOk b s):pot b s≤4000000000000:=by
 have hg:=zBl hs.box
 have:=zQq (b:=b) (l:=s) (fun r=>zOg hg r) (by rw [hs.len];exact hg.len)
 unfold pot;omega
theorem f36 (b:Dk) (l:List Int) (hb:zGe b) (hl:l.length<4294967296):FG 36 [zEZ b,zCm l] (.tup [.own 1 ((zDP b l).map I),I (zE9 b l),I (zAG b l)]):=by
 by_cases h:zAG b l=0
 ·have hs:=zLx h
  have hg:=zBl hs.box
  have jD:=hg.cr
  have kG:=hg.len
  have jK:=hs.len
  have h88:=f88_1 b l hb h
  have e1:zDP b l=(zCJ b l).1:=by simp only [zDP,h,if_true]
  have e2:zE9 b l=((zCJ b l).2:Int):=by simp only [zE9,h,if_true]
  rw [h,e1,e2]
  refine zAi Try.f36 ?_
  refine zAc (zAa (zAe 4 (zAd (zAc (zAa (zAe 2 (S_a [(8,.ret (PV.tup [(zBs b (zAg b)).ref,I 0]) ([]))] (ap (h88) an) (zAe 5 (zAd (zAc (zAc (zAa (zAe 2 (zAd (zBE (zAx (zAc (zAa (zAe 1 (S_a [(0,.n (l.length))] (ap ((by simp):some (List.map I l).length=some l.length) an) (S_a [(4,.ob),(0,.ob),(1,.v (PV.own 1 (List.map I (List.replicate l.length 0))))] (ap ((by exact zA8 (by omega)):decide (l.length≤l.length)=true) (ap ((by exact zA8 (by simp [zAI]<;>omega)):decide (l.length≤zAI)=true) (ap ((by simp):PV.own 1 (List.replicate l.length (I 0))=PV.own 1 (List.map I (List.replicate l.length 0))) an))) (zAe 2 (zAd (zAc (zAa (S_a [(1,.v (PV.bor 9 [(0,0)] 1 0 (List.replicate l.length 0).length))] (ap ((by simp):PV.bor 9 [(0,0)] 1 0 (List.map I (List.replicate l.length 0)).length=PV.bor 9 [(0,0)] 1 0 (List.replicate l.length 0).length) an) (zAe 1 (zTW (fun q => .box q) 9 1 ((List.replicate l.length 0).length) (List.map I (List.replicate l.length 0)) (List.map I l) (List.map I l) (by first | rfl | (simp;done) | omega) (zK5 fun _ _=>(by first | exact zKG | exact ⟨rfl,rfl,rfl,rfl,Nat.le_refl _,rfl⟩)) (by simp<;>omega) (zMX (by simp<;>omega)) zRB.box (zAd (zAc (zAa (zAe 1 (zAd (zAp 0 ?_))))))))))))))))))))))))))))))))))
  refine zBo (fun (n,s)=>ShareOk b s∧zCJ b l=((zCJ b s).1,(zCJ b s).2+n)∧n+pot b s≤pot b l) (fun (n,s)=>[(9,.box (.own 1 (s.map I))),(10,I (n:Nat))]) (fun (_,s)=>pot b s) ((0:Nat),l) ⟨hs,rfl,by omega⟩ fun (n,s) ⟨kZ,j3,yS⟩=>?_
  have hpb:=zUB hs
  have qB:=kZ.len
  have h93:=f93_2 b (zAg b) s (zGO kZ) (zBx hg) (by omega) (by rw [zCb];exact qB)
  have gk:=zVP kZ hb
  have hY:=f130a gk
  have yZ:zDp b s=match mvs b (zAg b) (zMj b s) s s.length with | []=>none | m::_=>some (s.set m.1 (m.2:Int)):=rfl
  unfold zJN at hY
  have jA:=fun m=>zLr (b:=b) (fee:=zAg b) (f:=zMj b s) (s:=s) (n:=s.length) (m:=m)
  generalize mvs b (zAg b) (zMj b s) s s.length=L at *
  unfold zMj at hY
  obtain ⟨x0,x1,x2,x3,hx⟩:=zFE (zDe (fee:=zAg b) (zAk:=s) s.length)
  rw [hx] at hY h93
  clear gk
  cases L with
  | nil =>
   have wx:zDp b s=none:=yZ
   have hse2:=zKs wx
   rw [j3,hse2]
   refine zAc (zAp 1 (zKX (zAc (zAa (zAe 2 (zAd (zAc (zKF (zAc (zAc (zAa (zAe 1 (S_a [(1,.v (PV.bor 9 [(0,0)] 1 0 s.length))] (ap ((by simp):PV.bor 9 [(0,0)] 1 0 (List.map I s).length=PV.bor 9 [(0,0)] 1 0 s.length) an) (S_a [(5,.ret (PV.func 130 [] ((PV.bor 50000000 [(0,0)] 1 0 s.length).ref::(zFp b (zAg b) [x0,x1,x2,x3] []).tail)) ([(PV.own 1 (List.map I s)).box]))] (ap (h93) an) (zAd (zAp 2 ?_))))))))))))))))
   refine zHg (t:=32) (R:=[9]) hY ?_ (yP:=?_)
   ·simp only [List.map_nil,Rg]
    refine zAc (zAa (zAe 2 (zAd (zEl (zAc (zAa (S_a [(1,.v (PV.bor 9 [(0,0)] 1 0 s.length))] (ap ((by simp):PV.bor 9 [(0,0)] 1 0 (List.map I s).length=PV.bor 9 [(0,0)] 1 0 s.length) an) (zAe 1 (S_a [(2,.yes)] (ap ((by exact zB0 (by simp<;>omega)):(Nat.beq 0 0&&s.length.beq (List.map I s).length)=true) an) (zAe 2 (zAd (zAJ (E_a [(1,.yes),(1,.v (PV.own 1 (List.map I s)))] (ap ((by exact zAL (by simp only [List.length_map,zzLn,zAI]<;>omega)):(0+(List.map I s).length).ble (List.map I s).length=true) (ap ((zFc zDb):PV.own 1 (List.take (List.map I s).length (List.drop 0 (List.map I s)))=PV.own 1 (List.map I s)) an)) (PV.tup [PV.own 1 (List.map I s),I (↑n:Int),I 0]) ([]) (by simp [*]) rfl)))))))))))))
   ·have wF:s.length≤7:=by omega
    clear qB kG jK
    clear yZ j3 hse2 yS kZ hY h93 hx wx
    rcases s with _ | ⟨y0,_ | ⟨y1,_ | ⟨y2,_ | ⟨y3,_ | ⟨y4,_ | ⟨y5,_ | ⟨y6,_ | ⟨y7,tl⟩⟩⟩⟩⟩⟩⟩⟩
    ·show _=_
     kernel_rfl
    ·show _=_
     kernel_rfl
    ·show _=_
     kernel_rfl
    ·show _=_
     kernel_rfl
    ·show _=_
     kernel_rfl
    ·show _=_
     kernel_rfl
    ·show _=_
     kernel_rfl
    ·show _=_
     kernel_rfl
    ·exfalso;simp at wF
  | cons m ms =>
   have wG:zDp b s=some (s.set m.1 (m.2:Int)):=yZ
   obtain ⟨g1,g2⟩:=zFC kZ wG
   have g3:=zJb kZ wG
   obtain ⟨g4,g5,_⟩:=jA m (by simp)
   clear jA
   refine zAc (zAp 1 (zKX (zAc (zAa (zAe 2 (zAd (zAc (zKF (zAc (zAc (zAa (zAe 1 (S_a [(1,.v (PV.bor 9 [(0,0)] 1 0 s.length))] (ap ((by simp):PV.bor 9 [(0,0)] 1 0 (List.map I s).length=PV.bor 9 [(0,0)] 1 0 s.length) an) (S_a [(5,.ret (PV.func 130 [] ((PV.bor 50000000 [(0,0)] 1 0 s.length).ref::(zFp b (zAg b) [x0,x1,x2,x3] []).tail)) ([(PV.own 1 (List.map I s)).box]))] (ap (h93) an) (zAd (zAp 2 ?_))))))))))))))))
   refine zHg (t:=32) (R:=[9]) hY ?_ (yP:=?_)
   rotate_left
   ·have wF:s.length≤7:=by omega
    clear qB kG jK g1 g2 g3 g4 g5
    clear yZ j3 yS kZ hY h93 hx wG
    rcases s with _ | ⟨y0,_ | ⟨y1,_ | ⟨y2,_ | ⟨y3,_ | ⟨y4,_ | ⟨y5,_ | ⟨y6,_ | ⟨y7,tl⟩⟩⟩⟩⟩⟩⟩⟩
    ·show _=_
     kernel_rfl
    ·show _=_
     kernel_rfl
    ·show _=_
     kernel_rfl
    ·show _=_
     kernel_rfl
    ·show _=_
     kernel_rfl
    ·show _=_
     kernel_rfl
    ·show _=_
     kernel_rfl
    ·show _=_
     kernel_rfl
    ·exfalso;simp at wF
   simp only [List.map_cons,Rg]
   refine zOk ?_
   refine zAa (zAe 2 (zAd ?_))
   refine ⟨rfl,by kernel_rfl,?_⟩
   refine zAp 3 (zAc (zAa (S_a [(1,.v (PV.bor 9 [(0,0)] 1 0 s.length))] (ap ((by simp):PV.bor 9 [(0,0)] 1 0 (List.map I s).length=PV.bor 9 [(0,0)] 1 0 s.length) an) (zAe 4 (S_a [(2,.ob),(1,.n (m.fst))] (ap ((by exact zA8 (by omega)):decide (m.fst<s.length)=true) (ap ((by simp):some (0+m.fst)=some m.fst) an)) (S_a [(8,.root ((PV.own 1 (List.map I (s.set m.fst (↑m.snd:Int)))).box) true)] (ap (zSP (zO6 (p:=(PV.own 1 (List.map I s)).box) (xs:=[PV.own 1 (List.map I s)]) (x:=PV.own 1 (List.map I s)) (q:=PV.own 1 (List.map I s)) (q':=PV.own 1 (List.map I (s.set m.fst (↑m.snd:Int)))) (y:=PV.own 1 (List.map I (s.set m.fst (↑m.snd:Int)))) (p':=(PV.own 1 (List.map I (s.set m.fst (↑m.snd:Int)))).box) rfl (zOj (q:=PV.own 1 (List.map I s)) (xs:=List.map I s) (x:=I (s.getD m.fst 0)) (y:=I (↑m.snd:Int)) (q':=PV.own 1 (List.map I (s.set m.fst (↑m.snd:Int)))) (zCG (0) (by omega)) rfl (zTj (u:=(↑m.snd:Int)))) rfl rfl) rfl:zBL (PV.own 1 (List.map I s)).box [(0,0)] m.fst 0 (I (↑m.snd:Int)).cells=some (PV.own 1 (List.map I (s.set m.fst (↑m.snd:Int)))).box∧zAM (PV.own 1 (List.map I s)).box (PV.own 1 (List.map I (s.set m.fst (↑m.snd:Int)))).box [(0,0)]=true) an) (zAe 1 (zAd (zBM 2 ?_)))))))))
   refine ⟨by kernel_rfl,?_⟩
   refine zAc (zAa (zAe 2 (zAd (zBE (zAx (zAa (zAe 1 (S_a [(1,.v (I (↑(n+1):Int)))] (ap ((zAR (by omega) (by omega)):I (IntKind.i64.wrap ((↑n:Int)+1))=I (↑(n+1):Int)) an) (zAe 1 (zAd ?_))))))))))
   exact ⟨(n+1,s.set m.1 (m.2:Int)),⟨g1,by rw [j3,g3];simp only;congr 1;omega,by show n+1+pot b (s.set m.1 (m.2:Int))≤pot b l;omega⟩,g2,by kernel_rfl,by kernel_rfl⟩
 ·refine zAi Try.f36 ?_
  refine zAc (zAa (zAe 4 (zAd (zAc (zAa (zAe 2 (S_a [(8,.ret (PV.tup [PV.nilp,I (zAG b l)]) ([]))] (ap (f88_2 (b) (l) (by omega) (by omega) (by omega)) an) (zAe 5 (zAd (zAc (zAc (zAa (zAe 2 (zAd (zGI (zAG b l=0) (by omega) (zAc (zAa (zAe 4 (zAd (zAJ (E_a [] an (PV.tup [PV.own 1 [],I 0,I (zAG b l)]) ([]) ?_ rfl)))))))))))))))))))))
  simp only [zDP,zE9,h,if_false];rfl
end Go.Eng
set_option maxRecDepth 10000
set_option maxHeartbeats 4000000
namespace Go.Eng
open Go Go.Proofs
theorem zPK {b:Dk} {l:List Int} (hs:ShareOk b l):zRu b l=mvs b (zAg b) (zMj b l) l l.length:=by simp only [zRu,zC8 hs,if_true]
end Go.Eng
set_option maxRecDepth 10000
set_option maxHeartbeats 4000000
namespace Go.Eng
open Go Go.Proofs
def mx (a b:Int):Int:=if b>a then b else a
def zWl (b:Dk) (fee f s:List Int) (x y:Nat):Bool:=decide (¬ s.getD x 0=s.getD y 0)&&(has (rnd b x).may (s.getD y 0)&&(has (rnd b y).may (s.getD x 0)&&decide (mx (f.getD (s.getD x 0).toNat 0+(fee.getD y 0-fee.getD x 0)) (f.getD (s.getD y 0).toNat 0-(fee.getD y 0-fee.getD x 0))<mx (f.getD (s.getD x 0).toNat 0) (f.getD (s.getD y 0).toNat 0))))
section
variable [Yo]
end
end Go.Eng
set_option maxRecDepth 10000
set_option maxHeartbeats 4000000
namespace Go.Eng
open Go Go.Proofs
section
variable [Yo]
end
end Go.Eng
set_option maxRecDepth 10000
set_option maxHeartbeats 4000000
namespace Go.Eng
open Go Go.Proofs
def isP (r t:Nat) (m:Nat×Nat):Bool:=decide ((r:Int)=(m.1:Int))&&decide ((t:Int)=(m.2:Int))
def zWn (L:List (Nat×Nat)) (r t:Nat):Bool:=L.any (isP r t)
theorem zTQ {b:Dk} {fee f s:List Int} {n r t:Nat}:(r,t)∈mvs b fee f s n↔r<n∧t<b.cr.toNat∧zNc b fee f s r t=true:=by
 constructor
 ·exact fun h=>zLr h
 ·rintro ⟨h1,h2,h3⟩
  simp only [mvs,List.mem_flatMap,List.mem_range,zGD,List.mem_map,List.mem_filter]
  exact ⟨r,h1,t,⟨h2,h3⟩,rfl⟩
def ltP (a b:Nat×Nat):Prop:=a.1<b.1∨a.1=b.1∧a.2<b.2
section
variable [Yo]
end
end Go.Eng
set_option maxRecDepth 10000
namespace Go.Eng
open Go Go.Proofs
structure MvdOk (nums tries:List Int) (b:Dk) (s:List Int) (S:List (Nat×Nat)) (a1 a2:Nat) (t1 t2:Int):Prop where
 hm:zBm Try.prog zAq 21 [zML,I 6] [zBO nums 0 0] (zVH b) [zBO nums a1 t1]
 jU:zBm Try.prog zAq 23 [zML,zEZ b] [zBO tries 0 0] (.own 1 (s.map I)) [zBO tries a2 t2]
 hs:ShareOk b s
 hg:Good b
 h34:FG 34 [zEZ b,zCm s] (.tup [.own 2 (S.map mvV),I 0])
 kG:(b.rs.length:Int)≤6
 hSl:S.length≤49
 hSw:∀ x y,x<y→y<s.length→zWn S x y=zWl b (zAg b) (zMj b s) s x y
 hSs:S.Pairwise ltP
 h1:nums.length<9223372036854775808
 h2:tries.length<9223372036854775808
end Go.Eng
