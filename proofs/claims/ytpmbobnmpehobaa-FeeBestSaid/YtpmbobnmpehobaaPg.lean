/- The share with the least greatest fee, and that with the least spread, with both numbers, or the error, are as specified, for every box. -/
import Derived.Test.YtpmbobnmpehobaaPf
import Derived.Test.YtpmbobnmpehobaaPd
import Derived.Test.YtpmbobnmpehobaaPe
set_option linter.unusedVariables false
set_option linter.unusedSimpArgs false
set_option linter.unusedSectionVars false
set_option maxRecDepth 10000
namespace Go.Eng
open Go Go.Proofs
def fieldsOf (P:Program) (t:TypeId):List Field:=match P.underlying t with
  | some (.struct fs)=>fs.toList
  | _=>[]
abbrev fsV (r f0 f1 f2 f3:Int):PV := .agg [I r,I f0,I f1,I f2,I f3]
theorem eqA4 (a1 a2 a3 a4 b1 b2 b3 b4:Int):eqEs (eqT Try.prog 18 3) none 1 (.agg [I a1,I a2,I a3,I a4]) (.agg [I b1,I b2,I b3,I b4]) 0 4=some (a1==b1&&(a2==b2&&(a3==b3&&a4==b4))):=by
  have s1:eqEs (eqT Try.prog 18 3) none 1 (.agg [I a1,I a2,I a3,I a4]) (.agg [I b1,I b2,I b3,I b4]) 0 4=(match some (a1==b1) with | some true=>eqEs (eqT Try.prog 18 3) none 1 (.agg [I a1,I a2,I a3,I a4]) (.agg [I b1,I b2,I b3,I b4]) 1 3 | r=>r):=by kernel_rfl
  have s2:eqEs (eqT Try.prog 18 3) none 1 (.agg [I a1,I a2,I a3,I a4]) (.agg [I b1,I b2,I b3,I b4]) 1 3=(match some (a2==b2) with | some true=>eqEs (eqT Try.prog 18 3) none 1 (.agg [I a1,I a2,I a3,I a4]) (.agg [I b1,I b2,I b3,I b4]) 2 2 | r=>r):=by kernel_rfl
  have s3:eqEs (eqT Try.prog 18 3) none 1 (.agg [I a1,I a2,I a3,I a4]) (.agg [I b1,I b2,I b3,I b4]) 2 2=(match some (a3==b3) with | some true=>eqEs (eqT Try.prog 18 3) none 1 (.agg [I a1,I a2,I a3,I a4]) (.agg [I b1,I b2,I b3,I b4]) 3 1 | r=>r):=by kernel_rfl
  have s4:eqEs (eqT Try.prog 18 3) none 1 (.agg [I a1,I a2,I a3,I a4]) (.agg [I b1,I b2,I b3,I b4]) 3 1=(match some (a4==b4) with | some true=>some true | r=>r):=by kernel_rfl
  rw [s1]
  cases a1==b1
  · rfl
  simp only [s2]
  cases a2==b2
  · rfl
  simp only [s3]
  cases a3==b3
  · rfl
  simp only [s4]
  cases a4==b4<;>rfl
theorem eqS5 (a0 a1 a2 a3 a4 b0 b1 b2 b3 b4:Int):eqT Try.prog 20 177 (fsV a0 a1 a2 a3 a4) (fsV b0 b1 b2 b3 b4)=some (a0==b0&&(a1==b1&&(a2==b2&&(a3==b3&&a4==b4)))):=by
  have s1:eqT Try.prog 20 177 (fsV a0 a1 a2 a3 a4) (fsV b0 b1 b2 b3 b4)=(match some (a0==b0) with | some true=>eqFs (eqT Try.prog 19) (shT Try.prog) (fsV a0 a1 a2 a3 a4) (fsV b0 b1 b2 b3 b4) (fieldsOf Try.prog 177).tail | r=>r):=by kernel_rfl
  have s2:eqFs (eqT Try.prog 19) (shT Try.prog) (fsV a0 a1 a2 a3 a4) (fsV b0 b1 b2 b3 b4) (fieldsOf Try.prog 177).tail=(match eqEs (eqT Try.prog 18 3) none 1 (.agg [I a1,I a2,I a3,I a4]) (.agg [I b1,I b2,I b3,I b4]) 0 4 with | some true=>some true | r=>r):=by kernel_rfl
  rw [s1]
  cases a0==b0
  · rfl
  simp only [s2,eqA4,Bool.true_and]
  cases (a1==b1&&(a2==b2&&(a3==b3&&a4==b4)))<;>rfl
structure En where
  r:Int
  f0:Int
  f1:Int
  f2:Int
  f3:Int
  v:Int
abbrev entV (x:En):PV×PV:=(fsV x.r x.f0 x.f1 x.f2 x.f3,I x.v)
def keyB (a0 a1 a2 a3 a4:Int) (x:En):Bool:=a0==x.r&&(a1==x.f0&&(a2==x.f1&&(a3==x.f2&&a4==x.f3)))
theorem findK_en (a0 a1 a2 a3 a4:Int):∀ (M:List En) (i:Nat),findK Try.prog 177 (fsV a0 a1 a2 a3 a4) (M.map entV) i=some ((M.findIdx? (keyB a0 a1 a2 a3 a4)).map (· + i))
  | [],i=>rfl
  | x :: M,i=>by
    have h1:=eqS5 a0 a1 a2 a3 a4 x.r x.f0 x.f1 x.f2 x.f3
    have h2:eqCells (fsV a0 a1 a2 a3 a4).cells (fsV x.r x.f0 x.f1 x.f2 x.f3).cells=some (a0==x.r&&(a1==x.f0&&(a2==x.f1&&(a3==x.f2&&(a4==x.f3&&true))))):=by kernel_rfl
    rw [Bool.and_true] at h2
    rw [List.map_cons]
    simp only [findK,h1,h2]
    rw [List.findIdx?_cons]
    have e:keyB a0 a1 a2 a3 a4 x=(a0==x.r&&(a1==x.f0&&(a2==x.f1&&(a3==x.f2&&a4==x.f3)))):=rfl
    cases hk:keyB a0 a1 a2 a3 a4 x with
    | true =>
      rw [e] at hk
      simp only [hk,Option.map_some,Nat.zero_add,if_true]
    | false =>
      rw [e] at hk
      simp only [hk]
      rw [findK_en a0 a1 a2 a3 a4 M (i+1)]
      simp only [Bool.false_eq_true,if_false,Option.map_map]
      congr 2
      funext y
      simp only [Function.comp];omega
def bump (f c k x:Int):Int:=if c=k then f+x else f
def minF (l:List Int):Int:=l.foldl (fun m x=>if m<0 then x else if x<m then x else m) (-1)
def feeAt (b:Dk) (k:Nat):Int:=(feesOf b).getD (b.rs.length-k) 0
def restS (b:Dk) (w:Int→Int→Int→Int→Int):Nat→Int→Int→Int→Int→Int
  | 0,f0,f1,f2,f3=>w f0 f1 f2 f3
  | k+1,f0,f1,f2,f3=>minF ((rnd b (b.rs.length-(k+1))).may.map fun c=>restS b w k (bump f0 c 0 (feeAt b (k+1))) (bump f1 c 1 (feeAt b (k+1))) (bump f2 c 2 (feeAt b (k+1))) (bump f3 c 3 (feeAt b (k+1))))
structure EnsOk (b:Dk) (w:Int→Int→Int→Int→Int) (M:List En):Prop where
  ok:∀ x∈M,x.v=restS b w (b.rs.length-x.r.toNat) x.f0 x.f1 x.f2 x.f3
theorem ens_find {M:List En} {a0 a1 a2 a3 a4:Int} {i:Nat} (h:M.findIdx? (keyB a0 a1 a2 a3 a4)=some i):∃ x,M[i]? = some x∧x∈M∧x.r=a0∧x.f0=a1∧x.f1=a2∧x.f2=a3∧x.f3=a4:=by
  obtain ⟨hi,hk,_⟩:=List.findIdx?_eq_some_iff_getElem.1 h
  refine ⟨M[i],List.getElem?_eq_getElem hi,List.getElem_mem hi,?_⟩
  simp only [keyB,Bool.and_eq_true,beq_iff_eq] at hk
  exact ⟨hk.1.symm,hk.2.1.symm,hk.2.2.1.symm,hk.2.2.2.1.symm,hk.2.2.2.2.symm⟩
end Go.Eng
set_option maxRecDepth 10000
set_option maxHeartbeats 4000000
namespace Go.Eng
open Go Go.Proofs
section
variable [Yo]
theorem f132 (b:Dk) (r:Nat) (f0 f1 f2 f3 c:Int) (hg:Good b) (hr:r<b.rs.length) (hc:0≤c∧c<4) (h0:0≤f0∧f0≤1000*r) (h1:0≤f1∧f1≤1000*r) (h2:0≤f2∧f2≤1000*r) (h3:0≤f3∧f3≤1000*r) :
    FG 132 [.ref (deskV b (feesOf b)),fsV r f0 f1 f2 f3,I c] (fsV (r+1:Nat) (bump f0 c 0 ((feesOf b).getD r 0)) (bump f1 c 1 ((feesOf b).getD r 0)) (bump f2 c 2 ((feesOf b).getD r 0)) (bump f3 c 3 ((feesOf b).getD r 0))):=by
  have hfl:(feesOf b).length=b.rs.length:=feesOf_len
  have hf:=feesOf_bd hg r
  have hbl:=hg.len
  obtain rfl | rfl | rfl | rfl:c=0∨c=1∨c=2∨c=3:=by omega
  · refine gives_ofX Try.f132 ?_
    refine V_seq (V_region (S_go 2 (S_end (V_seq (V_region (S_go 2 (S_go 1 (S_go 7 (S_a [(2,.v (I ((feesOf b).getD r 0)))] (ap (getm (0) (by omega):(List.map I (feesOf b))[r]? = some (I ((feesOf b).getD r 0))) an) (S_go 1 (S_a [(1,.v (I (f0+(feesOf b).getD r 0)))] (ap ((wrapE rfl (by omega)):I (IntKind.i64.wrap (f0+(feesOf b).getD r 0))=I (f0+(feesOf b).getD r 0)) an) (S_go 1 (S_go 1 (S_go 1 (S_end (V_seq (V_region (S_go 2 (S_a [(1,.v (I (↑(r+1):Int)))] (ap ((wrapE (by omega) (by omega)):I (IntKind.i64.wrap ((↑r:Int)+1))=I (↑(r+1):Int)) an) (S_go 2 (S_end (V_seq (V_region (S_go 2 (S_end (V_ret (E_a [] an (PV.agg [I (↑(r+1):Int),I (f0+(feesOf b).getD r 0),I f1,I f2,I f3]) ([]) rfl rfl)))))))))))))))))))))))))))
  · refine gives_ofX Try.f132 ?_
    refine V_seq (V_region (S_go 2 (S_end (V_seq (V_region (S_go 2 (S_go 1 (S_go 7 (S_a [(2,.v (I ((feesOf b).getD r 0)))] (ap (getm (0) (by omega):(List.map I (feesOf b))[r]? = some (I ((feesOf b).getD r 0))) an) (S_go 1 (S_a [(1,.v (I (f1+(feesOf b).getD r 0)))] (ap ((wrapE rfl (by omega)):I (IntKind.i64.wrap (f1+(feesOf b).getD r 0))=I (f1+(feesOf b).getD r 0)) an) (S_go 1 (S_go 1 (S_go 1 (S_end (V_seq (V_region (S_go 2 (S_a [(1,.v (I (↑(r+1):Int)))] (ap ((wrapE (by omega) (by omega)):I (IntKind.i64.wrap ((↑r:Int)+1))=I (↑(r+1):Int)) an) (S_go 2 (S_end (V_seq (V_region (S_go 2 (S_end (V_ret (E_a [] an (PV.agg [I (↑(r+1):Int),I f0,I (f1+(feesOf b).getD r 0),I f2,I f3]) ([]) rfl rfl)))))))))))))))))))))))))))
  · refine gives_ofX Try.f132 ?_
    refine V_seq (V_region (S_go 2 (S_end (V_seq (V_region (S_go 2 (S_go 1 (S_go 7 (S_a [(2,.v (I ((feesOf b).getD r 0)))] (ap (getm (0) (by omega):(List.map I (feesOf b))[r]? = some (I ((feesOf b).getD r 0))) an) (S_go 1 (S_a [(1,.v (I (f2+(feesOf b).getD r 0)))] (ap ((wrapE rfl (by omega)):I (IntKind.i64.wrap (f2+(feesOf b).getD r 0))=I (f2+(feesOf b).getD r 0)) an) (S_go 1 (S_go 1 (S_go 1 (S_end (V_seq (V_region (S_go 2 (S_a [(1,.v (I (↑(r+1):Int)))] (ap ((wrapE (by omega) (by omega)):I (IntKind.i64.wrap ((↑r:Int)+1))=I (↑(r+1):Int)) an) (S_go 2 (S_end (V_seq (V_region (S_go 2 (S_end (V_ret (E_a [] an (PV.agg [I (↑(r+1):Int),I f0,I f1,I (f2+(feesOf b).getD r 0),I f3]) ([]) rfl rfl)))))))))))))))))))))))))))
  · refine gives_ofX Try.f132 ?_
    refine V_seq (V_region (S_go 2 (S_end (V_seq (V_region (S_go 2 (S_go 1 (S_go 7 (S_a [(2,.v (I ((feesOf b).getD r 0)))] (ap (getm (0) (by omega):(List.map I (feesOf b))[r]? = some (I ((feesOf b).getD r 0))) an) (S_go 1 (S_a [(1,.v (I (f3+(feesOf b).getD r 0)))] (ap ((wrapE rfl (by omega)):I (IntKind.i64.wrap (f3+(feesOf b).getD r 0))=I (f3+(feesOf b).getD r 0)) an) (S_go 1 (S_go 1 (S_go 1 (S_end (V_seq (V_region (S_go 2 (S_a [(1,.v (I (↑(r+1):Int)))] (ap ((wrapE (by omega) (by omega)):I (IntKind.i64.wrap ((↑r:Int)+1))=I (↑(r+1):Int)) an) (S_go 2 (S_end (V_seq (V_region (S_go 2 (S_end (V_ret (E_a [] an (PV.agg [I (↑(r+1):Int),I f0,I f1,I f2,I (f3+(feesOf b).getD r 0)]) ([]) rfl rfl)))))))))))))))))))))))))))
def capsA:List PV:=[.addr 50000000 [] 0 0 none,.addr 50000001 [] 0 0 (some 1),.addr 50000002 [] 0 0 none,.addr 50000003 [] 0 0 none]
def hidA (b:Dk) (t:PV) (M:List En):List PV:=[.box (.ref (deskV b (feesOf b))),.box (.agg [t]),.box (.omap (M.map entV)),.box (.func 131 [] capsA)]
def mostT (b:Dk):PV := .func 103 [.ref (deskV b (feesOf b))] []
omit [Yo] in
theorem minF_next {l:List Int} {F:Int→Int} {j:Nat} (h:j<l.length):minF ((l.take (j+1)).map F)=(if minF ((l.take j).map F)<0 then F (l.getD j 0) else if F (l.getD j 0)<minF ((l.take j).map F) then F (l.getD j 0) else minF ((l.take j).map F)):=by
  rw [List.take_add_one,List.getElem?_eq_getElem h,getD_lt h]
  simp only [minF,List.map_append,Option.toList,List.map_cons,List.map_nil,List.foldl_append,List.foldl_cons,List.foldl_nil]
  rfl
omit [Yo] in
theorem bump_bd {f c k x:Int} {r:Nat} (hf:0≤f∧f≤1000*r) (hx:0≤x∧x≤1000):0≤bump f c k x∧bump f c k x≤1000*(r+1:Nat):=by
  unfold bump;split<;>omega
omit [Yo] in
theorem no_key {M N:List En} {a0 a1 a2 a3 a4:Int} (h:M.findIdx? (keyB a0 a1 a2 a3 a4)=none) (h2:∀ x∈N,a0<x.r):(M++N).findIdx? (keyB a0 a1 a2 a3 a4)=none:=by
  rw [List.findIdx?_eq_none_iff] at h ⊢
  intro x hx
  rcases List.mem_append.1 hx with hx | hx
  · exact h x hx
  · have:=h2 x hx
    simp only [keyB,Bool.and_eq_false_iff,beq_eq_false_iff_ne]
    exact .inl (by omega)
theorem f131a (b:Dk) (w:Int→Int→Int→Int→Int) (hg:Good b) (hw:∀ f0 f1 f2 f3:Int,(0≤f0∧f0≤7000)→(0≤f1∧f1≤7000)→(0≤f2∧f2≤7000)→(0≤f3∧f3≤7000)→FG 103 [.ref (deskV b (feesOf b)),.agg [I f0,I f1,I f2,I f3]] (I (w f0 f1 f2 f3))):∀ (k:Nat) (r:Nat) (f0 f1 f2 f3:Int) (M:List En),r+k=b.rs.length→(0≤f0∧f0≤1000*r)→(0≤f1∧f1≤1000*r)→(0≤f2∧f2≤1000*r)→(0≤f3∧f3≤1000*r)→EnsOk b w M →
    ∃ v h',Gives Try.prog feeH 131 (fsV r f0 f1 f2 f3::capsA) (hidA b (.func 103 [.ref (deskV b (feesOf b))] []) M) v h'∧∃ N,v=I (restS b w k f0 f1 f2 f3)∧h'=hidA b (.func 103 [.ref (deskV b (feesOf b))] []) (M++N)∧EnsOk b w N∧∀ x∈N,(r:Int)≤x.r:=by
  have hbl:=hg.len
  intro k
  induction k with
  | zero =>
    intro r f0 f1 f2 f3 M hr h0 h1 h2 h3 hM
    have hw':=hw f0 f1 f2 f3 (by omega) (by omega) (by omega) (by omega)
    unfold capsA hidA
    refine gives_exX Try.f131 _ ?_
    refine V_seq (V_region (S_go 2 (S_end (V_seq (V_seq (V_region (S_go 7 (S_a [(0,.n (b.rs.length))] (ap ((by simp):some (List.map rndV b.rs).length=some b.rs.length) an) (S_go 1 (S_end (V_decT ((↑r:Int)=(↑b.rs.length:Int)) (by omega) (V_seq (V_region (S_go 4 (S_a [(7,.ret (I (w f0 f1 f2 f3)) ([]))] (ap (hw (f0) (f1) (f2) (f3) (by omega) (by omega) (by omega) (by omega)) an) (S_go 1 (S_end (V_ret (E_q [] an (I (w f0 f1 f2 f3)) ([(PV.agg [I b.cr,I b.wd,I b.st,I b.fn,PV.sl (List.map rndV b.rs),PV.sl (List.map I (feesOf b))]).ref.box,(PV.agg [PV.func 103 [(PV.agg [I b.cr,I b.wd,I b.st,I b.fn,PV.sl (List.map rndV b.rs),PV.sl (List.map I (feesOf b))]).ref] []]).box,(PV.omap (List.map entV M)).box,(PV.func 131 [] [PV.addr 50000000 [] 0 0 none,PV.addr 50000001 [] 0 0 (some 1),PV.addr 50000002 [] 0 0 none,PV.addr 50000003 [] 0 0 none]).box]) ?_)))))))))))))))))))
    exact ⟨[],rfl,by rw [List.append_nil];rfl,⟨fun x hx=>by cases hx⟩,fun x hx=>by cases hx⟩
  | succ k ih =>
    intro r f0 f1 f2 f3 M hr h0 h1 h2 h3 hM
    have hX:=feesOf_bd hg r
    have hkr:r=b.rs.length-(k+1):=by omega
    have hre:restS b w (k+1) f0 f1 f2 f3=minF ((b.rs.getD r default).may.map fun c=>restS b w k (bump f0 c 0 ((feesOf b).getD r 0)) (bump f1 c 1 ((feesOf b).getD r 0)) (bump f2 c 2 ((feesOf b).getD r 0)) (bump f3 c 3 ((feesOf b).getD r 0))):=by
      simp only [restS,feeAt,← hkr,rnd]
    cases hL:M.findIdx? (keyB r f0 f1 f2 f3) with
    | some i =>
      have hfind:findK Try.prog 177 (fsV r f0 f1 f2 f3) (M.map entV) 0=some (some i):=by rw [findK_en,hL];rfl
      obtain ⟨x,hx1,hx2,e0,e1,e2,e3,e4⟩:=ens_find hL
      have hat:atIdx (M.map entV) i=some (I (restS b w (k+1) f0 f1 f2 f3)):=by
        have:=hM.ok x hx2
        rw [e0,e1,e2,e3,e4,Int.toNat_natCast,show b.rs.length-r=k+1 by omega] at this
        rw [← this]
        simp only [atIdx,List.getElem?_map,hx1,Option.map_some]
      clear hre ih
      unfold capsA hidA
      refine gives_exX Try.f131 _ ?_
      refine V_seq (V_region (S_go 2 (S_end (V_seq (V_seq (V_region (S_go 7 (S_a [(0,.n (b.rs.length))] (ap ((by simp):some (List.map rndV b.rs).length=some b.rs.length) an) (S_go 1 (S_end (V_decF ((↑r:Int)=(↑b.rs.length:Int)) (by omega) (V_skip (V_seq (V_seq (V_region (S_go 2 (S_a [(3,.ix (some i)),(0,.v (I (restS b w (k+1) f0 f1 f2 f3)))] (ap (hfind) (ap (hat:atIdx (List.map entV M) i=some (I (restS b w (k+1) f0 f1 f2 f3))) an)) (S_go 5 (S_end (V_seq (V_region (S_go 1 (S_end (V_true (V_seq (V_region (S_go 2 (S_end (V_ret (E_q [] an (I (restS b w (k+1) f0 f1 f2 f3)) ([(PV.agg [I b.cr,I b.wd,I b.st,I b.fn,PV.sl (List.map rndV b.rs),PV.sl (List.map I (feesOf b))]).ref.box,(PV.agg [PV.func 103 [(PV.agg [I b.cr,I b.wd,I b.st,I b.fn,PV.sl (List.map rndV b.rs),PV.sl (List.map I (feesOf b))]).ref] []]).box,(PV.omap (List.map entV M)).box,(PV.func 131 [] [PV.addr 50000000 [] 0 0 none,PV.addr 50000001 [] 0 0 (some 1),PV.addr 50000002 [] 0 0 none,PV.addr 50000003 [] 0 0 none]).box]) ?_))))))))))))))))))))))))))))))
      exact ⟨[],rfl,by rw [List.append_nil];rfl,⟨fun x hx=>by cases hx⟩,fun x hx=>by cases hx⟩
    | none =>
      have hfind:findK Try.prog 177 (fsV r f0 f1 f2 f3) (M.map entV) 0=some none:=by rw [findK_en,hL];rfl
      have hmay:=good_may hg (i:=r) (by omega)
      have hml:=incr_len hmay.2.2 hmay.2.1 hg.cr
      have hcr:=hg.cr
      rw [hre]
      unfold capsA hidA
      refine gives_exX Try.f131 _ ?_
      refine V_seq (V_region (S_go 2 (S_end (V_seq (V_seq (V_region (S_go 7 (S_a [(0,.n (b.rs.length))] (ap ((by simp):some (List.map rndV b.rs).length=some b.rs.length) an) (S_go 1 (S_end (V_decF ((↑r:Int)=(↑b.rs.length:Int)) (by omega) (V_skip (V_seq (V_seq (V_region (S_go 2 (S_a [(3,.ix (none))] (ap (hfind) an) (S_go 5 (S_end (V_seq (V_region (S_go 1 (S_end (V_false (V_skip (V_seq (V_region (S_go 1 (S_end (V_seq (V_seq (V_region (S_go 7 (S_a [(2,.v (PV.agg [I (b.rs.getD r default).w,I (b.rs.getD r default).s,PV.sl (List.map I (b.rs.getD r default).may)]))] (ap (getm (default) (by omega):(List.map rndV b.rs)[r]? = some (PV.agg [I (b.rs.getD r default).w,I (b.rs.getD r default).s,PV.sl (List.map I (b.rs.getD r default).may)])) an) (S_go 2 (S_a [(0,.n ((b.rs.getD r default).may.length))] (ap ((by simp):some (List.map I (b.rs.getD r default).may).length=some (b.rs.getD r default).may.length) an) (S_go 1 (S_end (V_block 0 ?_)))))))))))))))))))))))))))))))))))))))
      clear hfind
      generalize hF:(fun c=>restS b w k (bump f0 c 0 ((feesOf b).getD r 0)) (bump f1 c 1 ((feesOf b).getD r 0)) (bump f2 c 2 ((feesOf b).getD r 0)) (bump f3 c 3 ((feesOf b).getD r 0)))=F at *
      refine V_loopS (fun (j,m,Q)=>j≤(b.rs.getD r default).may.length∧m=minF (((b.rs.getD r default).may.take j).map F)∧∃ N,Q=M++N∧EnsOk b w N∧∀ x∈N,((r+1:Nat):Int)≤x.r) (fun (j,m,Q)=>[(9,I m),(46,I (j:Nat)),(50000002,.box (.omap (Q.map entV)))]) (fun (j,_,_)=>(b.rs.getD r default).may.length-j) ((0:Nat),(-1:Int),M) ⟨Nat.zero_le _,rfl,[],(List.append_nil M).symm,⟨fun x hx=>by cases hx⟩,fun x hx=>by cases hx⟩ fun (j,m,Q) ⟨hj,hm,N,hQ,hN,hNr⟩=>?_
      subst hQ
      by_cases hjl:j<(b.rs.getD r default).may.length
      · have hc:=getD_all hmay.2.1 j hjl
        have hms:=minF_next (F:=F) hjl
        rw [← hm] at hms
        have hFc:F ((b.rs.getD r default).may.getD j 0)=restS b w k (bump f0 ((b.rs.getD r default).may.getD j 0) 0 ((feesOf b).getD r 0)) (bump f1 ((b.rs.getD r default).may.getD j 0) 1 ((feesOf b).getD r 0)) (bump f2 ((b.rs.getD r default).may.getD j 0) 2 ((feesOf b).getD r 0)) (bump f3 ((b.rs.getD r default).may.getD j 0) 3 ((feesOf b).getD r 0)):=by rw [← hF]
        obtain ⟨v,h',hcall,N2,rfl,rfl,hN2,hN2r⟩:=ih (r+1) _ _ _ _ (M++N) (by omega) (bump_bd (c:=(b.rs.getD r default).may.getD j 0) (k:=0) h0 hX) (bump_bd (c:=(b.rs.getD r default).may.getD j 0) (k:=1) h1 hX) (bump_bd (c:=(b.rs.getD r default).may.getD j 0) (k:=2) h2 hX) (bump_bd (c:=(b.rs.getD r default).may.getD j 0) (k:=3) h3 hX) ⟨fun x hx=>(List.mem_append.1 hx).elim (hM.ok x) (hN.ok x)⟩
        rw [← hFc] at hcall
        unfold capsA hidA at hcall
        have hNN:EnsOk b w (N++N2):=⟨fun x hx=>(List.mem_append.1 hx).elim (hN.ok x) (hN2.ok x)⟩
        have hNNr:∀ x∈N++N2,((r+1:Nat):Int)≤x.r:=fun x hx=>(List.mem_append.1 hx).elim (hNr x) (hN2r x)
        rw [List.append_assoc] at hcall
        clear ih hm hN hN2 hNr hN2r hM hre hF
        refine V_seq (V_region (S_go 1 (S_end (V_seq (V_decT ((↑j:Int)<(↑(b.rs.getD r default).may.length:Int)) (by omega) (V_skip (V_seq (V_block 1 (V_seq (V_region (S_a [(2,.v (I ((b.rs.getD r default).may.getD j 0)))] (ap (getm (0) (by omega):(List.map I (b.rs.getD r default).may)[j]? = some (I ((b.rs.getD r default).may.getD j 0))) an) (S_go 2 (S_end (V_seq (V_region (S_go 4 (S_a [(9,.ret (fsV (↑(r+1):Int) (bump f0 ((b.rs.getD r default).may.getD j 0) 0 ((feesOf b).getD r 0)) (bump f1 ((b.rs.getD r default).may.getD j 0) 1 ((feesOf b).getD r 0)) (bump f2 ((b.rs.getD r default).may.getD j 0) 2 ((feesOf b).getD r 0)) (bump f3 ((b.rs.getD r default).may.getD j 0) 3 ((feesOf b).getD r 0))) ([]))] (ap (f132 (b) (r) (f0) (f1) (f2) (f3) ((b.rs.getD r default).may.getD j 0) (by omega) (by first | omega | (simp<;>omega)) (by omega) (by omega) (by omega) (by omega) (by omega)) an) (S_a [(6,.ret (I (F ((b.rs.getD r default).may.getD j 0))) ([(deskV b (feesOf b)).ref.box,(PV.agg [PV.func 103 [(deskV b (feesOf b)).ref] []]).box,(PV.omap (List.map entV (M++(N++N2)))).box,(PV.func 131 [] capsA).box]))] (ap (hcall) an) (S_go 1 (S_end (V_seq (V_region (S_go 3 (S_dec 58 (m<0) (fun k1=>(S_go 4 (S_end (V_true (V_region (S_go 2 (S_end (V_region (S_a [(1,.v (I (↑(j+1):Int)))] (ap ((wrapE (by omega) (by omega)):I (IntKind.i64.wrap ((↑j:Int)+1))=I (↑(j+1):Int)) an) (S_go 1 (S_end ?_))))))))))) (fun k1=>(S_go 4 (S_end (V_dec (F ((b.rs.getD r default).may.getD j 0)<m) (fun k2=>(V_region (S_go 2 (S_end (V_region (S_a [(1,.v (I (↑(j+1):Int)))] (ap ((wrapE (by omega) (by omega)):I (IntKind.i64.wrap ((↑j:Int)+1))=I (↑(j+1):Int)) an) (S_go 1 (S_end ?_)))))))) (fun k2=>(V_skip (V_region (S_a [(1,.v (I (↑(j+1):Int)))] (ap ((wrapE (by omega) (by omega)):I (IntKind.i64.wrap ((↑j:Int)+1))=I (↑(j+1):Int)) an) (S_go 1 (S_end ?_))))))))))))))))))))))))))))))))))
        · exact ⟨(j+1,F ((b.rs.getD r default).may.getD j 0),M++(N++N2)),⟨by omega,by rw [hms,if_pos k1],_,rfl,hNN,hNNr⟩,by simp only;omega,by kernel_rfl,by kernel_rfl⟩
        · exact ⟨(j+1,F ((b.rs.getD r default).may.getD j 0),M++(N++N2)),⟨by omega,by rw [hms,if_neg k1,if_pos k2],_,rfl,hNN,hNNr⟩,by simp only;omega,by kernel_rfl,by kernel_rfl⟩
        · exact ⟨(j+1,m,M++(N++N2)),⟨by omega,by rw [hms,if_neg k1,if_neg k2],_,rfl,hNN,hNNr⟩,by simp only;omega,by kernel_rfl,by kernel_rfl⟩
      · rw [List.take_of_length_le (by omega)] at hm
        have hfind:findK Try.prog 177 (fsV r f0 f1 f2 f3) ((M++N).map entV) 0=some none:=by
          rw [findK_en,no_key hL fun x hx=>by have:=hNr x hx;omega];rfl
        refine V_seq (V_region (S_go 1 (S_end (V_seq (V_decF ((↑j:Int)<(↑(b.rs.getD r default).may.length:Int)) (by omega) (V_exit 0 (V_seq (V_region (S_go 3 (S_a [(5,.ix (none)),(0,.v (PV.omap (List.map entV (M++N++[{r:=↑r,f0:=f0,f1:=f1,f2:=f2,f3:=f3,v:=m}]))))] (ap (hfind) (ap ((by simp):PV.omap (List.map entV (M++N)++[(PV.agg [I (↑r:Int),I f0,I f1,I f2,I f3],I m)])=PV.omap (List.map entV (M++N++[{r:=↑r,f0:=f0,f1:=f1,f2:=f2,f3:=f3,v:=m}]))) an)) (S_end (V_seq (V_region (S_go 2 (S_end (V_ret (E_q [] an (I m) ([(PV.agg [I b.cr,I b.wd,I b.st,I b.fn,PV.sl (List.map rndV b.rs),PV.sl (List.map I (feesOf b))]).ref.box,(PV.agg [PV.func 103 [(PV.agg [I b.cr,I b.wd,I b.st,I b.fn,PV.sl (List.map rndV b.rs),PV.sl (List.map I (feesOf b))]).ref] []]).box,(PV.omap (List.map entV (M++N++[{r:=(↑r:Int),f0:=f0,f1:=f1,f2:=f2,f3:=f3,v:=m}]))).box,(PV.func 131 [] [PV.addr 50000000 [] 0 0 none,PV.addr 50000001 [] 0 0 (some 1),PV.addr 50000002 [] 0 0 none,PV.addr 50000003 [] 0 0 none]).box]) ?_)))))))))))))))))
        refine ⟨N++[⟨r,f0,f1,f2,f3,m⟩],by rw [hm],by rw [← List.append_assoc];rfl,⟨fun x hx=>?_⟩,fun x hx=>?_⟩
        · rcases List.mem_append.1 hx with hx | hx
          · exact hN.ok x hx
          · rw [List.mem_singleton] at hx;subst hx
            simp only [Int.toNat_natCast,show b.rs.length-r=k+1 by omega]
            rw [hre,hm]
        · rcases List.mem_append.1 hx with hx | hx
          · have:=hNr x hx;omega
          · rw [List.mem_singleton] at hx;subst hx;exact Int.le_refl _
theorem f131b (b:Dk) (w:Int→Int→Int→Int→Int) (hg:Good b) (hw:∀ f0 f1 f2 f3:Int,(0≤f0∧f0≤7000)→(0≤f1∧f1≤7000)→(0≤f2∧f2≤7000)→(0≤f3∧f3≤7000)→FG 107 [.ref (deskV b (feesOf b)),.agg [I f0,I f1,I f2,I f3]] (I (w f0 f1 f2 f3))):∀ (k:Nat) (r:Nat) (f0 f1 f2 f3:Int) (M:List En),r+k=b.rs.length→(0≤f0∧f0≤1000*r)→(0≤f1∧f1≤1000*r)→(0≤f2∧f2≤1000*r)→(0≤f3∧f3≤1000*r)→EnsOk b w M →
    ∃ v h',Gives Try.prog feeH 131 (fsV r f0 f1 f2 f3::capsA) (hidA b (.func 107 [.ref (deskV b (feesOf b))] []) M) v h'∧∃ N,v=I (restS b w k f0 f1 f2 f3)∧h'=hidA b (.func 107 [.ref (deskV b (feesOf b))] []) (M++N)∧EnsOk b w N∧∀ x∈N,(r:Int)≤x.r:=by
  have hbl:=hg.len
  intro k
  induction k with
  | zero =>
    intro r f0 f1 f2 f3 M hr h0 h1 h2 h3 hM
    have hw':=hw f0 f1 f2 f3 (by omega) (by omega) (by omega) (by omega)
    unfold capsA hidA
    refine gives_exX Try.f131 _ ?_
    refine V_seq (V_region (S_go 2 (S_end (V_seq (V_seq (V_region (S_go 7 (S_a [(0,.n (b.rs.length))] (ap ((by simp):some (List.map rndV b.rs).length=some b.rs.length) an) (S_go 1 (S_end (V_decT ((↑r:Int)=(↑b.rs.length:Int)) (by omega) (V_seq (V_region (S_go 4 (S_a [(7,.ret (I (w f0 f1 f2 f3)) ([]))] (ap (hw (f0) (f1) (f2) (f3) (by omega) (by omega) (by omega) (by omega)) an) (S_go 1 (S_end (V_ret (E_q [] an (I (w f0 f1 f2 f3)) ([(PV.agg [I b.cr,I b.wd,I b.st,I b.fn,PV.sl (List.map rndV b.rs),PV.sl (List.map I (feesOf b))]).ref.box,(PV.agg [PV.func 107 [(PV.agg [I b.cr,I b.wd,I b.st,I b.fn,PV.sl (List.map rndV b.rs),PV.sl (List.map I (feesOf b))]).ref] []]).box,(PV.omap (List.map entV M)).box,(PV.func 131 [] [PV.addr 50000000 [] 0 0 none,PV.addr 50000001 [] 0 0 (some 1),PV.addr 50000002 [] 0 0 none,PV.addr 50000003 [] 0 0 none]).box]) ?_)))))))))))))))))))
    exact ⟨[],rfl,by rw [List.append_nil];rfl,⟨fun x hx=>by cases hx⟩,fun x hx=>by cases hx⟩
  | succ k ih =>
    intro r f0 f1 f2 f3 M hr h0 h1 h2 h3 hM
    have hX:=feesOf_bd hg r
    have hkr:r=b.rs.length-(k+1):=by omega
    have hre:restS b w (k+1) f0 f1 f2 f3=minF ((b.rs.getD r default).may.map fun c=>restS b w k (bump f0 c 0 ((feesOf b).getD r 0)) (bump f1 c 1 ((feesOf b).getD r 0)) (bump f2 c 2 ((feesOf b).getD r 0)) (bump f3 c 3 ((feesOf b).getD r 0))):=by
      simp only [restS,feeAt,← hkr,rnd]
    cases hL:M.findIdx? (keyB r f0 f1 f2 f3) with
    | some i =>
      have hfind:findK Try.prog 177 (fsV r f0 f1 f2 f3) (M.map entV) 0=some (some i):=by rw [findK_en,hL];rfl
      obtain ⟨x,hx1,hx2,e0,e1,e2,e3,e4⟩:=ens_find hL
      have hat:atIdx (M.map entV) i=some (I (restS b w (k+1) f0 f1 f2 f3)):=by
        have:=hM.ok x hx2
        rw [e0,e1,e2,e3,e4,Int.toNat_natCast,show b.rs.length-r=k+1 by omega] at this
        rw [← this]
        simp only [atIdx,List.getElem?_map,hx1,Option.map_some]
      clear hre ih
      unfold capsA hidA
      refine gives_exX Try.f131 _ ?_
      refine V_seq (V_region (S_go 2 (S_end (V_seq (V_seq (V_region (S_go 7 (S_a [(0,.n (b.rs.length))] (ap ((by simp):some (List.map rndV b.rs).length=some b.rs.length) an) (S_go 1 (S_end (V_decF ((↑r:Int)=(↑b.rs.length:Int)) (by omega) (V_skip (V_seq (V_seq (V_region (S_go 2 (S_a [(3,.ix (some i)),(0,.v (I (restS b w (k+1) f0 f1 f2 f3)))] (ap (hfind) (ap (hat:atIdx (List.map entV M) i=some (I (restS b w (k+1) f0 f1 f2 f3))) an)) (S_go 5 (S_end (V_seq (V_region (S_go 1 (S_end (V_true (V_seq (V_region (S_go 2 (S_end (V_ret (E_q [] an (I (restS b w (k+1) f0 f1 f2 f3)) ([(PV.agg [I b.cr,I b.wd,I b.st,I b.fn,PV.sl (List.map rndV b.rs),PV.sl (List.map I (feesOf b))]).ref.box,(PV.agg [PV.func 107 [(PV.agg [I b.cr,I b.wd,I b.st,I b.fn,PV.sl (List.map rndV b.rs),PV.sl (List.map I (feesOf b))]).ref] []]).box,(PV.omap (List.map entV M)).box,(PV.func 131 [] [PV.addr 50000000 [] 0 0 none,PV.addr 50000001 [] 0 0 (some 1),PV.addr 50000002 [] 0 0 none,PV.addr 50000003 [] 0 0 none]).box]) ?_))))))))))))))))))))))))))))))
      exact ⟨[],rfl,by rw [List.append_nil];rfl,⟨fun x hx=>by cases hx⟩,fun x hx=>by cases hx⟩
    | none =>
      have hfind:findK Try.prog 177 (fsV r f0 f1 f2 f3) (M.map entV) 0=some none:=by rw [findK_en,hL];rfl
      have hmay:=good_may hg (i:=r) (by omega)
      have hml:=incr_len hmay.2.2 hmay.2.1 hg.cr
      have hcr:=hg.cr
      rw [hre]
      unfold capsA hidA
      refine gives_exX Try.f131 _ ?_
      refine V_seq (V_region (S_go 2 (S_end (V_seq (V_seq (V_region (S_go 7 (S_a [(0,.n (b.rs.length))] (ap ((by simp):some (List.map rndV b.rs).length=some b.rs.length) an) (S_go 1 (S_end (V_decF ((↑r:Int)=(↑b.rs.length:Int)) (by omega) (V_skip (V_seq (V_seq (V_region (S_go 2 (S_a [(3,.ix (none))] (ap (hfind) an) (S_go 5 (S_end (V_seq (V_region (S_go 1 (S_end (V_false (V_skip (V_seq (V_region (S_go 1 (S_end (V_seq (V_seq (V_region (S_go 7 (S_a [(2,.v (PV.agg [I (b.rs.getD r default).w,I (b.rs.getD r default).s,PV.sl (List.map I (b.rs.getD r default).may)]))] (ap (getm (default) (by omega):(List.map rndV b.rs)[r]? = some (PV.agg [I (b.rs.getD r default).w,I (b.rs.getD r default).s,PV.sl (List.map I (b.rs.getD r default).may)])) an) (S_go 2 (S_a [(0,.n ((b.rs.getD r default).may.length))] (ap ((by simp):some (List.map I (b.rs.getD r default).may).length=some (b.rs.getD r default).may.length) an) (S_go 1 (S_end (V_block 0 ?_)))))))))))))))))))))))))))))))))))))))
      clear hfind
      generalize hF:(fun c=>restS b w k (bump f0 c 0 ((feesOf b).getD r 0)) (bump f1 c 1 ((feesOf b).getD r 0)) (bump f2 c 2 ((feesOf b).getD r 0)) (bump f3 c 3 ((feesOf b).getD r 0)))=F at *
      refine V_loopS (fun (j,m,Q)=>j≤(b.rs.getD r default).may.length∧m=minF (((b.rs.getD r default).may.take j).map F)∧∃ N,Q=M++N∧EnsOk b w N∧∀ x∈N,((r+1:Nat):Int)≤x.r) (fun (j,m,Q)=>[(9,I m),(46,I (j:Nat)),(50000002,.box (.omap (Q.map entV)))]) (fun (j,_,_)=>(b.rs.getD r default).may.length-j) ((0:Nat),(-1:Int),M) ⟨Nat.zero_le _,rfl,[],(List.append_nil M).symm,⟨fun x hx=>by cases hx⟩,fun x hx=>by cases hx⟩ fun (j,m,Q) ⟨hj,hm,N,hQ,hN,hNr⟩=>?_
      subst hQ
      by_cases hjl:j<(b.rs.getD r default).may.length
      · have hc:=getD_all hmay.2.1 j hjl
        have hms:=minF_next (F:=F) hjl
        rw [← hm] at hms
        have hFc:F ((b.rs.getD r default).may.getD j 0)=restS b w k (bump f0 ((b.rs.getD r default).may.getD j 0) 0 ((feesOf b).getD r 0)) (bump f1 ((b.rs.getD r default).may.getD j 0) 1 ((feesOf b).getD r 0)) (bump f2 ((b.rs.getD r default).may.getD j 0) 2 ((feesOf b).getD r 0)) (bump f3 ((b.rs.getD r default).may.getD j 0) 3 ((feesOf b).getD r 0)):=by rw [← hF]
        obtain ⟨v,h',hcall,N2,rfl,rfl,hN2,hN2r⟩:=ih (r+1) _ _ _ _ (M++N) (by omega) (bump_bd (c:=(b.rs.getD r default).may.getD j 0) (k:=0) h0 hX) (bump_bd (c:=(b.rs.getD r default).may.getD j 0) (k:=1) h1 hX) (bump_bd (c:=(b.rs.getD r default).may.getD j 0) (k:=2) h2 hX) (bump_bd (c:=(b.rs.getD r default).may.getD j 0) (k:=3) h3 hX) ⟨fun x hx=>(List.mem_append.1 hx).elim (hM.ok x) (hN.ok x)⟩
        rw [← hFc] at hcall
        unfold capsA hidA at hcall
        have hNN:EnsOk b w (N++N2):=⟨fun x hx=>(List.mem_append.1 hx).elim (hN.ok x) (hN2.ok x)⟩
        have hNNr:∀ x∈N++N2,((r+1:Nat):Int)≤x.r:=fun x hx=>(List.mem_append.1 hx).elim (hNr x) (hN2r x)
        rw [List.append_assoc] at hcall
        clear ih hm hN hN2 hNr hN2r hM hre hF
        refine V_seq (V_region (S_go 1 (S_end (V_seq (V_decT ((↑j:Int)<(↑(b.rs.getD r default).may.length:Int)) (by omega) (V_skip (V_seq (V_block 1 (V_seq (V_region (S_a [(2,.v (I ((b.rs.getD r default).may.getD j 0)))] (ap (getm (0) (by omega):(List.map I (b.rs.getD r default).may)[j]? = some (I ((b.rs.getD r default).may.getD j 0))) an) (S_go 2 (S_end (V_seq (V_region (S_go 4 (S_a [(9,.ret (fsV (↑(r+1):Int) (bump f0 ((b.rs.getD r default).may.getD j 0) 0 ((feesOf b).getD r 0)) (bump f1 ((b.rs.getD r default).may.getD j 0) 1 ((feesOf b).getD r 0)) (bump f2 ((b.rs.getD r default).may.getD j 0) 2 ((feesOf b).getD r 0)) (bump f3 ((b.rs.getD r default).may.getD j 0) 3 ((feesOf b).getD r 0))) ([]))] (ap (f132 (b) (r) (f0) (f1) (f2) (f3) ((b.rs.getD r default).may.getD j 0) (by omega) (by first | omega | (simp<;>omega)) (by omega) (by omega) (by omega) (by omega) (by omega)) an) (S_a [(6,.ret (I (F ((b.rs.getD r default).may.getD j 0))) ([(deskV b (feesOf b)).ref.box,(PV.agg [PV.func 107 [(deskV b (feesOf b)).ref] []]).box,(PV.omap (List.map entV (M++(N++N2)))).box,(PV.func 131 [] capsA).box]))] (ap (hcall) an) (S_go 1 (S_end (V_seq (V_region (S_go 3 (S_dec 58 (m<0) (fun k1=>(S_go 4 (S_end (V_true (V_region (S_go 2 (S_end (V_region (S_a [(1,.v (I (↑(j+1):Int)))] (ap ((wrapE (by omega) (by omega)):I (IntKind.i64.wrap ((↑j:Int)+1))=I (↑(j+1):Int)) an) (S_go 1 (S_end ?_))))))))))) (fun k1=>(S_go 4 (S_end (V_dec (F ((b.rs.getD r default).may.getD j 0)<m) (fun k2=>(V_region (S_go 2 (S_end (V_region (S_a [(1,.v (I (↑(j+1):Int)))] (ap ((wrapE (by omega) (by omega)):I (IntKind.i64.wrap ((↑j:Int)+1))=I (↑(j+1):Int)) an) (S_go 1 (S_end ?_)))))))) (fun k2=>(V_skip (V_region (S_a [(1,.v (I (↑(j+1):Int)))] (ap ((wrapE (by omega) (by omega)):I (IntKind.i64.wrap ((↑j:Int)+1))=I (↑(j+1):Int)) an) (S_go 1 (S_end ?_))))))))))))))))))))))))))))))))))
        · exact ⟨(j+1,F ((b.rs.getD r default).may.getD j 0),M++(N++N2)),⟨by omega,by rw [hms,if_pos k1],_,rfl,hNN,hNNr⟩,by simp only;omega,by kernel_rfl,by kernel_rfl⟩
        · exact ⟨(j+1,F ((b.rs.getD r default).may.getD j 0),M++(N++N2)),⟨by omega,by rw [hms,if_neg k1,if_pos k2],_,rfl,hNN,hNNr⟩,by simp only;omega,by kernel_rfl,by kernel_rfl⟩
        · exact ⟨(j+1,m,M++(N++N2)),⟨by omega,by rw [hms,if_neg k1,if_neg k2],_,rfl,hNN,hNNr⟩,by simp only;omega,by kernel_rfl,by kernel_rfl⟩
      · rw [List.take_of_length_le (by omega)] at hm
        have hfind:findK Try.prog 177 (fsV r f0 f1 f2 f3) ((M++N).map entV) 0=some none:=by
          rw [findK_en,no_key hL fun x hx=>by have:=hNr x hx;omega];rfl
        refine V_seq (V_region (S_go 1 (S_end (V_seq (V_decF ((↑j:Int)<(↑(b.rs.getD r default).may.length:Int)) (by omega) (V_exit 0 (V_seq (V_region (S_go 3 (S_a [(5,.ix (none)),(0,.v (PV.omap (List.map entV (M++N++[{r:=↑r,f0:=f0,f1:=f1,f2:=f2,f3:=f3,v:=m}]))))] (ap (hfind) (ap ((by simp):PV.omap (List.map entV (M++N)++[(PV.agg [I (↑r:Int),I f0,I f1,I f2,I f3],I m)])=PV.omap (List.map entV (M++N++[{r:=↑r,f0:=f0,f1:=f1,f2:=f2,f3:=f3,v:=m}]))) an)) (S_end (V_seq (V_region (S_go 2 (S_end (V_ret (E_q [] an (I m) ([(PV.agg [I b.cr,I b.wd,I b.st,I b.fn,PV.sl (List.map rndV b.rs),PV.sl (List.map I (feesOf b))]).ref.box,(PV.agg [PV.func 107 [(PV.agg [I b.cr,I b.wd,I b.st,I b.fn,PV.sl (List.map rndV b.rs),PV.sl (List.map I (feesOf b))]).ref] []]).box,(PV.omap (List.map entV (M++N++[{r:=(↑r:Int),f0:=f0,f1:=f1,f2:=f2,f3:=f3,v:=m}]))).box,(PV.func 131 [] [PV.addr 50000000 [] 0 0 none,PV.addr 50000001 [] 0 0 (some 1),PV.addr 50000002 [] 0 0 none,PV.addr 50000003 [] 0 0 none]).box]) ?_)))))))))))))))))
        refine ⟨N++[⟨r,f0,f1,f2,f3,m⟩],by rw [hm],by rw [← List.append_assoc];rfl,⟨fun x hx=>?_⟩,fun x hx=>?_⟩
        · rcases List.mem_append.1 hx with hx | hx
          · exact hN.ok x hx
          · rw [List.mem_singleton] at hx;subst hx
            simp only [Int.toNat_natCast,show b.rs.length-r=k+1 by omega]
            rw [hre,hm]
        · rcases List.mem_append.1 hx with hx | hx
          · have:=hNr x hx;omega
          · rw [List.mem_singleton] at hx;subst hx;exact Int.le_refl _
end
end Go.Eng
set_option maxRecDepth 10000
namespace Go.Eng
open Go Go.Proofs
def nextR (b:Dk) (w:Int→Int→Int→Int→Int) (k:Nat) (f0 f1 f2 f3 c:Int):Int:=restS b w k (bump f0 c 0 (feeAt b (k+1))) (bump f1 c 1 (feeAt b (k+1))) (bump f2 c 2 (feeAt b (k+1))) (bump f3 c 3 (feeAt b (k+1)))
def firstC (b:Dk) (w:Int→Int→Int→Int→Int) (k:Nat) (f0 f1 f2 f3:Int):Int:=((rnd b (b.rs.length-(k+1))).may.find? fun c=>decide (nextR b w k f0 f1 f2 f3 c=restS b w (k+1) f0 f1 f2 f3)).getD 0
def bestP (b:Dk) (w:Int→Int→Int→Int→Int):Nat→Int→Int→Int→Int→List Int
  | 0,_,_,_,_=>[]
  | k+1,f0,f1,f2,f3=>firstC b w k f0 f1 f2 f3::bestP b w k (bump f0 (firstC b w k f0 f1 f2 f3) 0 (feeAt b (k+1))) (bump f1 (firstC b w k f0 f1 f2 f3) 1 (feeAt b (k+1))) (bump f2 (firstC b w k f0 f1 f2 f3) 2 (feeAt b (k+1))) (bump f3 (firstC b w k f0 f1 f2 f3) 3 (feeAt b (k+1)))
theorem find_first {l:List Int} {p:Int→Bool} {j:Nat} (hj:j<l.length) (h:p (l.getD j 0)=true) (hb:∀ k,k<j→p (l.getD k 0)=false):l.find? p=some (l.getD j 0):=by
  rw [List.find?_eq_some_iff_getElem]
  refine ⟨h,j,hj,(getD_lt hj).symm,fun k hk=>?_⟩
  have:=hb k hk
  rw [getD_lt (by omega)] at this
  simp [this]
theorem minF_mem {l:List Int} (h0:∀ x∈l,0≤x) (hne:l≠[]):minF l∈l∧∀ x∈l,minF l≤x:=by
  have key:∀ (l:List Int) (m:Int),(∀ x∈l,0≤x)→0≤m→(l.foldl (fun m x=>if m<0 then x else if x<m then x else m) m=m∨l.foldl (fun m x=>if m<0 then x else if x<m then x else m) m∈l)∧l.foldl (fun m x=>if m<0 then x else if x<m then x else m) m≤m∧∀ x∈l,l.foldl (fun m x=>if m<0 then x else if x<m then x else m) m≤x:=by
    intro l
    induction l with
    | nil=>intro m _ _;exact ⟨.inl rfl,Int.le_refl _,fun x hx=>by cases hx⟩
    | cons y l ih =>
      intro m h0 hm
      have hy:=h0 y (by simp)
      simp only [List.foldl_cons,if_neg (show ¬ m<0 by omega)]
      by_cases hlt:y<m
      · simp only [if_pos hlt]
        obtain ⟨g1,g2,g3⟩:=ih y (fun x hx=>h0 x (by simp [hx])) hy
        refine ⟨.inr ?_,by omega,fun x hx=>?_⟩
        · rcases g1 with g1 | g1
          · rw [g1];simp
          · simp [g1]
        · rcases List.mem_cons.1 hx with rfl | hx
          · exact g2
          · exact g3 x hx
      · simp only [if_neg hlt]
        obtain ⟨g1,g2,g3⟩:=ih m (fun x hx=>h0 x (by simp [hx])) hm
        refine ⟨g1.imp id fun g=>by simp [g],g2,fun x hx=>?_⟩
        rcases List.mem_cons.1 hx with rfl | hx
        · omega
        · exact g3 x hx
  cases l with
  | nil=>exact (hne rfl).elim
  | cons y l =>
    have hy:=h0 y (by simp)
    obtain ⟨g1,g2,g3⟩:=key l y (fun x hx=>h0 x (by simp [hx])) hy
    have e:minF (y::l)=l.foldl (fun m x=>if m<0 then x else if x<m then x else m) y:=by simp [minF]
    rw [e]
    refine ⟨?_,fun x hx=>?_⟩
    · rcases g1 with g1 | g1
      · rw [g1];simp
      · simp [g1]
    · rcases List.mem_cons.1 hx with rfl | hx
      · exact g2
      · exact g3 x hx
theorem restS_nn {b:Dk} {w:Int→Int→Int→Int→Int} (hg:Good b) (hw:∀ f0 f1 f2 f3:Int,0≤f0→0≤f1→0≤f2→0≤f3→0≤w f0 f1 f2 f3):∀ (k:Nat) (f0 f1 f2 f3:Int),k≤b.rs.length→0≤f0→0≤f1→0≤f2→0≤f3→0≤restS b w k f0 f1 f2 f3
  | 0,f0,f1,f2,f3,_,h0,h1,h2,h3=>hw f0 f1 f2 f3 h0 h1 h2 h3
  | k + 1,f0,f1,f2,f3,hk,h0,h1,h2,h3=>by
    have hX:=feesOf_bd hg (b.rs.length-(k+1))
    have hmay:=good_may hg (i:=b.rs.length-(k+1)) (by omega)
    have hb:∀ f c q:Int,0≤f→0≤bump f c q (feeAt b (k+1)):=fun f c q hf=>by unfold bump feeAt;split<;>omega
    have hall:∀ x∈(rnd b (b.rs.length-(k+1))).may.map fun c=>restS b w k (bump f0 c 0 (feeAt b (k+1))) (bump f1 c 1 (feeAt b (k+1))) (bump f2 c 2 (feeAt b (k+1))) (bump f3 c 3 (feeAt b (k+1))),0≤x:=fun x hx=>by
      obtain ⟨c,_,rfl⟩:=List.mem_map.1 hx
      exact restS_nn hg hw k _ _ _ _ (by omega) (hb _ _ _ h0) (hb _ _ _ h1) (hb _ _ _ h2) (hb _ _ _ h3)
    exact hall _ (minF_mem hall (fun h=>hmay.1 (by have h5:=congrArg List.length h;rw [List.length_map,List.length_nil] at h5;exact h5))).1
theorem some_next {b:Dk} {w:Int→Int→Int→Int→Int} (hg:Good b) (hw:∀ f0 f1 f2 f3:Int,0≤f0→0≤f1→0≤f2→0≤f3→0≤w f0 f1 f2 f3) {k:Nat} {f0 f1 f2 f3:Int} (hk:k+1≤b.rs.length) (h0:0≤f0) (h1:0≤f1) (h2:0≤f2) (h3:0≤f3) :
    (∃ j,j<(rnd b (b.rs.length-(k+1))).may.length∧nextR b w k f0 f1 f2 f3 ((rnd b (b.rs.length-(k+1))).may.getD j 0)=restS b w (k+1) f0 f1 f2 f3)∧∀ c∈(rnd b (b.rs.length-(k+1))).may,restS b w (k+1) f0 f1 f2 f3≤nextR b w k f0 f1 f2 f3 c:=by
  have hX:=feesOf_bd hg (b.rs.length-(k+1))
  have hmay:=good_may hg (i:=b.rs.length-(k+1)) (by omega)
  have hb:∀ f c q:Int,0≤f→0≤bump f c q (feeAt b (k+1)):=fun f c q hf=>by unfold bump feeAt;split<;>omega
  have hall:∀ x∈(rnd b (b.rs.length-(k+1))).may.map (nextR b w k f0 f1 f2 f3),0≤x:=fun x hx=>by
    obtain ⟨c,_,rfl⟩:=List.mem_map.1 hx
    exact restS_nn hg hw k _ _ _ _ (by omega) (hb _ _ _ h0) (hb _ _ _ h1) (hb _ _ _ h2) (hb _ _ _ h3)
  have e:restS b w (k+1) f0 f1 f2 f3=minF ((rnd b (b.rs.length-(k+1))).may.map (nextR b w k f0 f1 f2 f3)):=rfl
  obtain ⟨g1,g2⟩:=minF_mem hall (fun h=>hmay.1 (by have h5:=congrArg List.length h;rw [List.length_map,List.length_nil] at h5;exact h5))
  rw [e]
  constructor
  · obtain ⟨c,hc,hce⟩:=List.mem_map.1 g1
    obtain ⟨j,hj,rfl⟩:=List.getElem_of_mem hc
    exact ⟨j,hj,by rw [getD_lt hj];exact hce⟩
  · intro c hc
    exact g2 _ (List.mem_map.2 ⟨c,hc,rfl⟩)
end Go.Eng
set_option maxRecDepth 10000
set_option maxHeartbeats 4000000
namespace Go.Eng
open Go Go.Proofs
def caps3:List PV:=[.addr 50000000 [] 0 0 none,.addr 50000001 [] 0 0 none,.addr 50000002 [] 0 0 (some 5),.addr 50000003 [] 0 0 none]
def hid6 (b:Dk) (t:PV) (bad:Int) (r f0 f1 f2 f3:Int) (Q:List En):List PV:=[.box (.func 131 [] [.addr 50000001 [] 0 0 none,.addr 50000004 [] 0 0 (some 1),.addr 50000005 [] 0 0 none,.addr 50000000 [] 0 0 none]),.box (.ref (deskV b (feesOf b))),.box (fsV r f0 f1 f2 f3),.box (I bad),.box (.agg [t]),.box (.omap (Q.map entV))]
section
variable [Yo]
theorem f133a (b:Dk) (w:Int→Int→Int→Int→Int) (hg:Good b) (hw:∀ f0 f1 f2 f3:Int,(0≤f0∧f0≤7000)→(0≤f1∧f1≤7000)→(0≤f2∧f2≤7000)→(0≤f3∧f3≤7000)→FG 103 [.ref (deskV b (feesOf b)),.agg [I f0,I f1,I f2,I f3]] (I (w f0 f1 f2 f3))) (k r:Nat) (f0 f1 f2 f3 bad c:Int) (M:List En) (hr:r+(k+1)=b.rs.length) (h0:0≤f0∧f0≤1000*r) (h1:0≤f1∧f1≤1000*r) (h2:0≤f2∧f2≤1000*r) (h3:0≤f3∧f3≤1000*r) (hM:EnsOk b w M) (hc:0≤c∧c<4) :
    ∃ v h',Gives Try.prog feeH 133 (I c::caps3) (hid6 b (.func 103 [.ref (deskV b (feesOf b))] []) bad r f0 f1 f2 f3 M) v h'∧∃ N,v = .bool (decide (nextR b w k f0 f1 f2 f3 c=bad))∧h'=hid6 b (.func 103 [.ref (deskV b (feesOf b))] []) bad r f0 f1 f2 f3 (M++N)∧EnsOk b w N:=by
  have hX:=feesOf_bd hg r
  have hcr:=hg.cr
  have hbl:=hg.len
  have hkr:b.rs.length-(k+1)=r:=by omega
  obtain ⟨v,h',hcall,N2,rfl,rfl,hN2,_⟩:=f131a b w hg hw k (r+1) _ _ _ _ M (by omega) (bump_bd (c:=c) (k:=0) h0 hX) (bump_bd (c:=c) (k:=1) h1 hX) (bump_bd (c:=c) (k:=2) h2 hX) (bump_bd (c:=c) (k:=3) h3 hX) hM
  have hn:restS b w k (bump f0 c 0 ((feesOf b).getD r 0)) (bump f1 c 1 ((feesOf b).getD r 0)) (bump f2 c 2 ((feesOf b).getD r 0)) (bump f3 c 3 ((feesOf b).getD r 0))=nextR b w k f0 f1 f2 f3 c:=by simp only [nextR,feeAt,hkr]
  rw [hn] at hcall
  unfold capsA hidA at hcall
  clear hw hn
  unfold caps3 hid6
  refine gives_exX Try.f133 _ ?_
  refine V_seq (V_region (S_go 1 (S_end (V_seq (V_region (S_go 4 (S_a [(9,.ret (fsV (↑(r+1):Int) (bump f0 c 0 ((feesOf b).getD r 0)) (bump f1 c 1 ((feesOf b).getD r 0)) (bump f2 c 2 ((feesOf b).getD r 0)) (bump f3 c 3 ((feesOf b).getD r 0))) ([]))] (ap (f132 (b) (r) (f0) (f1) (f2) (f3) (c) (by omega) (by first | omega | (simp<;>omega)) (by omega) (by omega) (by omega) (by omega) (by omega)) an) (S_a [(6,.ret (I (nextR b w k f0 f1 f2 f3 c)) ([(deskV b (feesOf b)).ref.box,(PV.agg [PV.func 103 [(deskV b (feesOf b)).ref] []]).box,(PV.omap (List.map entV (M++N2))).box,(PV.func 131 [] capsA).box]))] (ap (hcall) an) (S_go 3 (S_end (V_ret (E_q [] an (PV.bool (nextR b w k f0 f1 f2 f3 c==bad)) ([(PV.func 131 [] [PV.addr 50000001 [] 0 0 none,PV.addr 50000004 [] 0 0 (some 1),PV.addr 50000005 [] 0 0 none,PV.addr 50000000 [] 0 0 none]).box,(PV.agg [I b.cr,I b.wd,I b.st,I b.fn,PV.sl (List.map rndV b.rs),PV.sl (List.map I (feesOf b))]).ref.box,(PV.agg [I (↑r:Int),I f0,I f1,I f2,I f3]).box,(I bad).box,(PV.agg [PV.func 103 [(PV.agg [I b.cr,I b.wd,I b.st,I b.fn,PV.sl (List.map rndV b.rs),PV.sl (List.map I (feesOf b))]).ref] []]).box,(PV.omap (List.map entV (M++N2))).box]) ?_))))))))))))
  exact ⟨N2,rfl,rfl,hN2⟩
theorem f118a (b:Dk) (w:Int→Int→Int→Int→Int) (hg:Good b) (hw:∀ f0 f1 f2 f3:Int,(0≤f0∧f0≤7000)→(0≤f1∧f1≤7000)→(0≤f2∧f2≤7000)→(0≤f3∧f3≤7000)→FG 103 [.ref (deskV b (feesOf b)),.agg [I f0,I f1,I f2,I f3]] (I (w f0 f1 f2 f3))) (hwn:∀ f0 f1 f2 f3:Int,0≤f0→0≤f1→0≤f2→0≤f3→0≤w f0 f1 f2 f3) (k r:Nat) (f0 f1 f2 f3:Int) (M:List En) (hr:r+(k+1)=b.rs.length) (h0:0≤f0∧f0≤1000*r) (h1:0≤f1∧f1≤1000*r) (h2:0≤f2∧f2≤1000*r) (h3:0≤f3∧f3≤1000*r) (hM:EnsOk b w M) :
    ∃ v h',Gives Try.prog feeH 118 [ints (b.rs.getD r default).may,.func 133 [] caps3] (hid6 b (.func 103 [.ref (deskV b (feesOf b))] []) (restS b w (k+1) f0 f1 f2 f3) r f0 f1 f2 f3 M) v h'∧∃ N,∃ j:Nat,v=I (j:Nat)∧h'=hid6 b (.func 103 [.ref (deskV b (feesOf b))] []) (restS b w (k+1) f0 f1 f2 f3) r f0 f1 f2 f3 (M++N)∧EnsOk b w N∧j<(b.rs.getD r default).may.length∧(b.rs.getD r default).may.getD j 0=firstC b w k f0 f1 f2 f3:=by
  have hkr:b.rs.length-(k+1)=r:=by omega
  have hmay:=good_may hg (i:=r) (by omega)
  have hml:=incr_len hmay.2.2 hmay.2.1 hg.cr
  have hcr:=hg.cr
  have hsome:=(some_next hg hwn (k:=k) (f0:=f0) (f1:=f1) (f2:=f2) (f3:=f3) (by omega) h0.1 h1.1 h2.1 h3.1).1
  rw [hkr] at hsome
  have hfc:∀ j,j<(b.rs.getD r default).may.length→nextR b w k f0 f1 f2 f3 ((b.rs.getD r default).may.getD j 0)=restS b w (k+1) f0 f1 f2 f3→(∀ i,i<j→¬ nextR b w k f0 f1 f2 f3 ((b.rs.getD r default).may.getD i 0)=restS b w (k+1) f0 f1 f2 f3)→(b.rs.getD r default).may.getD j 0=firstC b w k f0 f1 f2 f3:=fun j hj e hb=>by
    have:=find_first (p:=fun c=>decide (nextR b w k f0 f1 f2 f3 c=restS b w (k+1) f0 f1 f2 f3)) hj (decide_eq_true e) fun i hi=>decide_eq_false (hb i hi)
    unfold firstC
    rw [hkr]
    show _=(((b.rs.getD r default).may.find? _).getD 0)
    rw [this];rfl
  generalize hbd:restS b w (k+1) f0 f1 f2 f3=bad at *
  unfold hid6 caps3
  refine gives_exX Try.f118 _ ?_
  refine V_seq (V_region (S_go 1 (S_end (V_seq (V_seq (V_region (S_go 1 (S_a [(0,.n ((b.rs.getD r default).may.length))] (ap ((by simp):some (List.map I (b.rs.getD r default).may).length=some (b.rs.getD r default).may.length) an) (S_go 1 (S_end (V_block 0 ?_)))))))))))
  refine V_loopS (fun (j,Q)=>j≤(b.rs.getD r default).may.length∧(∃ N,Q=M++N∧EnsOk b w N)∧∀ i,i<j→¬ nextR b w k f0 f1 f2 f3 ((b.rs.getD r default).may.getD i 0)=bad) (fun (j,Q)=>[(8,I (j:Nat)),(50000005,.box (.omap (Q.map entV)))]) (fun (j,_)=>(b.rs.getD r default).may.length-j) ((0:Nat),M) ⟨Nat.zero_le _,⟨[],(List.append_nil M).symm,⟨fun x hx=>by cases hx⟩⟩,fun i hi=>absurd hi (Nat.not_lt_zero _)⟩ fun (j,Q) ⟨hj,⟨N,hQ,hN⟩,hno⟩=>?_
  subst hQ
  by_cases hjl:j<(b.rs.getD r default).may.length
  · have hc:=getD_all hmay.2.1 j hjl
    obtain ⟨v,h',hcall,N2,rfl,rfl,hN2⟩:=f133a b w hg hw k r f0 f1 f2 f3 bad ((b.rs.getD r default).may.getD j 0) (M++N) hr h0 h1 h2 h3 ⟨fun x hx=>(List.mem_append.1 hx).elim (hM.ok x) (hN.ok x)⟩ (by omega)
    have hNN:EnsOk b w (N++N2):=⟨fun x hx=>(List.mem_append.1 hx).elim (hN.ok x) (hN2.ok x)⟩
    rw [List.append_assoc] at hcall
    unfold caps3 hid6 at hcall
    clear hw hM hN hN2 hsome
    by_cases he:nextR b w k f0 f1 f2 f3 ((b.rs.getD r default).may.getD j 0)=bad
    · rw [decide_eq_true he] at hcall
      refine V_seq (V_region (S_go 1 (S_end (V_seq (V_decT ((↑j:Int)<(↑(b.rs.getD r default).may.length:Int)) (by omega) (V_skip (V_seq (V_block 1 (V_seq (V_region (S_go 2 (S_end (V_seq (V_region (S_go 3 (S_a [(2,.v (I ((b.rs.getD r default).may.getD j 0)))] (ap (getm (0) (by omega):(List.map I (b.rs.getD r default).may)[j]? = some (I ((b.rs.getD r default).may.getD j 0))) an) (S_go 1 (S_a [(6,.ret (PV.bool true) ([(PV.func 131 [] [PV.addr 50000001 [] 0 0 none,PV.addr 50000004 [] 0 0 (some 1),PV.addr 50000005 [] 0 0 none,PV.addr 50000000 [] 0 0 none]).box,(deskV b (feesOf b)).ref.box,(fsV (↑r:Int) f0 f1 f2 f3).box,(I bad).box,(PV.agg [PV.func 103 [(deskV b (feesOf b)).ref] []]).box,(PV.omap (List.map entV (M++(N++N2)))).box]))] (ap (hcall) an) (S_end (V_true (V_seq (V_region (S_go 2 (S_end (V_ret (E_q [] an (I (↑j:Int)) ([(PV.func 131 [] [PV.addr 50000001 [] 0 0 none,PV.addr 50000004 [] 0 0 (some 1),PV.addr 50000005 [] 0 0 none,PV.addr 50000000 [] 0 0 none]).box,(PV.agg [I b.cr,I b.wd,I b.st,I b.fn,PV.sl (List.map rndV b.rs),PV.sl (List.map I (feesOf b))]).ref.box,(PV.agg [I (↑r:Int),I f0,I f1,I f2,I f3]).box,(I bad).box,(PV.agg [PV.func 103 [(PV.agg [I b.cr,I b.wd,I b.st,I b.fn,PV.sl (List.map rndV b.rs),PV.sl (List.map I (feesOf b))]).ref] []]).box,(PV.omap (List.map entV (M++(N++N2)))).box]) ?_))))))))))))))))))))))))))
      exact ⟨N++N2,j,rfl,rfl,hNN,hjl,hfc j hjl he hno⟩
    · rw [decide_eq_false he] at hcall
      clear hfc
      refine V_seq (V_region (S_go 1 (S_end (V_seq (V_decT ((↑j:Int)<(↑(b.rs.getD r default).may.length:Int)) (by omega) (V_skip (V_seq (V_block 1 (V_seq (V_region (S_go 2 (S_end (V_seq (V_region (S_go 3 (S_a [(2,.v (I ((b.rs.getD r default).may.getD j 0)))] (ap (getm (0) (by omega):(List.map I (b.rs.getD r default).may)[j]? = some (I ((b.rs.getD r default).may.getD j 0))) an) (S_go 1 (S_a [(6,.ret (PV.bool false) ([(PV.func 131 [] [PV.addr 50000001 [] 0 0 none,PV.addr 50000004 [] 0 0 (some 1),PV.addr 50000005 [] 0 0 none,PV.addr 50000000 [] 0 0 none]).box,(deskV b (feesOf b)).ref.box,(fsV (↑r:Int) f0 f1 f2 f3).box,(I bad).box,(PV.agg [PV.func 103 [(deskV b (feesOf b)).ref] []]).box,(PV.omap (List.map entV (M++(N++N2)))).box]))] (ap (hcall) an) (S_end (V_false (V_skip (V_region (S_a [(1,.v (I (↑(j+1):Int)))] (ap ((wrapE (by omega) (by omega)):I (IntKind.i64.wrap ((↑j:Int)+1))=I (↑(j+1):Int)) an) (S_go 1 (S_end ?_)))))))))))))))))))))))))
      refine ⟨(j+1,M++(N++N2)),⟨by omega,⟨_,rfl,hNN⟩,fun i hi=>?_⟩,by simp only;omega,by kernel_rfl,by kernel_rfl⟩
      rcases Nat.lt_succ_iff_lt_or_eq.1 hi with hi | rfl
      · exact hno i hi
      · exact he
  · obtain ⟨i,hi,hie⟩:=hsome
    have hi':i<(b.rs.getD r default).may.length:=hi
    exact absurd hie (hno i (by omega))
theorem f133b (b:Dk) (w:Int→Int→Int→Int→Int) (hg:Good b) (hw:∀ f0 f1 f2 f3:Int,(0≤f0∧f0≤7000)→(0≤f1∧f1≤7000)→(0≤f2∧f2≤7000)→(0≤f3∧f3≤7000)→FG 107 [.ref (deskV b (feesOf b)),.agg [I f0,I f1,I f2,I f3]] (I (w f0 f1 f2 f3))) (k r:Nat) (f0 f1 f2 f3 bad c:Int) (M:List En) (hr:r+(k+1)=b.rs.length) (h0:0≤f0∧f0≤1000*r) (h1:0≤f1∧f1≤1000*r) (h2:0≤f2∧f2≤1000*r) (h3:0≤f3∧f3≤1000*r) (hM:EnsOk b w M) (hc:0≤c∧c<4) :
    ∃ v h',Gives Try.prog feeH 133 (I c::caps3) (hid6 b (.func 107 [.ref (deskV b (feesOf b))] []) bad r f0 f1 f2 f3 M) v h'∧∃ N,v = .bool (decide (nextR b w k f0 f1 f2 f3 c=bad))∧h'=hid6 b (.func 107 [.ref (deskV b (feesOf b))] []) bad r f0 f1 f2 f3 (M++N)∧EnsOk b w N:=by
  have hX:=feesOf_bd hg r
  have hcr:=hg.cr
  have hbl:=hg.len
  have hkr:b.rs.length-(k+1)=r:=by omega
  obtain ⟨v,h',hcall,N2,rfl,rfl,hN2,_⟩:=f131b b w hg hw k (r+1) _ _ _ _ M (by omega) (bump_bd (c:=c) (k:=0) h0 hX) (bump_bd (c:=c) (k:=1) h1 hX) (bump_bd (c:=c) (k:=2) h2 hX) (bump_bd (c:=c) (k:=3) h3 hX) hM
  have hn:restS b w k (bump f0 c 0 ((feesOf b).getD r 0)) (bump f1 c 1 ((feesOf b).getD r 0)) (bump f2 c 2 ((feesOf b).getD r 0)) (bump f3 c 3 ((feesOf b).getD r 0))=nextR b w k f0 f1 f2 f3 c:=by simp only [nextR,feeAt,hkr]
  rw [hn] at hcall
  unfold capsA hidA at hcall
  clear hw hn
  unfold caps3 hid6
  refine gives_exX Try.f133 _ ?_
  refine V_seq (V_region (S_go 1 (S_end (V_seq (V_region (S_go 4 (S_a [(9,.ret (fsV (↑(r+1):Int) (bump f0 c 0 ((feesOf b).getD r 0)) (bump f1 c 1 ((feesOf b).getD r 0)) (bump f2 c 2 ((feesOf b).getD r 0)) (bump f3 c 3 ((feesOf b).getD r 0))) ([]))] (ap (f132 (b) (r) (f0) (f1) (f2) (f3) (c) (by omega) (by first | omega | (simp<;>omega)) (by omega) (by omega) (by omega) (by omega) (by omega)) an) (S_a [(6,.ret (I (nextR b w k f0 f1 f2 f3 c)) ([(deskV b (feesOf b)).ref.box,(PV.agg [PV.func 107 [(deskV b (feesOf b)).ref] []]).box,(PV.omap (List.map entV (M++N2))).box,(PV.func 131 [] capsA).box]))] (ap (hcall) an) (S_go 3 (S_end (V_ret (E_q [] an (PV.bool (nextR b w k f0 f1 f2 f3 c==bad)) ([(PV.func 131 [] [PV.addr 50000001 [] 0 0 none,PV.addr 50000004 [] 0 0 (some 1),PV.addr 50000005 [] 0 0 none,PV.addr 50000000 [] 0 0 none]).box,(PV.agg [I b.cr,I b.wd,I b.st,I b.fn,PV.sl (List.map rndV b.rs),PV.sl (List.map I (feesOf b))]).ref.box,(PV.agg [I (↑r:Int),I f0,I f1,I f2,I f3]).box,(I bad).box,(PV.agg [PV.func 107 [(PV.agg [I b.cr,I b.wd,I b.st,I b.fn,PV.sl (List.map rndV b.rs),PV.sl (List.map I (feesOf b))]).ref] []]).box,(PV.omap (List.map entV (M++N2))).box]) ?_))))))))))))
  exact ⟨N2,rfl,rfl,hN2⟩
theorem f118b (b:Dk) (w:Int→Int→Int→Int→Int) (hg:Good b) (hw:∀ f0 f1 f2 f3:Int,(0≤f0∧f0≤7000)→(0≤f1∧f1≤7000)→(0≤f2∧f2≤7000)→(0≤f3∧f3≤7000)→FG 107 [.ref (deskV b (feesOf b)),.agg [I f0,I f1,I f2,I f3]] (I (w f0 f1 f2 f3))) (hwn:∀ f0 f1 f2 f3:Int,0≤f0→0≤f1→0≤f2→0≤f3→0≤w f0 f1 f2 f3) (k r:Nat) (f0 f1 f2 f3:Int) (M:List En) (hr:r+(k+1)=b.rs.length) (h0:0≤f0∧f0≤1000*r) (h1:0≤f1∧f1≤1000*r) (h2:0≤f2∧f2≤1000*r) (h3:0≤f3∧f3≤1000*r) (hM:EnsOk b w M) :
    ∃ v h',Gives Try.prog feeH 118 [ints (b.rs.getD r default).may,.func 133 [] caps3] (hid6 b (.func 107 [.ref (deskV b (feesOf b))] []) (restS b w (k+1) f0 f1 f2 f3) r f0 f1 f2 f3 M) v h'∧∃ N,∃ j:Nat,v=I (j:Nat)∧h'=hid6 b (.func 107 [.ref (deskV b (feesOf b))] []) (restS b w (k+1) f0 f1 f2 f3) r f0 f1 f2 f3 (M++N)∧EnsOk b w N∧j<(b.rs.getD r default).may.length∧(b.rs.getD r default).may.getD j 0=firstC b w k f0 f1 f2 f3:=by
  have hkr:b.rs.length-(k+1)=r:=by omega
  have hmay:=good_may hg (i:=r) (by omega)
  have hml:=incr_len hmay.2.2 hmay.2.1 hg.cr
  have hcr:=hg.cr
  have hsome:=(some_next hg hwn (k:=k) (f0:=f0) (f1:=f1) (f2:=f2) (f3:=f3) (by omega) h0.1 h1.1 h2.1 h3.1).1
  rw [hkr] at hsome
  have hfc:∀ j,j<(b.rs.getD r default).may.length→nextR b w k f0 f1 f2 f3 ((b.rs.getD r default).may.getD j 0)=restS b w (k+1) f0 f1 f2 f3→(∀ i,i<j→¬ nextR b w k f0 f1 f2 f3 ((b.rs.getD r default).may.getD i 0)=restS b w (k+1) f0 f1 f2 f3)→(b.rs.getD r default).may.getD j 0=firstC b w k f0 f1 f2 f3:=fun j hj e hb=>by
    have:=find_first (p:=fun c=>decide (nextR b w k f0 f1 f2 f3 c=restS b w (k+1) f0 f1 f2 f3)) hj (decide_eq_true e) fun i hi=>decide_eq_false (hb i hi)
    unfold firstC
    rw [hkr]
    show _=(((b.rs.getD r default).may.find? _).getD 0)
    rw [this];rfl
  generalize hbd:restS b w (k+1) f0 f1 f2 f3=bad at *
  unfold hid6 caps3
  refine gives_exX Try.f118 _ ?_
  refine V_seq (V_region (S_go 1 (S_end (V_seq (V_seq (V_region (S_go 1 (S_a [(0,.n ((b.rs.getD r default).may.length))] (ap ((by simp):some (List.map I (b.rs.getD r default).may).length=some (b.rs.getD r default).may.length) an) (S_go 1 (S_end (V_block 0 ?_)))))))))))
  refine V_loopS (fun (j,Q)=>j≤(b.rs.getD r default).may.length∧(∃ N,Q=M++N∧EnsOk b w N)∧∀ i,i<j→¬ nextR b w k f0 f1 f2 f3 ((b.rs.getD r default).may.getD i 0)=bad) (fun (j,Q)=>[(8,I (j:Nat)),(50000005,.box (.omap (Q.map entV)))]) (fun (j,_)=>(b.rs.getD r default).may.length-j) ((0:Nat),M) ⟨Nat.zero_le _,⟨[],(List.append_nil M).symm,⟨fun x hx=>by cases hx⟩⟩,fun i hi=>absurd hi (Nat.not_lt_zero _)⟩ fun (j,Q) ⟨hj,⟨N,hQ,hN⟩,hno⟩=>?_
  subst hQ
  by_cases hjl:j<(b.rs.getD r default).may.length
  · have hc:=getD_all hmay.2.1 j hjl
    obtain ⟨v,h',hcall,N2,rfl,rfl,hN2⟩:=f133b b w hg hw k r f0 f1 f2 f3 bad ((b.rs.getD r default).may.getD j 0) (M++N) hr h0 h1 h2 h3 ⟨fun x hx=>(List.mem_append.1 hx).elim (hM.ok x) (hN.ok x)⟩ (by omega)
    have hNN:EnsOk b w (N++N2):=⟨fun x hx=>(List.mem_append.1 hx).elim (hN.ok x) (hN2.ok x)⟩
    rw [List.append_assoc] at hcall
    unfold caps3 hid6 at hcall
    clear hw hM hN hN2 hsome
    by_cases he:nextR b w k f0 f1 f2 f3 ((b.rs.getD r default).may.getD j 0)=bad
    · rw [decide_eq_true he] at hcall
      refine V_seq (V_region (S_go 1 (S_end (V_seq (V_decT ((↑j:Int)<(↑(b.rs.getD r default).may.length:Int)) (by omega) (V_skip (V_seq (V_block 1 (V_seq (V_region (S_go 2 (S_end (V_seq (V_region (S_go 3 (S_a [(2,.v (I ((b.rs.getD r default).may.getD j 0)))] (ap (getm (0) (by omega):(List.map I (b.rs.getD r default).may)[j]? = some (I ((b.rs.getD r default).may.getD j 0))) an) (S_go 1 (S_a [(6,.ret (PV.bool true) ([(PV.func 131 [] [PV.addr 50000001 [] 0 0 none,PV.addr 50000004 [] 0 0 (some 1),PV.addr 50000005 [] 0 0 none,PV.addr 50000000 [] 0 0 none]).box,(deskV b (feesOf b)).ref.box,(fsV (↑r:Int) f0 f1 f2 f3).box,(I bad).box,(PV.agg [PV.func 107 [(deskV b (feesOf b)).ref] []]).box,(PV.omap (List.map entV (M++(N++N2)))).box]))] (ap (hcall) an) (S_end (V_true (V_seq (V_region (S_go 2 (S_end (V_ret (E_q [] an (I (↑j:Int)) ([(PV.func 131 [] [PV.addr 50000001 [] 0 0 none,PV.addr 50000004 [] 0 0 (some 1),PV.addr 50000005 [] 0 0 none,PV.addr 50000000 [] 0 0 none]).box,(PV.agg [I b.cr,I b.wd,I b.st,I b.fn,PV.sl (List.map rndV b.rs),PV.sl (List.map I (feesOf b))]).ref.box,(PV.agg [I (↑r:Int),I f0,I f1,I f2,I f3]).box,(I bad).box,(PV.agg [PV.func 107 [(PV.agg [I b.cr,I b.wd,I b.st,I b.fn,PV.sl (List.map rndV b.rs),PV.sl (List.map I (feesOf b))]).ref] []]).box,(PV.omap (List.map entV (M++(N++N2)))).box]) ?_))))))))))))))))))))))))))
      exact ⟨N++N2,j,rfl,rfl,hNN,hjl,hfc j hjl he hno⟩
    · rw [decide_eq_false he] at hcall
      clear hfc
      refine V_seq (V_region (S_go 1 (S_end (V_seq (V_decT ((↑j:Int)<(↑(b.rs.getD r default).may.length:Int)) (by omega) (V_skip (V_seq (V_block 1 (V_seq (V_region (S_go 2 (S_end (V_seq (V_region (S_go 3 (S_a [(2,.v (I ((b.rs.getD r default).may.getD j 0)))] (ap (getm (0) (by omega):(List.map I (b.rs.getD r default).may)[j]? = some (I ((b.rs.getD r default).may.getD j 0))) an) (S_go 1 (S_a [(6,.ret (PV.bool false) ([(PV.func 131 [] [PV.addr 50000001 [] 0 0 none,PV.addr 50000004 [] 0 0 (some 1),PV.addr 50000005 [] 0 0 none,PV.addr 50000000 [] 0 0 none]).box,(deskV b (feesOf b)).ref.box,(fsV (↑r:Int) f0 f1 f2 f3).box,(I bad).box,(PV.agg [PV.func 107 [(deskV b (feesOf b)).ref] []]).box,(PV.omap (List.map entV (M++(N++N2)))).box]))] (ap (hcall) an) (S_end (V_false (V_skip (V_region (S_a [(1,.v (I (↑(j+1):Int)))] (ap ((wrapE (by omega) (by omega)):I (IntKind.i64.wrap ((↑j:Int)+1))=I (↑(j+1):Int)) an) (S_go 1 (S_end ?_)))))))))))))))))))))))))
      refine ⟨(j+1,M++(N++N2)),⟨by omega,⟨_,rfl,hNN⟩,fun i hi=>?_⟩,by simp only;omega,by kernel_rfl,by kernel_rfl⟩
      rcases Nat.lt_succ_iff_lt_or_eq.1 hi with hi | rfl
      · exact hno i hi
      · exact he
  · obtain ⟨i,hi,hie⟩:=hsome
    have hi':i<(b.rs.getD r default).may.length:=hi
    exact absurd hie (hno i (by omega))
end
end Go.Eng
set_option maxRecDepth 10000
set_option maxHeartbeats 4000000
namespace Go.Eng
open Go Go.Proofs
section
variable [Yo]
theorem f102a (b:Dk) (w:Int→Int→Int→Int→Int) (hg:Good b) (hw:∀ f0 f1 f2 f3:Int,(0≤f0∧f0≤7000)→(0≤f1∧f1≤7000)→(0≤f2∧f2≤7000)→(0≤f3∧f3≤7000)→FG 103 [.ref (deskV b (feesOf b)),.agg [I f0,I f1,I f2,I f3]] (I (w f0 f1 f2 f3))) (hwn:∀ f0 f1 f2 f3:Int,0≤f0→0≤f1→0≤f2→0≤f3→0≤w f0 f1 f2 f3):FG 102 [.ref (deskV b (feesOf b)),.agg [.func 103 [.ref (deskV b (feesOf b))] []]] (.tup [lstO (bestP b w b.rs.length 0 0 0 0),I (restS b w b.rs.length 0 0 0 0)]):=by
  have hbl:=hg.len
  have hcr:=hg.cr
  obtain ⟨v,h',hcall,N,rfl,rfl,hN,hNr⟩:=f131a b w hg hw b.rs.length 0 0 0 0 0 [] (by omega) (by omega) (by omega) (by omega) (by omega) ⟨fun x hx=>by cases hx⟩
  unfold hidA capsA at hcall
  rw [List.nil_append] at hcall
  refine gives_ofX Try.f102 ?_
  refine V_seq (V_region (S_go 4 (S_end (V_seq (V_region (S_go 3 (S_end (V_seq (V_region (S_go 1 (S_end (V_seq (V_region (S_go 2 (S_end (V_seq (V_region (S_go 1 (S_end (V_seq (V_region (S_go 1 (S_end (V_seq (V_region (S_go 2 (S_a [(6,.ret (I (restS b w b.rs.length 0 0 0 0)) ([(deskV b (feesOf b)).ref.box,(PV.agg [PV.func 103 [(deskV b (feesOf b)).ref] []]).box,(PV.omap (List.map entV N)).box,(PV.func 131 [] [PV.addr 50000000 [] 0 0 none,PV.addr 50000001 [] 0 0 (some 1),PV.addr 50000002 [] 0 0 none,PV.addr 50000003 [] 0 0 none]).box]))] (ap (hcall) an) (S_go 2 (S_end (V_seq (V_block 0 ?_)))))))))))))))))))))))))))))))
  generalize hbad:restS b w b.rs.length 0 0 0 0=bad at *
  refine V_loopS (fun (i,f0,f1,f2,f3,o,Q)=>i≤b.rs.length∧(0≤f0∧f0≤1000*i)∧(0≤f1∧f1≤1000*i)∧(0≤f2∧f2≤1000*i)∧(0≤f3∧f3≤1000*i)∧EnsOk b w Q∧o.length=i∧restS b w (b.rs.length-i) f0 f1 f2 f3=bad∧o++bestP b w (b.rs.length-i) f0 f1 f2 f3=bestP b w b.rs.length 0 0 0 0) (fun (i,f0,f1,f2,f3,o,Q)=>[(6,.box (.omap (Q.map entV))),(8,.own 1 (o.map I)),(9,.box (fsV (i:Nat) f0 f1 f2 f3))]) (fun (i,_)=>b.rs.length-i) ((0:Nat),(0:Int),(0:Int),(0:Int),(0:Int),([]:List Int),N) ⟨Nat.zero_le _,by omega,by omega,by omega,by omega,hN,rfl,hbad,rfl⟩ fun (i,f0,f1,f2,f3,o,Q) ⟨hi,h0,h1,h2,h3,hQ,ho,hre,hpp⟩=>?_
  by_cases hin:i<b.rs.length
  · have hmay:=good_may hg (i:=i) (by omega)
    have hml:=incr_len hmay.2.2 hmay.2.1 hg.cr
    have hX:=feesOf_bd hg i
    obtain ⟨k,hk⟩:∃ k,b.rs.length-i=k+1:=⟨b.rs.length-i-1,by omega⟩
    obtain ⟨v,h',hcall2,N2,j,rfl,rfl,hN2,hj,hjc⟩:=f118a b w hg hw hwn k i f0 f1 f2 f3 Q (by omega) h0 h1 h2 h3 hQ
    rw [hk] at hre hpp
    have hc:=getD_all hmay.2.1 j hj
    have hfa:feeAt b (k+1)=(feesOf b).getD i 0:=by unfold feeAt;rw [show b.rs.length-(k+1)=i by omega]
    have hks:restS b w k (bump f0 ((b.rs.getD i default).may.getD j 0) 0 ((feesOf b).getD i 0)) (bump f1 ((b.rs.getD i default).may.getD j 0) 1 ((feesOf b).getD i 0)) (bump f2 ((b.rs.getD i default).may.getD j 0) 2 ((feesOf b).getD i 0)) (bump f3 ((b.rs.getD i default).may.getD j 0) 3 ((feesOf b).getD i 0))=bad:=by
      have hsome:=(some_next hg hwn (k:=k) (f0:=f0) (f1:=f1) (f2:=f2) (f3:=f3) (by omega) h0.1 h1.1 h2.1 h3.1).1
      rw [show b.rs.length-(k+1)=i by omega] at hsome
      obtain ⟨q,hq,hqe⟩:=hsome
      have hfd:(b.rs.getD i default).may.find? (fun c=>decide (nextR b w k f0 f1 f2 f3 c=restS b w (k+1) f0 f1 f2 f3))≠none:=fun hn=>by
        have:=List.find?_eq_none.1 hn ((b.rs.getD i default).may.getD q 0) (by rw [getD_lt (show q<(b.rs.getD i default).may.length from hq)];exact List.getElem_mem _)
        exact this (decide_eq_true hqe)
      obtain ⟨c,hce⟩:=Option.ne_none_iff_exists'.1 hfd
      have h5:=List.find?_some hce
      have h6:firstC b w k f0 f1 f2 f3=c:=by unfold firstC;rw [show b.rs.length-(k+1)=i by omega];exact congrArg (fun o:Option Int=>o.getD 0) hce
      rw [hjc,h6,← hre,← of_decide_eq_true h5]
      simp only [nextR,hfa]
    have hp2:(o++[(b.rs.getD i default).may.getD j 0])++bestP b w k (bump f0 ((b.rs.getD i default).may.getD j 0) 0 ((feesOf b).getD i 0)) (bump f1 ((b.rs.getD i default).may.getD j 0) 1 ((feesOf b).getD i 0)) (bump f2 ((b.rs.getD i default).may.getD j 0) 2 ((feesOf b).getD i 0)) (bump f3 ((b.rs.getD i default).may.getD j 0) 3 ((feesOf b).getD i 0))=bestP b w b.rs.length 0 0 0 0:=by
      rw [← hpp,List.append_assoc,hjc];simp only [bestP,hfa];rfl
    have hkk:b.rs.length-(i+1)=k:=by omega
    rw [hre] at hcall2
    unfold hid6 caps3 at hcall2
    have hQN:EnsOk b w (Q++N2):=⟨fun x hx=>(List.mem_append.1 hx).elim (hQ.ok x) (hN2.ok x)⟩
    have b0:=bump_bd (c:=(b.rs.getD i default).may.getD j 0) (k:=0) h0 hX
    have b1:=bump_bd (c:=(b.rs.getD i default).may.getD j 0) (k:=1) h1 hX
    have b2:=bump_bd (c:=(b.rs.getD i default).may.getD j 0) (k:=2) h2 hX
    have b3:=bump_bd (c:=(b.rs.getD i default).may.getD j 0) (k:=3) h3 hX
    clear hw hwn hcall hjc hpp hbad hN hNr
    refine V_seq (V_seq (V_region (S_go 7 (S_a [(0,.n (b.rs.length))] (ap ((by simp):some (List.map rndV b.rs).length=some b.rs.length) an) (S_go 1 (S_end (V_decT ((↑i:Int)<(↑b.rs.length:Int)) (by omega) (V_skip (V_block 1 (V_seq (V_region (S_go 7 (S_a [(2,.v (PV.agg [I (b.rs.getD i default).w,I (b.rs.getD i default).s,PV.sl (List.map I (b.rs.getD i default).may)]))] (ap (getm (default) (by omega):(List.map rndV b.rs)[i]? = some (PV.agg [I (b.rs.getD i default).w,I (b.rs.getD i default).s,PV.sl (List.map I (b.rs.getD i default).may)])) an) (S_go 3 (S_end (V_seq (V_region (S_go 3 (S_a [(6,.ret (I (↑j:Int)) ([(PV.func 131 [] [PV.addr 50000001 [] 0 0 none,PV.addr 50000004 [] 0 0 (some 1),PV.addr 50000005 [] 0 0 none,PV.addr 50000000 [] 0 0 none]).box,(deskV b (feesOf b)).ref.box,(fsV (↑i:Int) f0 f1 f2 f3).box,(I bad).box,(PV.agg [PV.func 103 [(deskV b (feesOf b)).ref] []]).box,(PV.omap (List.map entV (Q++N2))).box]))] (ap (hcall2) an) (S_a [(2,.v (I ((b.rs.getD i default).may.getD j 0)))] (ap (getm (0) (by omega):(List.map I (b.rs.getD i default).may)[j]? = some (I ((b.rs.getD i default).may.getD j 0))) an) (S_go 2 (S_end (V_region (S_go 3 (S_a [(4,.ob),(0,.ob),(0,.ob),(2,.v (PV.own 1 (List.map I (o++[(b.rs.getD i default).may.getD j 0]))))] (ap ((by exact ble_of (by simp only [List.length_map,List.length_set,List.length_append,List.length_cons,List.length_nil,limit]<;>omega)):(0+(List.map I o).length).ble (List.map I o).length=true) (ap ((by exact ble_of (by simp only [List.length_map,List.length_set,List.length_append,List.length_cons,List.length_nil,limit]<;>omega)):((List.map I o).length + [I ((b.rs.getD i default).may.getD j 0)].length).ble limit=true) (ap ((by exact beq_of (by simp<;>omega)):(0+(List.map I o).length).beq (List.map I o).length=true) (ap ((by simp):PV.own 1 (List.map I o++[I ((b.rs.getD i default).may.getD j 0)])=PV.own 1 (List.map I (o++[(b.rs.getD i default).may.getD j 0]))) an)))) (S_go 3 (S_a [(9,.ret (fsV (↑(i+1):Int) (bump f0 ((b.rs.getD i default).may.getD j 0) 0 ((feesOf b).getD i 0)) (bump f1 ((b.rs.getD i default).may.getD j 0) 1 ((feesOf b).getD i 0)) (bump f2 ((b.rs.getD i default).may.getD j 0) 2 ((feesOf b).getD i 0)) (bump f3 ((b.rs.getD i default).may.getD j 0) 3 ((feesOf b).getD i 0))) ([]))] (ap (f132 (b) (i) (f0) (f1) (f2) (f3) ((b.rs.getD i default).may.getD j 0) (by omega) (by omega) (by omega) (by omega) (by omega) (by omega) (by omega)) an) (S_go 2 (S_end ?_)))))))))))))))))))))))))))))
    exact ⟨(i+1,bump f0 ((b.rs.getD i default).may.getD j 0) 0 ((feesOf b).getD i 0),bump f1 ((b.rs.getD i default).may.getD j 0) 1 ((feesOf b).getD i 0),bump f2 ((b.rs.getD i default).may.getD j 0) 2 ((feesOf b).getD i 0),bump f3 ((b.rs.getD i default).may.getD j 0) 3 ((feesOf b).getD i 0),o++[(b.rs.getD i default).may.getD j 0],Q++N2),⟨by omega,b0,b1,b2,b3,hQN,by simp [ho],by rw [hkk];exact hks,by rw [hkk];exact hp2⟩,by simp only;omega,by kernel_rfl,by kernel_rfl⟩
  · have e:b.rs.length-i=0:=by omega
    rw [e] at hpp
    have hoe:o=bestP b w b.rs.length 0 0 0 0:=by rw [← hpp];exact (List.append_nil o).symm
    clear hw hwn hcall
    refine V_seq (V_seq (V_region (S_go 7 (S_a [(0,.n (b.rs.length))] (ap ((by simp):some (List.map rndV b.rs).length=some b.rs.length) an) (S_go 1 (S_end (V_decF ((↑i:Int)<(↑b.rs.length:Int)) (by omega) (V_exit 0 (V_seq (V_region (S_go 2 (S_a [(2,.yes)] (ap ((by exact beq_of (by simp<;>omega)):(Nat.beq 0 0&&(List.map I o).length.beq (List.map I o).length)=true) an) (S_go 1 (S_end (V_ret (E_a [(1,.yes),(1,.v (PV.own 1 (List.map I o)))] (ap ((by exact ble_of (by simp only [List.length_map,List.length_set,List.length_append,List.length_cons,List.length_nil,limit]<;>omega)):(0+(List.map I o).length).ble (List.map I o).length=true) (ap ((own_ext take_allL):PV.own 1 (List.take (List.map I o).length (List.drop 0 (List.map I o)))=PV.own 1 (List.map I o)) an)) (PV.tup [PV.own 1 (List.map I o),I bad]) ([]) (by simp [*]) rfl))))))))))))))))
theorem f102b (b:Dk) (w:Int→Int→Int→Int→Int) (hg:Good b) (hw:∀ f0 f1 f2 f3:Int,(0≤f0∧f0≤7000)→(0≤f1∧f1≤7000)→(0≤f2∧f2≤7000)→(0≤f3∧f3≤7000)→FG 107 [.ref (deskV b (feesOf b)),.agg [I f0,I f1,I f2,I f3]] (I (w f0 f1 f2 f3))) (hwn:∀ f0 f1 f2 f3:Int,0≤f0→0≤f1→0≤f2→0≤f3→0≤w f0 f1 f2 f3):FG 102 [.ref (deskV b (feesOf b)),.agg [.func 107 [.ref (deskV b (feesOf b))] []]] (.tup [lstO (bestP b w b.rs.length 0 0 0 0),I (restS b w b.rs.length 0 0 0 0)]):=by
  have hbl:=hg.len
  have hcr:=hg.cr
  obtain ⟨v,h',hcall,N,rfl,rfl,hN,hNr⟩:=f131b b w hg hw b.rs.length 0 0 0 0 0 [] (by omega) (by omega) (by omega) (by omega) (by omega) ⟨fun x hx=>by cases hx⟩
  unfold hidA capsA at hcall
  rw [List.nil_append] at hcall
  refine gives_ofX Try.f102 ?_
  refine V_seq (V_region (S_go 4 (S_end (V_seq (V_region (S_go 3 (S_end (V_seq (V_region (S_go 1 (S_end (V_seq (V_region (S_go 2 (S_end (V_seq (V_region (S_go 1 (S_end (V_seq (V_region (S_go 1 (S_end (V_seq (V_region (S_go 2 (S_a [(6,.ret (I (restS b w b.rs.length 0 0 0 0)) ([(deskV b (feesOf b)).ref.box,(PV.agg [PV.func 107 [(deskV b (feesOf b)).ref] []]).box,(PV.omap (List.map entV N)).box,(PV.func 131 [] [PV.addr 50000000 [] 0 0 none,PV.addr 50000001 [] 0 0 (some 1),PV.addr 50000002 [] 0 0 none,PV.addr 50000003 [] 0 0 none]).box]))] (ap (hcall) an) (S_go 2 (S_end (V_seq (V_block 0 ?_)))))))))))))))))))))))))))))))
  generalize hbad:restS b w b.rs.length 0 0 0 0=bad at *
  refine V_loopS (fun (i,f0,f1,f2,f3,o,Q)=>i≤b.rs.length∧(0≤f0∧f0≤1000*i)∧(0≤f1∧f1≤1000*i)∧(0≤f2∧f2≤1000*i)∧(0≤f3∧f3≤1000*i)∧EnsOk b w Q∧o.length=i∧restS b w (b.rs.length-i) f0 f1 f2 f3=bad∧o++bestP b w (b.rs.length-i) f0 f1 f2 f3=bestP b w b.rs.length 0 0 0 0) (fun (i,f0,f1,f2,f3,o,Q)=>[(6,.box (.omap (Q.map entV))),(8,.own 1 (o.map I)),(9,.box (fsV (i:Nat) f0 f1 f2 f3))]) (fun (i,_)=>b.rs.length-i) ((0:Nat),(0:Int),(0:Int),(0:Int),(0:Int),([]:List Int),N) ⟨Nat.zero_le _,by omega,by omega,by omega,by omega,hN,rfl,hbad,rfl⟩ fun (i,f0,f1,f2,f3,o,Q) ⟨hi,h0,h1,h2,h3,hQ,ho,hre,hpp⟩=>?_
  by_cases hin:i<b.rs.length
  · have hmay:=good_may hg (i:=i) (by omega)
    have hml:=incr_len hmay.2.2 hmay.2.1 hg.cr
    have hX:=feesOf_bd hg i
    obtain ⟨k,hk⟩:∃ k,b.rs.length-i=k+1:=⟨b.rs.length-i-1,by omega⟩
    obtain ⟨v,h',hcall2,N2,j,rfl,rfl,hN2,hj,hjc⟩:=f118b b w hg hw hwn k i f0 f1 f2 f3 Q (by omega) h0 h1 h2 h3 hQ
    rw [hk] at hre hpp
    have hc:=getD_all hmay.2.1 j hj
    have hfa:feeAt b (k+1)=(feesOf b).getD i 0:=by unfold feeAt;rw [show b.rs.length-(k+1)=i by omega]
    have hks:restS b w k (bump f0 ((b.rs.getD i default).may.getD j 0) 0 ((feesOf b).getD i 0)) (bump f1 ((b.rs.getD i default).may.getD j 0) 1 ((feesOf b).getD i 0)) (bump f2 ((b.rs.getD i default).may.getD j 0) 2 ((feesOf b).getD i 0)) (bump f3 ((b.rs.getD i default).may.getD j 0) 3 ((feesOf b).getD i 0))=bad:=by
      have hsome:=(some_next hg hwn (k:=k) (f0:=f0) (f1:=f1) (f2:=f2) (f3:=f3) (by omega) h0.1 h1.1 h2.1 h3.1).1
      rw [show b.rs.length-(k+1)=i by omega] at hsome
      obtain ⟨q,hq,hqe⟩:=hsome
      have hfd:(b.rs.getD i default).may.find? (fun c=>decide (nextR b w k f0 f1 f2 f3 c=restS b w (k+1) f0 f1 f2 f3))≠none:=fun hn=>by
        have:=List.find?_eq_none.1 hn ((b.rs.getD i default).may.getD q 0) (by rw [getD_lt (show q<(b.rs.getD i default).may.length from hq)];exact List.getElem_mem _)
        exact this (decide_eq_true hqe)
      obtain ⟨c,hce⟩:=Option.ne_none_iff_exists'.1 hfd
      have h5:=List.find?_some hce
      have h6:firstC b w k f0 f1 f2 f3=c:=by unfold firstC;rw [show b.rs.length-(k+1)=i by omega];exact congrArg (fun o:Option Int=>o.getD 0) hce
      rw [hjc,h6,← hre,← of_decide_eq_true h5]
      simp only [nextR,hfa]
    have hp2:(o++[(b.rs.getD i default).may.getD j 0])++bestP b w k (bump f0 ((b.rs.getD i default).may.getD j 0) 0 ((feesOf b).getD i 0)) (bump f1 ((b.rs.getD i default).may.getD j 0) 1 ((feesOf b).getD i 0)) (bump f2 ((b.rs.getD i default).may.getD j 0) 2 ((feesOf b).getD i 0)) (bump f3 ((b.rs.getD i default).may.getD j 0) 3 ((feesOf b).getD i 0))=bestP b w b.rs.length 0 0 0 0:=by
      rw [← hpp,List.append_assoc,hjc];simp only [bestP,hfa];rfl
    have hkk:b.rs.length-(i+1)=k:=by omega
    rw [hre] at hcall2
    unfold hid6 caps3 at hcall2
    have hQN:EnsOk b w (Q++N2):=⟨fun x hx=>(List.mem_append.1 hx).elim (hQ.ok x) (hN2.ok x)⟩
    have b0:=bump_bd (c:=(b.rs.getD i default).may.getD j 0) (k:=0) h0 hX
    have b1:=bump_bd (c:=(b.rs.getD i default).may.getD j 0) (k:=1) h1 hX
    have b2:=bump_bd (c:=(b.rs.getD i default).may.getD j 0) (k:=2) h2 hX
    have b3:=bump_bd (c:=(b.rs.getD i default).may.getD j 0) (k:=3) h3 hX
    clear hw hwn hcall hjc hpp hbad hN hNr
    refine V_seq (V_seq (V_region (S_go 7 (S_a [(0,.n (b.rs.length))] (ap ((by simp):some (List.map rndV b.rs).length=some b.rs.length) an) (S_go 1 (S_end (V_decT ((↑i:Int)<(↑b.rs.length:Int)) (by omega) (V_skip (V_block 1 (V_seq (V_region (S_go 7 (S_a [(2,.v (PV.agg [I (b.rs.getD i default).w,I (b.rs.getD i default).s,PV.sl (List.map I (b.rs.getD i default).may)]))] (ap (getm (default) (by omega):(List.map rndV b.rs)[i]? = some (PV.agg [I (b.rs.getD i default).w,I (b.rs.getD i default).s,PV.sl (List.map I (b.rs.getD i default).may)])) an) (S_go 3 (S_end (V_seq (V_region (S_go 3 (S_a [(6,.ret (I (↑j:Int)) ([(PV.func 131 [] [PV.addr 50000001 [] 0 0 none,PV.addr 50000004 [] 0 0 (some 1),PV.addr 50000005 [] 0 0 none,PV.addr 50000000 [] 0 0 none]).box,(deskV b (feesOf b)).ref.box,(fsV (↑i:Int) f0 f1 f2 f3).box,(I bad).box,(PV.agg [PV.func 107 [(deskV b (feesOf b)).ref] []]).box,(PV.omap (List.map entV (Q++N2))).box]))] (ap (hcall2) an) (S_a [(2,.v (I ((b.rs.getD i default).may.getD j 0)))] (ap (getm (0) (by omega):(List.map I (b.rs.getD i default).may)[j]? = some (I ((b.rs.getD i default).may.getD j 0))) an) (S_go 2 (S_end (V_region (S_go 3 (S_a [(4,.ob),(0,.ob),(0,.ob),(2,.v (PV.own 1 (List.map I (o++[(b.rs.getD i default).may.getD j 0]))))] (ap ((by exact ble_of (by simp only [List.length_map,List.length_set,List.length_append,List.length_cons,List.length_nil,limit]<;>omega)):(0+(List.map I o).length).ble (List.map I o).length=true) (ap ((by exact ble_of (by simp only [List.length_map,List.length_set,List.length_append,List.length_cons,List.length_nil,limit]<;>omega)):((List.map I o).length + [I ((b.rs.getD i default).may.getD j 0)].length).ble limit=true) (ap ((by exact beq_of (by simp<;>omega)):(0+(List.map I o).length).beq (List.map I o).length=true) (ap ((by simp):PV.own 1 (List.map I o++[I ((b.rs.getD i default).may.getD j 0)])=PV.own 1 (List.map I (o++[(b.rs.getD i default).may.getD j 0]))) an)))) (S_go 3 (S_a [(9,.ret (fsV (↑(i+1):Int) (bump f0 ((b.rs.getD i default).may.getD j 0) 0 ((feesOf b).getD i 0)) (bump f1 ((b.rs.getD i default).may.getD j 0) 1 ((feesOf b).getD i 0)) (bump f2 ((b.rs.getD i default).may.getD j 0) 2 ((feesOf b).getD i 0)) (bump f3 ((b.rs.getD i default).may.getD j 0) 3 ((feesOf b).getD i 0))) ([]))] (ap (f132 (b) (i) (f0) (f1) (f2) (f3) ((b.rs.getD i default).may.getD j 0) (by omega) (by omega) (by omega) (by omega) (by omega) (by omega) (by omega)) an) (S_go 2 (S_end ?_)))))))))))))))))))))))))))))
    exact ⟨(i+1,bump f0 ((b.rs.getD i default).may.getD j 0) 0 ((feesOf b).getD i 0),bump f1 ((b.rs.getD i default).may.getD j 0) 1 ((feesOf b).getD i 0),bump f2 ((b.rs.getD i default).may.getD j 0) 2 ((feesOf b).getD i 0),bump f3 ((b.rs.getD i default).may.getD j 0) 3 ((feesOf b).getD i 0),o++[(b.rs.getD i default).may.getD j 0],Q++N2),⟨by omega,b0,b1,b2,b3,hQN,by simp [ho],by rw [hkk];exact hks,by rw [hkk];exact hp2⟩,by simp only;omega,by kernel_rfl,by kernel_rfl⟩
  · have e:b.rs.length-i=0:=by omega
    rw [e] at hpp
    have hoe:o=bestP b w b.rs.length 0 0 0 0:=by rw [← hpp];exact (List.append_nil o).symm
    clear hw hwn hcall
    refine V_seq (V_seq (V_region (S_go 7 (S_a [(0,.n (b.rs.length))] (ap ((by simp):some (List.map rndV b.rs).length=some b.rs.length) an) (S_go 1 (S_end (V_decF ((↑i:Int)<(↑b.rs.length:Int)) (by omega) (V_exit 0 (V_seq (V_region (S_go 2 (S_a [(2,.yes)] (ap ((by exact beq_of (by simp<;>omega)):(Nat.beq 0 0&&(List.map I o).length.beq (List.map I o).length)=true) an) (S_go 1 (S_end (V_ret (E_a [(1,.yes),(1,.v (PV.own 1 (List.map I o)))] (ap ((by exact ble_of (by simp only [List.length_map,List.length_set,List.length_append,List.length_cons,List.length_nil,limit]<;>omega)):(0+(List.map I o).length).ble (List.map I o).length=true) (ap ((own_ext take_allL):PV.own 1 (List.take (List.map I o).length (List.drop 0 (List.map I o)))=PV.own 1 (List.map I o)) an)) (PV.tup [PV.own 1 (List.map I o),I bad]) ([]) (by simp [*]) rfl))))))))))))))))
def wMost (b:Dk) (f0 f1 f2 f3:Int):Int:=maxL ([f0,f1,f2,f3].take b.cr.toNat)
def wSpread (b:Dk) (f0 f1 f2 f3:Int):Int:=maxL ([f0,f1,f2,f3].take b.cr.toNat)-minL ([f0,f1,f2,f3].take b.cr.toNat)
omit [Yo] in
theorem foldmax_ge:∀ (l:List Int) (m:Int),m≤l.foldl (fun m x=>if x>m then x else m) m
  | [],m=>Int.le_refl _
  | x::l,m=>by
    simp only [List.foldl_cons]
    by_cases h:x>m
    · rw [if_pos h];have:=foldmax_ge l x;omega
    · rw [if_neg h];exact foldmax_ge l m
omit [Yo] in
theorem foldmin_le:∀ (l:List Int) (m:Int),l.foldl (fun m x=>if x<m then x else m) m≤m
  | [],m=>Int.le_refl _
  | x::l,m=>by
    simp only [List.foldl_cons]
    by_cases h:x<m
    · rw [if_pos h];have:=foldmin_le l x;omega
    · rw [if_neg h];exact foldmin_le l m
omit [Yo] in
theorem head_take {b:Dk} (hg:Good b) (f0 f1 f2 f3:Int):([f0,f1,f2,f3].take b.cr.toNat).getD 0 0=f0:=by
  have:=hg.cr
  obtain ⟨n,hn⟩:∃ n,b.cr.toNat=n+1:=⟨b.cr.toNat-1,by omega⟩
  rw [hn];rfl
omit [Yo] in
theorem most_nn {b:Dk} (hg:Good b) (f0 f1 f2 f3:Int) (h0:0≤f0) (_:0≤f1) (_:0≤f2) (_:0≤f3):0≤wMost b f0 f1 f2 f3:=by
  have h1:=foldmax_ge ([f0,f1,f2,f3].take b.cr.toNat).tail (([f0,f1,f2,f3].take b.cr.toNat).getD 0 0)
  have h2:=head_take hg f0 f1 f2 f3
  unfold wMost maxL
  rw [h2] at h1 ⊢;omega
omit [Yo] in
theorem spread_nn {b:Dk} (hg:Good b) (f0 f1 f2 f3:Int) (_:0≤f0) (_:0≤f1) (_:0≤f2) (_:0≤f3):0≤wSpread b f0 f1 f2 f3:=by
  have h1:=foldmax_ge ([f0,f1,f2,f3].take b.cr.toNat).tail (([f0,f1,f2,f3].take b.cr.toNat).getD 0 0)
  have h3:=foldmin_le ([f0,f1,f2,f3].take b.cr.toNat).tail (([f0,f1,f2,f3].take b.cr.toNat).getD 0 0)
  unfold wSpread maxL minL
  omega
def bestL (b:Dk) (w:Int→Int→Int→Int→Int):List Int:=if boxErr b=0 then bestP b w b.rs.length 0 0 0 0 else []
def bestV (b:Dk) (w:Int→Int→Int→Int→Int):Int:=if boxErr b=0 then restS b w b.rs.length 0 0 0 0 else 0
theorem f41 (b:Dk) (hb:Small b):FG 41 [boxV b] (.tup [lstO (bestL b (wMost b)),I (bestV b (wMost b)),I (boxErr b)]):=by
  by_cases h:boxErr b=0
  · have hg:=box_good h
    have h102:=f102a b (wMost b) hg (fun f0 f1 f2 f3 h0 h1 h2 h3=>f103 b (feesOf b) [f0,f1,f2,f3] rfl hg.cr) (most_nn hg)
    have e1:bestL b (wMost b)=bestP b (wMost b) b.rs.length 0 0 0 0:=by simp only [bestL,h,if_true]
    have e2:bestV b (wMost b)=restS b (wMost b) b.rs.length 0 0 0 0:=by simp only [bestV,h,if_true]
    rw [← e1,← e2] at h102
    rw [h]
    refine gives_ofX Try.f41 ?_
    refine V_seq (V_region (S_go 4 (S_end (V_seq (V_region (S_go 1 (S_a [(6,.ret (PV.tup [(deskV b (feesOf b)).ref,I 0]) ([]))] (ap (f101_1 (b) (by omega) (by omega)) an) (S_go 5 (S_end (V_seq (V_seq (V_region (S_go 2 (S_end (V_false (V_skip (V_seq (V_region (S_go 4 (S_a [(7,.ret (PV.tup [lstO (bestL b (wMost b)),I (bestV b (wMost b))]) ([]))] (ap (h102) an) (S_go 5 (S_end (V_seq (V_region (S_go 2 (S_a [(2,.yes)] (ap ((by exact beq_of (by simp<;>omega)):(Nat.beq 0 0&&(List.map I (bestL b (wMost b))).length.beq (List.map I (bestL b (wMost b))).length)=true) an) (S_go 2 (S_end (V_ret (E_a [(1,.yes),(1,.v (PV.own 1 (List.map I (bestL b (wMost b)))))] (ap ((by exact ble_of (by simp only [List.length_map,List.length_set,List.length_append,List.length_cons,List.length_nil,limit]<;>omega)):(0+(List.map I (bestL b (wMost b))).length).ble (List.map I (bestL b (wMost b))).length=true) (ap ((own_ext take_allL):PV.own 1 (List.take (List.map I (bestL b (wMost b))).length (List.drop 0 (List.map I (bestL b (wMost b)))))=PV.own 1 (List.map I (bestL b (wMost b)))) an)) (PV.tup [PV.own 1 (List.map I (bestL b (wMost b))),I (bestV b (wMost b)),I 0]) ([]) rfl rfl))))))))))))))))))))))))))))))
  · have e1:bestL b (wMost b)=[]:=by simp only [bestL,h,if_false]
    have e2:bestV b (wMost b)=0:=by simp only [bestV,h,if_false]
    rw [e1,e2]
    refine gives_ofX Try.f41 ?_
    refine V_seq (V_region (S_go 4 (S_end (V_seq (V_region (S_go 1 (S_a [(6,.ret (PV.tup [PV.nilp,I (boxErr b)]) ([]))] (ap (f101_2 (b) (by omega) (by omega)) an) (S_go 5 (S_end (V_seq (V_seq (V_region (S_go 2 (S_end (V_ndecT (boxErr b=0) (by omega) (V_seq (V_region (S_go 4 (S_end (V_ret (E_a [] an (PV.tup [PV.own 1 [],I 0,I (boxErr b)]) ([]) rfl rfl)))))))))))))))))))))
theorem f43 (b:Dk) (hb:Small b):FG 43 [boxV b] (.tup [lstO (bestL b (wSpread b)),I (bestV b (wSpread b)),I (boxErr b)]):=by
  by_cases h:boxErr b=0
  · have hg:=box_good h
    have h102:=f102b b (wSpread b) hg (fun f0 f1 f2 f3 h0 h1 h2 h3=>f107 b (feesOf b) [f0,f1,f2,f3] rfl (fun x hx=>by simp only [List.mem_cons,List.not_mem_nil,or_false] at hx;omega) hg.cr) (spread_nn hg)
    have e1:bestL b (wSpread b)=bestP b (wSpread b) b.rs.length 0 0 0 0:=by simp only [bestL,h,if_true]
    have e2:bestV b (wSpread b)=restS b (wSpread b) b.rs.length 0 0 0 0:=by simp only [bestV,h,if_true]
    rw [← e1,← e2] at h102
    rw [h]
    refine gives_ofX Try.f43 ?_
    refine V_seq (V_region (S_go 4 (S_end (V_seq (V_region (S_go 1 (S_a [(6,.ret (PV.tup [(deskV b (feesOf b)).ref,I 0]) ([]))] (ap (f101_1 (b) (by omega) (by omega)) an) (S_go 5 (S_end (V_seq (V_seq (V_region (S_go 2 (S_end (V_false (V_skip (V_seq (V_region (S_go 4 (S_a [(7,.ret (PV.tup [lstO (bestL b (wSpread b)),I (bestV b (wSpread b))]) ([]))] (ap (h102) an) (S_go 5 (S_end (V_seq (V_region (S_go 2 (S_a [(2,.yes)] (ap ((by exact beq_of (by simp<;>omega)):(Nat.beq 0 0&&(List.map I (bestL b (wSpread b))).length.beq (List.map I (bestL b (wSpread b))).length)=true) an) (S_go 2 (S_end (V_ret (E_a [(1,.yes),(1,.v (PV.own 1 (List.map I (bestL b (wSpread b)))))] (ap ((by exact ble_of (by simp only [List.length_map,List.length_set,List.length_append,List.length_cons,List.length_nil,limit]<;>omega)):(0+(List.map I (bestL b (wSpread b))).length).ble (List.map I (bestL b (wSpread b))).length=true) (ap ((own_ext take_allL):PV.own 1 (List.take (List.map I (bestL b (wSpread b))).length (List.drop 0 (List.map I (bestL b (wSpread b)))))=PV.own 1 (List.map I (bestL b (wSpread b)))) an)) (PV.tup [PV.own 1 (List.map I (bestL b (wSpread b))),I (bestV b (wSpread b)),I 0]) ([]) rfl rfl))))))))))))))))))))))))))))))
  · have e1:bestL b (wSpread b)=[]:=by simp only [bestL,h,if_false]
    have e2:bestV b (wSpread b)=0:=by simp only [bestV,h,if_false]
    rw [e1,e2]
    refine gives_ofX Try.f43 ?_
    refine V_seq (V_region (S_go 4 (S_end (V_seq (V_region (S_go 1 (S_a [(6,.ret (PV.tup [PV.nilp,I (boxErr b)]) ([]))] (ap (f101_2 (b) (by omega) (by omega)) an) (S_go 5 (S_end (V_seq (V_seq (V_region (S_go 2 (S_end (V_ndecT (boxErr b=0) (by omega) (V_seq (V_region (S_go 4 (S_end (V_ret (E_a [] an (PV.tup [PV.own 1 [],I 0,I (boxErr b)]) ([]) rfl rfl)))))))))))))))))))))
end
end Go.Eng
set_option maxRecDepth 10000
namespace Go.Eng
open Go Go.Proofs
def shN (b:Dk):Nat→List (List Int)
  | 0=>[[]]
  | k+1=>(rnd b (b.rs.length-(k+1))).may.flatMap fun c=>(shN b k).map (c::·)
def valN (b:Dk) (w:Int→Int→Int→Int→Int):Nat→Int→Int→Int→Int→List Int→Int
  | k+1,f0,f1,f2,f3,c::l=>valN b w k (bump f0 c 0 (feeAt b (k+1))) (bump f1 c 1 (feeAt b (k+1))) (bump f2 c 2 (feeAt b (k+1))) (bump f3 c 3 (feeAt b (k+1))) l
  | _,f0,f1,f2,f3,_=>w f0 f1 f2 f3
def FirstMin (V:List Int→Int) (L:List (List Int)) (x:List Int):Prop:=∃ A B,L=A++x::B∧(∀ y∈A,V x<V y)∧∀ y∈B,V x≤V y
theorem firstMin_unique {V:List Int→Int} {L:List (List Int)} {x y:List Int} (h:FirstMin V L x) (h':FirstMin V L y):x=y:=by
  obtain ⟨A,B,e,h1,h2⟩:=h
  obtain ⟨A',B',e',h1',h2'⟩:=h'
  rw [e] at e'
  rcases List.append_eq_append_iff.1 e' with ⟨C,rfl,h3⟩ | ⟨C,rfl,h3⟩
  · cases C with
    | nil=>simp only [List.nil_append,List.cons.injEq] at h3;exact h3.1
    | cons z C =>
      simp only [List.cons_append,List.cons.injEq] at h3
      obtain ⟨rfl,rfl⟩:=h3
      have a:=h1' x (by simp)
      have c:=h2 y (by simp)
      omega
  · cases C with
    | nil=>simp only [List.nil_append,List.cons.injEq] at h3;exact h3.1.symm
    | cons z C =>
      simp only [List.cons_append,List.cons.injEq] at h3
      obtain ⟨rfl,rfl⟩:=h3
      have a:=h1 y (by simp)
      have c:=h2' x (by simp)
      omega
theorem firstMin_lt {V:List Int→Int} {P:List (List Int)} {x l:List Int} (h:FirstMin V P x) (hl:V l<V x):FirstMin V (P++[l]) l:=by
  obtain ⟨A,B,rfl,h1,h2⟩:=h
  refine ⟨A++x::B,[],rfl,fun y hy=>?_,fun y hy=>by cases hy⟩
  rcases List.mem_append.1 hy with hy | hy
  · have:=h1 y hy;omega
  · rcases List.mem_cons.1 hy with rfl | hy
    · exact hl
    · have:=h2 y hy;omega
theorem firstMin_ge {V:List Int→Int} {P:List (List Int)} {x l:List Int} (h:FirstMin V P x) (hl:¬ V l<V x):FirstMin V (P++[l]) x:=by
  obtain ⟨A,B,rfl,h1,h2⟩:=h
  refine ⟨A,B++[l],by simp,h1,fun y hy=>?_⟩
  rcases List.mem_append.1 hy with hy | hy
  · exact h2 y hy
  · rw [List.mem_singleton] at hy;subst hy;omega
theorem best_first {b:Dk} {w:Int→Int→Int→Int→Int} (hg:Good b) (hw:∀ f0 f1 f2 f3:Int,0≤f0→0≤f1→0≤f2→0≤f3→0≤w f0 f1 f2 f3):∀ (k:Nat) (f0 f1 f2 f3:Int),k≤b.rs.length→0≤f0→0≤f1→0≤f2→0≤f3 →
    FirstMin (valN b w k f0 f1 f2 f3) (shN b k) (bestP b w k f0 f1 f2 f3)∧valN b w k f0 f1 f2 f3 (bestP b w k f0 f1 f2 f3)=restS b w k f0 f1 f2 f3∧∀ l∈shN b k,restS b w k f0 f1 f2 f3≤valN b w k f0 f1 f2 f3 l
  | 0,f0,f1,f2,f3,_,_,_,_,_=>by
    refine ⟨⟨[],[],rfl,fun y hy=>(by cases hy),fun y hy=>(by cases hy)⟩,rfl,fun l hl=>?_⟩
    simp only [shN,List.mem_singleton] at hl
    subst hl
    exact Int.le_refl _
  | k + 1,f0,f1,f2,f3,hk,h0,h1,h2,h3=>by
    have hX:=feesOf_bd hg (b.rs.length-(k+1))
    have hb:∀ f c q:Int,0≤f→0≤bump f c q (feeAt b (k+1)):=fun f c q hf=>by unfold bump feeAt;split<;>omega
    have ih:=fun c:Int=>best_first hg hw k (bump f0 c 0 (feeAt b (k+1))) (bump f1 c 1 (feeAt b (k+1))) (bump f2 c 2 (feeAt b (k+1))) (bump f3 c 3 (feeAt b (k+1))) (by omega) (hb _ _ _ h0) (hb _ _ _ h1) (hb _ _ _ h2) (hb _ _ _ h3)
    obtain ⟨⟨j,hj,hje⟩,hle⟩:=some_next hg hw (k:=k) hk h0 h1 h2 h3
    have hfd:(rnd b (b.rs.length-(k+1))).may.find? (fun c=>decide (nextR b w k f0 f1 f2 f3 c=restS b w (k+1) f0 f1 f2 f3))≠none:=fun hn=>by
      have:=List.find?_eq_none.1 hn ((rnd b (b.rs.length-(k+1))).may.getD j 0) (by rw [getD_lt hj];exact List.getElem_mem _)
      exact this (decide_eq_true hje)
    obtain ⟨c,hc⟩:=Option.ne_none_iff_exists'.1 hfd
    have hfc:firstC b w k f0 f1 f2 f3=c:=congrArg (fun o:Option Int=>o.getD 0) hc
    obtain ⟨hp,C1,C2,hC,hC1⟩:=List.find?_eq_some_iff_append.1 hc
    have hp:=of_decide_eq_true hp
    have hall:∀ l∈shN b (k+1),restS b w (k+1) f0 f1 f2 f3≤valN b w (k+1) f0 f1 f2 f3 l:=fun l hl=>by
      simp only [shN,List.mem_flatMap,List.mem_map] at hl
      obtain ⟨c',hc',l',hl',rfl⟩:=hl
      exact Int.le_trans (hle c' hc') ((ih c').2.2 l' hl')
    have hval:valN b w (k+1) f0 f1 f2 f3 (bestP b w (k+1) f0 f1 f2 f3)=restS b w (k+1) f0 f1 f2 f3:=by
      rw [← hp,bestP,hfc];exact (ih c).2.1
    refine ⟨?_,hval,hall⟩
    obtain ⟨A,B,e,g1,g2⟩:=(ih c).1
    have hbp:bestP b w (k+1) f0 f1 f2 f3=c::bestP b w k (bump f0 c 0 (feeAt b (k+1))) (bump f1 c 1 (feeAt b (k+1))) (bump f2 c 2 (feeAt b (k+1))) (bump f3 c 3 (feeAt b (k+1))):=by rw [bestP,hfc]
    have hsh:shN b (k+1)=(C1.flatMap fun c=>(shN b k).map (c::·))++(A.map (c::·))++bestP b w (k+1) f0 f1 f2 f3::(B.map (c::·)++C2.flatMap fun c=>(shN b k).map (c::·)):=by
      rw [hbp]
      simp only [shN]
      rw [hC,List.flatMap_append,List.flatMap_cons,e]
      simp only [List.map_append,List.map_cons,List.append_assoc,List.cons_append,List.nil_append]
    refine ⟨_,_,hsh,fun y hy=>?_,fun y hy=>?_⟩
    · rw [hval]
      rcases List.mem_append.1 hy with hy | hy
      · obtain ⟨c',hc',hy⟩:=List.mem_flatMap.1 hy
        obtain ⟨l',hl',rfl⟩:=List.mem_map.1 hy
        have h5:=hle c' (by rw [hC];simp [hc'])
        have h6:=hC1 c' hc'
        simp only [Bool.not_eq_true',decide_eq_false_iff_not] at h6
        have h7:nextR b w k f0 f1 f2 f3 c'≤valN b w (k+1) f0 f1 f2 f3 (c'::l'):=(ih c').2.2 l' hl'
        omega
      · obtain ⟨l',hl',rfl⟩:=List.mem_map.1 hy
        have h5:=g1 l' hl'
        rw [(ih c).2.1] at h5
        have h6:nextR b w k f0 f1 f2 f3 c<valN b w (k+1) f0 f1 f2 f3 (c::l'):=h5
        omega
    · rw [hval]
      apply hall
      rw [hsh]
      simp only [List.mem_append,List.mem_cons] at hy ⊢
      exact .inr (.inr hy)
theorem shN_mem {b:Dk}:∀ {k:Nat} {l:List Int},k≤b.rs.length→l∈shN b k→l.length=k∧∀ j,j<k→l.getD j 0∈(rnd b (b.rs.length-k+j)).may
  | 0,l,_,h=>by simp only [shN,List.mem_singleton] at h;subst h;exact ⟨rfl,fun j hj=>absurd hj (Nat.not_lt_zero _)⟩
  | k + 1,l,hk,h=>by
    simp only [shN,List.mem_flatMap,List.mem_map] at h
    obtain ⟨c,hc,l',hl',rfl⟩:=h
    obtain ⟨g1,g2⟩:=shN_mem (by omega) hl'
    refine ⟨by simp [g1],fun j hj=>?_⟩
    cases j with
    | zero=>exact hc
    | succ j =>
      have:=g2 j (by omega)
      rw [show b.rs.length-(k+1)+(j+1)=b.rs.length-k+j by omega]
      exact this
theorem shN_ok {b:Dk} (hg:Good b) {l:List Int} (h:l∈shN b b.rs.length):ShareOk b l:=by
  obtain ⟨h1,h2⟩:=shN_mem (Nat.le_refl _) h
  have hm:∀ r,r<l.length→l.getD r 0∈(rnd b r).may:=fun r hr=>by
    have:=h2 r (by omega)
    rwa [show b.rs.length-b.rs.length+r=r by omega] at this
  refine ⟨good_box hg,h1,fun x hx=>?_,mayAll_t fun r hr=>?_⟩
  · obtain ⟨r,hr,rfl⟩:=List.getElem_of_mem hx
    have:=hm r hr
    rw [getD_lt hr] at this
    exact (good_may hg (i:=r) (by omega)).2.1 _ this
  · simp only [has,List.any_eq_true,decide_eq_true_eq]
    exact ⟨_,hm r hr,rfl⟩
theorem val_earn {b:Dk} {w:Int→Int→Int→Int→Int} (hg:Good b) {l:List Int} (hl:l.length=b.rs.length):∀ k,k≤b.rs.length→valN b w k (earnN b l 0 (b.rs.length-k)) (earnN b l 1 (b.rs.length-k)) (earnN b l 2 (b.rs.length-k)) (earnN b l 3 (b.rs.length-k)) (l.drop (b.rs.length-k))=w (earnN b l 0 b.rs.length) (earnN b l 1 b.rs.length) (earnN b l 2 b.rs.length) (earnN b l 3 b.rs.length)
  | 0,_=>by simp only [Nat.sub_zero,valN]
  | k + 1,hk=>by
    have ih:=val_earn (w:=w) hg hl k (by omega)
    have hr:b.rs.length-(k+1)<l.length:=by omega
    have e:b.rs.length-k=b.rs.length-(k+1)+1:=by omega
    rw [List.drop_eq_getElem_cons hr,valN,← ih]
    have hf:feeAt b (k+1)=feeOf b (rnd b (b.rs.length-(k+1))):=feesOf_at (by omega)
    have hbm:∀ q:Int,bump (earnN b l q (b.rs.length-(k+1))) l[b.rs.length-(k+1)] q (feeAt b (k+1))=earnN b l q (b.rs.length-k):=fun q=>by
      rw [e,earnN,getD_lt hr,hf];rfl
    rw [hbm 0,hbm 1,hbm 2,hbm 3,← e]
theorem fees_four {b:Dk} {l:List Int} (hs:ShareOk b l):feesL b l=[earnN b l 0 b.rs.length,earnN b l 1 b.rs.length,earnN b l 2 b.rs.length,earnN b l 3 b.rs.length].take b.cr.toNat:=by
  have hcr:=(box_good hs.box).cr
  rw [earn_list hs,hs.len]
  have:b.cr.toNat=1∨b.cr.toNat=2∨b.cr.toNat=3∨b.cr.toNat=4:=by omega
  rcases this with h | h | h | h<;>rw [h]<;>rfl
theorem val_share {b:Dk} {w:Int→Int→Int→Int→Int} {l:List Int} (hs:ShareOk b l):valN b w b.rs.length 0 0 0 0 l=w (earnN b l 0 b.rs.length) (earnN b l 1 b.rs.length) (earnN b l 2 b.rs.length) (earnN b l 3 b.rs.length):=by
  have:=val_earn (w:=w) (box_good hs.box) hs.len b.rs.length (Nat.le_refl _)
  rw [Nat.sub_self] at this
  exact this
end Go.Eng
set_option maxRecDepth 10000
set_option maxHeartbeats 4000000
namespace Go.Eng
open Go Go.Proofs
section
variable [Yo]
omit [Yo] in
theorem flat_next {α:Type} {l:List Int} {i:Nat} {F:Int→List α} (h:i<l.length):(l.take (i+1)).flatMap F=(l.take i).flatMap F++F (l.getD i 0):=by
  rw [List.take_add_one,List.getElem?_eq_getElem h,getD_lt h]
  simp only [List.flatMap_append,Option.toList,List.flatMap_cons,List.flatMap_nil,List.append_nil]
omit [Yo] in
theorem flat_len {α:Type} {l:List Int} {F:Int→List α} {m:Nat} (h:∀ c,(F c).length≤m):(l.flatMap F).length≤l.length*m:=by
  induction l with
  | nil=>simp
  | cons c l ih =>
    rw [List.flatMap_cons,List.length_append,List.length_cons,Nat.add_mul]
    have:=h c;omega
omit [Yo] in
theorem shN_len {b:Dk} (hg:Good b):∀ k,k≤b.rs.length→(shN b k).length≤4 ^ k
  | 0,_=>by simp [shN]
  | k+1,hk=>by
    have ih:=shN_len hg k (by omega)
    have hmay:=good_may hg (i:=b.rs.length-(k+1)) (by omega)
    have hml:=incr_len hmay.2.2 hmay.2.1 hg.cr
    have h5:=flat_len (l:=(rnd b (b.rs.length-(k+1))).may) (F:=fun c=>(shN b k).map (c::·)) (m:=(shN b k).length) fun c=>by simp
    have h6:(rnd b (b.rs.length-(k+1))).may.length*(shN b k).length≤4*4 ^ k:=Nat.mul_le_mul hml ih
    rw [Nat.pow_succ]
    simp only [shN];omega
theorem f104 (b:Dk) (hg:Good b):∀ (k r:Nat),r+k=b.rs.length→FG 104 [boxV b,I (r:Nat)] (.sl ((shN b k).map ints)):=by
  have hbl:=hg.len
  intro k
  induction k with
  | zero =>
    intro r hr
    refine gives_ofX Try.f104 ?_
    refine V_seq (V_region (S_go 2 (S_end (V_seq (V_seq (V_region (S_go 3 (S_a [(0,.n (b.rs.length))] (ap ((by simp):some (List.map rndV b.rs).length=some b.rs.length) an) (S_go 1 (S_end (V_decT ((↑r:Int)=(↑b.rs.length:Int)) (by omega) (V_seq (V_region (S_go 2 (S_end (V_ret (E_a [] an (PV.sl [PV.sl []]) ([]) rfl rfl)))))))))))))))))
  | succ k ih =>
    intro r hr
    have h:=ih (r+1) (by omega)
    have hmay:=good_may hg (i:=r) (by omega)
    have hml:=incr_len hmay.2.2 hmay.2.1 hg.cr
    have hkr:b.rs.length-(k+1)=r:=by omega
    have hsh:shN b (k+1)=(b.rs.getD r default).may.flatMap fun c=>(shN b k).map (c::·):=by simp only [shN,hkr,rnd]
    have hRl:(shN b k).length≤16384:=by
      have h1:=shN_len hg k (by omega)
      have h2:4 ^ k≤4 ^ 7:=Nat.pow_le_pow_right (by omega) (by omega)
      omega
    have hle:∀ l∈shN b k,l.length=k:=fun l hl=>(shN_mem (by omega) hl).1
    rw [hsh]
    generalize shN b k=R at *
    refine gives_ofX Try.f104 ?_
    refine V_seq (V_region (S_go 2 (S_end (V_seq (V_seq (V_region (S_go 3 (S_a [(0,.n (b.rs.length))] (ap ((by simp):some (List.map rndV b.rs).length=some b.rs.length) an) (S_go 1 (S_end (V_decF ((↑r:Int)=(↑b.rs.length:Int)) (by omega) (V_skip (V_seq (V_region (S_go 1 (S_end (V_seq (V_region (S_go 2 (S_a [(1,.v (I (↑(r+1):Int)))] (ap ((wrapE (by omega) (by omega)):I (IntKind.i64.wrap ((↑r:Int)+1))=I (↑(r+1):Int)) an) (S_a [(8,.ret (PV.sl (List.map ints R)) ([]))] (ap (ih (r+1) (by omega)) an) (S_go 1 (S_end (V_seq (V_region (S_go 3 (S_a [(2,.v (PV.agg [I (b.rs.getD r default).w,I (b.rs.getD r default).s,PV.sl (List.map I (b.rs.getD r default).may)]))] (ap (getm (default) (by omega):(List.map rndV b.rs)[r]? = some (PV.agg [I (b.rs.getD r default).w,I (b.rs.getD r default).s,PV.sl (List.map I (b.rs.getD r default).may)])) an) (S_go 3 (S_end (V_seq (V_seq (V_region (S_go 1 (S_end (V_block 0 ?_)))))))))))))))))))))))))))))))))))
    refine V_loopS (fun (i,Q)=>i≤(b.rs.getD r default).may.length∧Q=((b.rs.getD r default).may.take i).flatMap fun c=>R.map (c::·)) (fun (i,Q)=>[(5,.own 1 (Q.map lstO)),(8,I (i:Nat))]) (fun (i,_)=>(b.rs.getD r default).may.length-i) ((0:Nat),([]:List (List Int))) ⟨Nat.zero_le _,rfl⟩ fun (i,Q) ⟨hi,hQ⟩=>?_
    have hQl:Q.length≤65536:=by
      have h5:=flat_len (l:=(b.rs.getD r default).may.take i) (F:=fun c=>R.map (c::·)) (m:=16384) fun c=>by simpa using hRl
      rw [← hQ] at h5
      have h6:((b.rs.getD r default).may.take i).length*16384≤4*16384:=Nat.mul_le_mul (by rw [List.length_take];omega) (Nat.le_refl _)
      omega
    by_cases hil:i<(b.rs.getD r default).may.length
    · have hnx:=flat_next (F:=fun c=>R.map (c::·)) hil
      rw [← hQ] at hnx
      refine V_seq (V_seq (V_region (S_go 2 (S_a [(0,.n ((b.rs.getD r default).may.length))] (ap ((by simp):some (List.map I (b.rs.getD r default).may).length=some (b.rs.getD r default).may.length) an) (S_go 1 (S_end (V_decT ((↑i:Int)<(↑(b.rs.getD r default).may.length:Int)) (by omega) (V_skip (V_seq (V_block 1 (V_seq (V_region (S_go 1 (S_end (V_block 2 ?_)))))))))))))))
      refine V_loopS (fun (j,S)=>j≤R.length∧S=Q++(R.take j).map ((b.rs.getD r default).may.getD i 0::·)) (fun (j,S)=>[(5,.own 1 (S.map lstO)),(9,I (j:Nat))]) (fun (j,_)=>R.length-j) ((0:Nat),Q) ⟨Nat.zero_le _,by simp⟩ fun (j,S) ⟨hj,hS⟩=>?_
      have hSl:S.length≤100000:=by rw [hS,List.length_append,List.length_map,List.length_take];omega
      by_cases hjl:j<R.length
      · have hRi:(R.getD j []).length≤7:=by rw [getD_lt hjl];have:=hle _ (List.getElem_mem hjl);omega
        clear hle hsh hnx
        refine V_seq (V_seq (V_region (S_go 2 (S_a [(0,.n (R.length))] (ap ((by simp):some (List.map ints R).length=some R.length) an) (S_go 1 (S_end (V_decT ((↑j:Int)<(↑R.length:Int)) (by omega) (V_skip (V_seq (V_block 3 (V_region (S_go 3 (S_a [(2,.v (I ((b.rs.getD r default).may.getD i 0)))] (ap (getm (0) (by omega):(List.map I (b.rs.getD r default).may)[i]? = some (I ((b.rs.getD r default).may.getD i 0))) an) (S_go 4 (S_a [(2,.v (PV.sl (List.map I (R.getD j []))))] (ap (getm ([]) (by omega):(List.map ints R)[j]? = some (PV.sl (List.map I (R.getD j [])))) an) (S_go 1 (S_a [(0,.ob),(0,.ob),(0,.ob),(3,.ob)] (ap ((by exact all_map _):((List.map I (R.getD j [])).all fun x=>x.plain)=true) (ap ((by exact all_map _):((List.map I (R.getD j [])).all fun y=>y.cells.length.beq ((fun x=>x.size) Try.prog.types[3])&&y.cells.all fun q=>q.oneCell)=true) (ap ((by exact List.isEmpty_iff.2 (wayss_map _)):(wayss (List.map I (R.getD j []))).isEmpty=true) (ap ((by exact ble_of (by simp only [List.length_map,List.length_set,List.length_append,List.length_cons,List.length_nil,limit]<;>omega)):([I ((b.rs.getD r default).may.getD i 0)].length+(List.map I (R.getD j [])).length).ble limit=true) an)))) (S_go 1 (S_a [(4,.ob),(0,.ob),(0,.ob),(2,.v (PV.own 1 (List.map lstO (S++[(b.rs.getD r default).may.getD i 0::R.getD j []]))))] (ap ((by exact ble_of (by simp only [List.length_map,List.length_set,List.length_append,List.length_cons,List.length_nil,limit]<;>omega)):(0+(List.map lstO S).length).ble (List.map lstO S).length=true) (ap ((by exact ble_of (by simp only [List.length_map,List.length_set,List.length_append,List.length_cons,List.length_nil,limit]<;>omega)):((List.map lstO S).length + [PV.own 1 (I ((b.rs.getD r default).may.getD i 0)::List.map I (R.getD j []))].length).ble limit=true) (ap ((by exact beq_of (by simp<;>omega)):(0+(List.map lstO S).length).beq (List.map lstO S).length=true) (ap ((by simp):PV.own 1 (List.map lstO S++[PV.own 1 (I ((b.rs.getD r default).may.getD i 0)::List.map I (R.getD j []))])=PV.own 1 (List.map lstO (S++[(b.rs.getD r default).may.getD i 0::R.getD j []]))) an)))) (S_go 1 (S_end (V_region (S_go 1 (S_a [(1,.v (I (↑(j+1):Int)))] (ap ((wrapE (by omega) (by omega)):I (IntKind.i64.wrap ((↑j:Int)+1))=I (↑(j+1):Int)) an) (S_go 1 (S_end ?_))))))))))))))))))))))))))
        refine ⟨(j+1,S++[(b.rs.getD r default).may.getD i 0::R.getD j []]),⟨by omega,?_⟩,by simp only;omega,by kernel_rfl,by kernel_rfl⟩
        rw [hS,List.append_assoc,List.take_add_one,List.getElem?_eq_getElem hjl,getD_lt hjl,List.map_append];rfl
      · refine V_seq (V_seq (V_region (S_go 2 (S_a [(0,.n (R.length))] (ap ((by simp):some (List.map ints R).length=some R.length) an) (S_go 1 (S_end (V_decF ((↑j:Int)<(↑R.length:Int)) (by omega) (V_exit 2 (V_region (S_go 1 (S_a [(1,.v (I (↑(i+1):Int)))] (ap ((wrapE (by omega) (by omega)):I (IntKind.i64.wrap ((↑i:Int)+1))=I (↑(i+1):Int)) an) (S_go 1 (S_end ?_)))))))))))))
        exact ⟨(i+1,S),⟨by omega,by rw [hnx,hS,List.take_of_length_le (by omega)]⟩,by simp only;omega,by kernel_rfl,by kernel_rfl⟩
    · rw [List.take_of_length_le (by omega)] at hQ
      subst hQ
      refine V_seq (V_seq (V_region (S_go 2 (S_a [(0,.n ((b.rs.getD r default).may.length))] (ap ((by simp):some (List.map I (b.rs.getD r default).may).length=some (b.rs.getD r default).may.length) an) (S_go 1 (S_end (V_decF ((↑i:Int)<(↑(b.rs.getD r default).may.length:Int)) (by omega) (V_exit 0 (V_seq (V_region (S_go 1 (S_a [(2,.yes)] (ap ((by exact beq_of (by simp<;>omega)):(Nat.beq 0 0&&(List.map lstO (List.flatMap (fun c=>List.map (fun x=>c::x) R) (b.rs.getD r default).may)).length.beq (List.map lstO (List.flatMap (fun c=>List.map (fun x=>c::x) R) (b.rs.getD r default).may)).length)=true) an) (S_end (V_ret (E_a [(1,.envv ([(2,(PV.agg [I b.cr,I b.wd,I b.st,I b.fn,PV.sl (List.map rndV b.rs)]).box),(4,PV.sl (List.map (fun x=>PV.sl (List.map I x)) (List.flatMap (fun c=>List.map (fun x=>c::x) R) (b.rs.getD r default).may))),(6,PV.sl (List.map ints R)),(7,PV.sl (List.map I (b.rs.getD r default).may)),(8,I (↑i:Int)),(14,PV.bool ((↑r:Int)==(↑b.rs.length:Int))),(19,PV.sl (List.map ints R)),(20,PV.addr 2 [] 0 4 none),(21,PV.sl (List.map rndV b.rs)),(22,I (↑r:Int)),(23,(PV.agg [I (b.rs.getD r default).w,I (b.rs.getD r default).s,PV.sl (List.map I (b.rs.getD r default).may)]).ref),(24,(PV.sl (List.map I (b.rs.getD r default).may)).ref),(25,PV.sl (List.map I (b.rs.getD r default).may)),(29,PV.bool (decide ((↑i:Int)<(↑(b.rs.getD r default).may.length:Int)))),(51,PV.bor 5 [] 1 0 (List.map lstO (List.flatMap (fun c=>List.map (fun x=>c::x) R) (b.rs.getD r default).may)).length)]) (PV.sl (List.map (fun x=>PV.sl (List.map I x)) (List.flatMap (fun c=>List.map (fun x=>c::x) R) (b.rs.getD r default).may))))] (ap (And.intro (Eq.trans (by kernel_rfl:Env.frz [(2,(PV.agg [I b.cr,I b.wd,I b.st,I b.fn,PV.sl (List.map rndV b.rs)]).box),(4,PV.own 1 (List.map lstO (List.flatMap (fun c=>List.map (fun x=>c::x) R) (b.rs.getD r default).may))),(6,PV.sl (List.map ints R)),(7,PV.sl (List.map I (b.rs.getD r default).may)),(8,I (↑i:Int)),(14,PV.bool ((↑r:Int)==(↑b.rs.length:Int))),(19,PV.sl (List.map ints R)),(20,PV.addr 2 [] 0 4 none),(21,PV.sl (List.map rndV b.rs)),(22,I (↑r:Int)),(23,(PV.agg [I (b.rs.getD r default).w,I (b.rs.getD r default).s,PV.sl (List.map I (b.rs.getD r default).may)]).ref),(24,(PV.sl (List.map I (b.rs.getD r default).may)).ref),(25,PV.sl (List.map I (b.rs.getD r default).may)),(29,PV.bool (decide ((↑i:Int)<(↑(b.rs.getD r default).may.length:Int)))),(51,PV.bor 5 [] 1 0 (List.map lstO (List.flatMap (fun c=>List.map (fun x=>c::x) R) (b.rs.getD r default).may)).length)] 4 []=some [(2,(PV.agg [I b.cr,I b.wd,I b.st,I b.fn,PV.sl (List.map rndV b.rs)]).box),(4,PV.sl (freezes (List.map lstO (List.flatMap (fun c=>List.map (fun x=>c::x) R) (b.rs.getD r default).may)))),(6,PV.sl (List.map ints R)),(7,PV.sl (List.map I (b.rs.getD r default).may)),(8,I (↑i:Int)),(14,PV.bool ((↑r:Int)==(↑b.rs.length:Int))),(19,PV.sl (List.map ints R)),(20,PV.addr 2 [] 0 4 none),(21,PV.sl (List.map rndV b.rs)),(22,I (↑r:Int)),(23,(PV.agg [I (b.rs.getD r default).w,I (b.rs.getD r default).s,PV.sl (List.map I (b.rs.getD r default).may)]).ref),(24,(PV.sl (List.map I (b.rs.getD r default).may)).ref),(25,PV.sl (List.map I (b.rs.getD r default).may)),(29,PV.bool (decide ((↑i:Int)<(↑(b.rs.getD r default).may.length:Int)))),(51,PV.bor 5 [] 1 0 (List.map lstO (List.flatMap (fun c=>List.map (fun x=>c::x) R) (b.rs.getD r default).may)).length)]) ((by simp only [show freezes (List.map lstO (List.flatMap (fun c=>List.map (fun x=>c::x) R) (b.rs.getD r default).may))=List.map (fun x=>PV.sl (List.map I x)) (List.flatMap (fun c=>List.map (fun x=>c::x) R) (b.rs.getD r default).may) from (by first | exact freezes_mapI _ | exact freezes_mapH _ | exact freezes_all (freezes_mapH _) | exact freezes_to (by simp [take_mapL]) (freezes_mapI _))]):some [(2,(PV.agg [I b.cr,I b.wd,I b.st,I b.fn,PV.sl (List.map rndV b.rs)]).box),(4,PV.sl (freezes (List.map lstO (List.flatMap (fun c=>List.map (fun x=>c::x) R) (b.rs.getD r default).may)))),(6,PV.sl (List.map ints R)),(7,PV.sl (List.map I (b.rs.getD r default).may)),(8,I (↑i:Int)),(14,PV.bool ((↑r:Int)==(↑b.rs.length:Int))),(19,PV.sl (List.map ints R)),(20,PV.addr 2 [] 0 4 none),(21,PV.sl (List.map rndV b.rs)),(22,I (↑r:Int)),(23,(PV.agg [I (b.rs.getD r default).w,I (b.rs.getD r default).s,PV.sl (List.map I (b.rs.getD r default).may)]).ref),(24,(PV.sl (List.map I (b.rs.getD r default).may)).ref),(25,PV.sl (List.map I (b.rs.getD r default).may)),(29,PV.bool (decide ((↑i:Int)<(↑(b.rs.getD r default).may.length:Int)))),(51,PV.bor 5 [] 1 0 (List.map lstO (List.flatMap (fun c=>List.map (fun x=>c::x) R) (b.rs.getD r default).may)).length)]=some [(2,(PV.agg [I b.cr,I b.wd,I b.st,I b.fn,PV.sl (List.map rndV b.rs)]).box),(4,PV.sl (List.map (fun x=>PV.sl (List.map I x)) (List.flatMap (fun c=>List.map (fun x=>c::x) R) (b.rs.getD r default).may))),(6,PV.sl (List.map ints R)),(7,PV.sl (List.map I (b.rs.getD r default).may)),(8,I (↑i:Int)),(14,PV.bool ((↑r:Int)==(↑b.rs.length:Int))),(19,PV.sl (List.map ints R)),(20,PV.addr 2 [] 0 4 none),(21,PV.sl (List.map rndV b.rs)),(22,I (↑r:Int)),(23,(PV.agg [I (b.rs.getD r default).w,I (b.rs.getD r default).s,PV.sl (List.map I (b.rs.getD r default).may)]).ref),(24,(PV.sl (List.map I (b.rs.getD r default).may)).ref),(25,PV.sl (List.map I (b.rs.getD r default).may)),(29,PV.bool (decide ((↑i:Int)<(↑(b.rs.getD r default).may.length:Int)))),(51,PV.bor 5 [] 1 0 (List.map lstO (List.flatMap (fun c=>List.map (fun x=>c::x) R) (b.rs.getD r default).may)).length)])) (inl_own (by first | exact freezes_mapI _ | exact freezes_mapH _):PV.mapW (inl 4 [] (PV.own 1 (List.map lstO (List.flatMap (fun c=>List.map (fun x=>c::x) R) (b.rs.getD r default).may)))) (PV.bor 4 [] 1 0 (List.map lstO (List.flatMap (fun c=>List.map (fun x=>c::x) R) (b.rs.getD r default).may)).length)=PV.sl (List.map (fun x=>PV.sl (List.map I x)) (List.flatMap (fun c=>List.map (fun x=>c::x) R) (b.rs.getD r default).may)))) an) (PV.sl (List.map (fun x=>PV.sl (List.map I x)) (List.flatMap (fun c=>List.map (fun x=>c::x) R) (b.rs.getD r default).may))) ([]) rfl rfl)))))))))))))))
end
end Go.Eng
namespace Go.Eng
def earnG (g:Nat→Int) (l:List Int) (c:Int):Nat→Int
  | 0=>0
  | n+1=>if l.getD n 0=c then earnG g l c n+g n else earnG g l c n
def sq (x:Int):Int:=x*x
def sumSq (E:Int→Int):Int:=sq (E 0)+sq (E 1)+sq (E 2)+sq (E 3)
def potI (b:Dk) (l:List Int):Int:=sumSq fun c=>earnG (fun r=>16*feeOf b (rnd b r)+1) l c l.length
def pot (b:Dk) (l:List Int):Nat:=(potI b l).toNat
end Go.Eng
set_option maxRecDepth 10000
set_option maxHeartbeats 4000000
namespace Go.Eng
open Go Go.Proofs
theorem share_err {b:Dk} {s:List Int} (h:ShareOk b s):shareErr b s=0:=by
  have h2:(!s.all (fun x=>decide (0≤x)&&decide (x≤b.cr-1)))=false:=by
    simp only [Bool.not_eq_false',List.all_eq_true]
    intro x hx;have:=h.rng x hx;simp;omega
  simp only [shareErr,h.box,h.len,h2,h.may,if_true];rfl
def feeS (b:Dk) (s:List Int):List Int:=addF (feesOf b) s s.length
def movesL (b:Dk) (l:List Int):List (Nat×Nat):=if shareErr b l=0 then mvs b (feesOf b) (feeS b l) l l.length else []
section
variable [Yo]
abbrev movesF (b:Dk) (fee f share:List Int):PV := .func 130 [] (mvCaps b fee f share)
end
end Go.Eng
