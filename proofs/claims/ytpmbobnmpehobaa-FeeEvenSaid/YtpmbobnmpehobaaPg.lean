/- Rounds are shared so that nobody earns more than somebody else by more than a single round which this one may cry, no share is better than the best one, no rounds have a greater bound, and to settle never makes the greatest fee greater, for all numbers. -/
import Derived.Test.YtpmbobnmpehobaaPf
import Derived.Test.YtpmbobnmpehobaaPd
import Derived.Test.YtpmbobnmpehobaaPe
set_option linter.unusedVariables false
set_option linter.unusedSimpArgs false
set_option linter.unusedSectionVars false
set_option maxRecDepth 10000
set_option maxHeartbeats 4000000
namespace Go.Eng
open Go Go.Proofs
section
variable [Yo]
theorem f132 (b:Dk) (r:Nat) (f0 f1 f2 f3 c:Int) (hg:Good b) (hr:r<b.rs.length) (hc:0≤c∧c<4) (h0:0≤f0∧f0≤1000*r) (h1:0≤f1∧f1≤1000*r) (h2:0≤f2∧f2≤1000*r) (h3:0≤f3∧f3≤1000*r) :
    FG 132 [.ref (deskV b (feesOf b)),fsV r f0 f1 f2 f3,I c] (fsV (r+1:Nat) (bump f0 c 0 ((feesOf b).getD r 0)) (bump f1 c 1 ((feesOf b).getD r 0)) (bump f2 c 2 ((feesOf b).getD r 0)) (bump f3 c 3 ((feesOf b).getD r 0))):=by
  have hfl:(feesOf b).length=b.rs.length:=feesOf_len
  have hf:=feesOf_bd hg r
  have hbl:=hg.len
  obtain rfl | rfl | rfl | rfl:c=0∨c=1∨c=2∨c=3:=by omega
  · refine gives_ofX Try.f132 ?_
    refine V_seq (V_region (S_go 2 (S_end (V_seq (V_region (S_go 2 (S_go 1 (S_go 7 (S_a [(2,.v (I ((feesOf b).getD r 0)))] (ap (getm (0) (by omega):(List.map I (feesOf b))[r]? = some (I ((feesOf b).getD r 0))) an) (S_go 1 (S_a [(1,.v (I (f0+(feesOf b).getD r 0)))] (ap ((wrapE rfl (by omega)):I (IntKind.i64.wrap (f0+(feesOf b).getD r 0))=I (f0+(feesOf b).getD r 0)) an) (S_go 1 (S_go 1 (S_go 1 (S_end (V_seq (V_region (S_go 2 (S_a [(1,.v (I (↑(r+1):Int)))] (ap ((wrapE (by omega) (by omega)):I (IntKind.i64.wrap ((↑r:Int)+1))=I (↑(r+1):Int)) an) (S_go 2 (S_end (V_seq (V_region (S_go 2 (S_end (V_ret (E_a [] an (PV.agg [I (↑(r+1):Int),I (f0+(feesOf b).getD r 0),I f1,I f2,I f3]) ([]) rfl rfl)))))))))))))))))))))))))))
  · refine gives_ofX Try.f132 ?_
    refine V_seq (V_region (S_go 2 (S_end (V_seq (V_region (S_go 2 (S_go 1 (S_go 7 (S_a [(2,.v (I ((feesOf b).getD r 0)))] (ap (getm (0) (by omega):(List.map I (feesOf b))[r]? = some (I ((feesOf b).getD r 0))) an) (S_go 1 (S_a [(1,.v (I (f1+(feesOf b).getD r 0)))] (ap ((wrapE rfl (by omega)):I (IntKind.i64.wrap (f1+(feesOf b).getD r 0))=I (f1+(feesOf b).getD r 0)) an) (S_go 1 (S_go 1 (S_go 1 (S_end (V_seq (V_region (S_go 2 (S_a [(1,.v (I (↑(r+1):Int)))] (ap ((wrapE (by omega) (by omega)):I (IntKind.i64.wrap ((↑r:Int)+1))=I (↑(r+1):Int)) an) (S_go 2 (S_end (V_seq (V_region (S_go 2 (S_end (V_ret (E_a [] an (PV.agg [I (↑(r+1):Int),I f0,I (f1+(feesOf b).getD r 0),I f2,I f3]) ([]) rfl rfl)))))))))))))))))))))))))))
  · refine gives_ofX Try.f132 ?_
    refine V_seq (V_region (S_go 2 (S_end (V_seq (V_region (S_go 2 (S_go 1 (S_go 7 (S_a [(2,.v (I ((feesOf b).getD r 0)))] (ap (getm (0) (by omega):(List.map I (feesOf b))[r]? = some (I ((feesOf b).getD r 0))) an) (S_go 1 (S_a [(1,.v (I (f2+(feesOf b).getD r 0)))] (ap ((wrapE rfl (by omega)):I (IntKind.i64.wrap (f2+(feesOf b).getD r 0))=I (f2+(feesOf b).getD r 0)) an) (S_go 1 (S_go 1 (S_go 1 (S_end (V_seq (V_region (S_go 2 (S_a [(1,.v (I (↑(r+1):Int)))] (ap ((wrapE (by omega) (by omega)):I (IntKind.i64.wrap ((↑r:Int)+1))=I (↑(r+1):Int)) an) (S_go 2 (S_end (V_seq (V_region (S_go 2 (S_end (V_ret (E_a [] an (PV.agg [I (↑(r+1):Int),I f0,I f1,I (f2+(feesOf b).getD r 0),I f3]) ([]) rfl rfl)))))))))))))))))))))))))))
  · refine gives_ofX Try.f132 ?_
    refine V_seq (V_region (S_go 2 (S_end (V_seq (V_region (S_go 2 (S_go 1 (S_go 7 (S_a [(2,.v (I ((feesOf b).getD r 0)))] (ap (getm (0) (by omega):(List.map I (feesOf b))[r]? = some (I ((feesOf b).getD r 0))) an) (S_go 1 (S_a [(1,.v (I (f3+(feesOf b).getD r 0)))] (ap ((wrapE rfl (by omega)):I (IntKind.i64.wrap (f3+(feesOf b).getD r 0))=I (f3+(feesOf b).getD r 0)) an) (S_go 1 (S_go 1 (S_go 1 (S_end (V_seq (V_region (S_go 2 (S_a [(1,.v (I (↑(r+1):Int)))] (ap ((wrapE (by omega) (by omega)):I (IntKind.i64.wrap ((↑r:Int)+1))=I (↑(r+1):Int)) an) (S_go 2 (S_end (V_seq (V_region (S_go 2 (S_end (V_ret (E_a [] an (PV.agg [I (↑(r+1):Int),I f0,I f1,I f2,I (f3+(feesOf b).getD r 0)]) ([]) rfl rfl)))))))))))))))))))))))))))
def capsA:List PV:=[.addr 50000000 [] 0 0 none,.addr 50000001 [] 0 0 (some 1),.addr 50000002 [] 0 0 none,.addr 50000003 [] 0 0 none]
def hidA (b:Dk) (t:PV) (M:List En):List PV:=[.box (.ref (deskV b (feesOf b))),.box (.agg [t]),.box (.omap (M.map entV)),.box (.func 131 [] capsA)]
def mostT (b:Dk):PV := .func 103 [.ref (deskV b (feesOf b))] []
omit [Yo] in
theorem minF_next {l:List Int} {F:Int→Int} {j:Nat} (h:j<l.length):minF ((l.take (j+1)).map F)=(if minF ((l.take j).map F)<0 then F (l.getD j 0) else if F (l.getD j 0)<minF ((l.take j).map F) then F (l.getD j 0) else minF ((l.take j).map F)):=by
  rw [List.take_add_one,List.getElem?_eq_getElem h,getD_lt h]
  simp only [minF,List.map_append,Option.toList,List.map_cons,List.map_nil,List.foldl_append,List.foldl_cons,List.foldl_nil]
  rfl
omit [Yo] in
theorem bump_bd {f c k x:Int} {r:Nat} (hf:0≤f∧f≤1000*r) (hx:0≤x∧x≤1000):0≤bump f c k x∧bump f c k x≤1000*(r+1:Nat):=by
  unfold bump;split<;>omega
omit [Yo] in
theorem no_key {M N:List En} {a0 a1 a2 a3 a4:Int} (h:M.findIdx? (keyB a0 a1 a2 a3 a4)=none) (h2:∀ x∈N,a0<x.r):(M++N).findIdx? (keyB a0 a1 a2 a3 a4)=none:=by
  rw [List.findIdx?_eq_none_iff] at h ⊢
  intro x hx
  rcases List.mem_append.1 hx with hx | hx
  · exact h x hx
  · have:=h2 x hx
    simp only [keyB,Bool.and_eq_false_iff,beq_eq_false_iff_ne]
    exact .inl (by omega)
theorem f131a (b:Dk) (w:Int→Int→Int→Int→Int) (hg:Good b) (hw:∀ f0 f1 f2 f3:Int,(0≤f0∧f0≤7000)→(0≤f1∧f1≤7000)→(0≤f2∧f2≤7000)→(0≤f3∧f3≤7000)→FG 103 [.ref (deskV b (feesOf b)),.agg [I f0,I f1,I f2,I f3]] (I (w f0 f1 f2 f3))):∀ (k:Nat) (r:Nat) (f0 f1 f2 f3:Int) (M:List En),r+k=b.rs.length→(0≤f0∧f0≤1000*r)→(0≤f1∧f1≤1000*r)→(0≤f2∧f2≤1000*r)→(0≤f3∧f3≤1000*r)→EnsOk b w M →
    ∃ v h',Gives Try.prog feeH 131 (fsV r f0 f1 f2 f3::capsA) (hidA b (.func 103 [.ref (deskV b (feesOf b))] []) M) v h'∧∃ N,v=I (restS b w k f0 f1 f2 f3)∧h'=hidA b (.func 103 [.ref (deskV b (feesOf b))] []) (M++N)∧EnsOk b w N∧∀ x∈N,(r:Int)≤x.r:=by
  have hbl:=hg.len
  intro k
  induction k with
  | zero =>
    intro r f0 f1 f2 f3 M hr h0 h1 h2 h3 hM
    have hw':=hw f0 f1 f2 f3 (by omega) (by omega) (by omega) (by omega)
    unfold capsA hidA
    refine gives_exX Try.f131 _ ?_
    refine V_seq (V_region (S_go 2 (S_end (V_seq (V_seq (V_region (S_go 7 (S_a [(0,.n (b.rs.length))] (ap ((by simp):some (List.map rndV b.rs).length=some b.rs.length) an) (S_go 1 (S_end (V_decT ((↑r:Int)=(↑b.rs.length:Int)) (by omega) (V_seq (V_region (S_go 4 (S_a [(7,.ret (I (w f0 f1 f2 f3)) ([]))] (ap (hw (f0) (f1) (f2) (f3) (by omega) (by omega) (by omega) (by omega)) an) (S_go 1 (S_end (V_ret (E_q [] an (I (w f0 f1 f2 f3)) ([(PV.agg [I b.cr,I b.wd,I b.st,I b.fn,PV.sl (List.map rndV b.rs),PV.sl (List.map I (feesOf b))]).ref.box,(PV.agg [PV.func 103 [(PV.agg [I b.cr,I b.wd,I b.st,I b.fn,PV.sl (List.map rndV b.rs),PV.sl (List.map I (feesOf b))]).ref] []]).box,(PV.omap (List.map entV M)).box,(PV.func 131 [] [PV.addr 50000000 [] 0 0 none,PV.addr 50000001 [] 0 0 (some 1),PV.addr 50000002 [] 0 0 none,PV.addr 50000003 [] 0 0 none]).box]) ?_)))))))))))))))))))
    exact ⟨[],rfl,by rw [List.append_nil];rfl,⟨fun x hx=>by cases hx⟩,fun x hx=>by cases hx⟩
  | succ k ih =>
    intro r f0 f1 f2 f3 M hr h0 h1 h2 h3 hM
    have hX:=feesOf_bd hg r
    have hkr:r=b.rs.length-(k+1):=by omega
    have hre:restS b w (k+1) f0 f1 f2 f3=minF ((b.rs.getD r default).may.map fun c=>restS b w k (bump f0 c 0 ((feesOf b).getD r 0)) (bump f1 c 1 ((feesOf b).getD r 0)) (bump f2 c 2 ((feesOf b).getD r 0)) (bump f3 c 3 ((feesOf b).getD r 0))):=by
      simp only [restS,feeAt,← hkr,rnd]
    cases hL:M.findIdx? (keyB r f0 f1 f2 f3) with
    | some i =>
      have hfind:findK Try.prog 177 (fsV r f0 f1 f2 f3) (M.map entV) 0=some (some i):=by rw [findK_en,hL];rfl
      obtain ⟨x,hx1,hx2,e0,e1,e2,e3,e4⟩:=ens_find hL
      have hat:atIdx (M.map entV) i=some (I (restS b w (k+1) f0 f1 f2 f3)):=by
        have:=hM.ok x hx2
        rw [e0,e1,e2,e3,e4,Int.toNat_natCast,show b.rs.length-r=k+1 by omega] at this
        rw [← this]
        simp only [atIdx,List.getElem?_map,hx1,Option.map_some]
      clear hre ih
      unfold capsA hidA
      refine gives_exX Try.f131 _ ?_
      refine V_seq (V_region (S_go 2 (S_end (V_seq (V_seq (V_region (S_go 7 (S_a [(0,.n (b.rs.length))] (ap ((by simp):some (List.map rndV b.rs).length=some b.rs.length) an) (S_go 1 (S_end (V_decF ((↑r:Int)=(↑b.rs.length:Int)) (by omega) (V_skip (V_seq (V_seq (V_region (S_go 2 (S_a [(3,.ix (some i)),(0,.v (I (restS b w (k+1) f0 f1 f2 f3)))] (ap (hfind) (ap (hat:atIdx (List.map entV M) i=some (I (restS b w (k+1) f0 f1 f2 f3))) an)) (S_go 5 (S_end (V_seq (V_region (S_go 1 (S_end (V_true (V_seq (V_region (S_go 2 (S_end (V_ret (E_q [] an (I (restS b w (k+1) f0 f1 f2 f3)) ([(PV.agg [I b.cr,I b.wd,I b.st,I b.fn,PV.sl (List.map rndV b.rs),PV.sl (List.map I (feesOf b))]).ref.box,(PV.agg [PV.func 103 [(PV.agg [I b.cr,I b.wd,I b.st,I b.fn,PV.sl (List.map rndV b.rs),PV.sl (List.map I (feesOf b))]).ref] []]).box,(PV.omap (List.map entV M)).box,(PV.func 131 [] [PV.addr 50000000 [] 0 0 none,PV.addr 50000001 [] 0 0 (some 1),PV.addr 50000002 [] 0 0 none,PV.addr 50000003 [] 0 0 none]).box]) ?_))))))))))))))))))))))))))))))
      exact ⟨[],rfl,by rw [List.append_nil];rfl,⟨fun x hx=>by cases hx⟩,fun x hx=>by cases hx⟩
    | none =>
      have hfind:findK Try.prog 177 (fsV r f0 f1 f2 f3) (M.map entV) 0=some none:=by rw [findK_en,hL];rfl
      have hmay:=good_may hg (i:=r) (by omega)
      have hml:=incr_len hmay.2.2 hmay.2.1 hg.cr
      have hcr:=hg.cr
      rw [hre]
      unfold capsA hidA
      refine gives_exX Try.f131 _ ?_
      refine V_seq (V_region (S_go 2 (S_end (V_seq (V_seq (V_region (S_go 7 (S_a [(0,.n (b.rs.length))] (ap ((by simp):some (List.map rndV b.rs).length=some b.rs.length) an) (S_go 1 (S_end (V_decF ((↑r:Int)=(↑b.rs.length:Int)) (by omega) (V_skip (V_seq (V_seq (V_region (S_go 2 (S_a [(3,.ix (none))] (ap (hfind) an) (S_go 5 (S_end (V_seq (V_region (S_go 1 (S_end (V_false (V_skip (V_seq (V_region (S_go 1 (S_end (V_seq (V_seq (V_region (S_go 7 (S_a [(2,.v (PV.agg [I (b.rs.getD r default).w,I (b.rs.getD r default).s,PV.sl (List.map I (b.rs.getD r default).may)]))] (ap (getm (default) (by omega):(List.map rndV b.rs)[r]? = some (PV.agg [I (b.rs.getD r default).w,I (b.rs.getD r default).s,PV.sl (List.map I (b.rs.getD r default).may)])) an) (S_go 2 (S_a [(0,.n ((b.rs.getD r default).may.length))] (ap ((by simp):some (List.map I (b.rs.getD r default).may).length=some (b.rs.getD r default).may.length) an) (S_go 1 (S_end (V_block 0 ?_)))))))))))))))))))))))))))))))))))))))
      clear hfind
      generalize hF:(fun c=>restS b w k (bump f0 c 0 ((feesOf b).getD r 0)) (bump f1 c 1 ((feesOf b).getD r 0)) (bump f2 c 2 ((feesOf b).getD r 0)) (bump f3 c 3 ((feesOf b).getD r 0)))=F at *
      refine V_loopS (fun (j,m,Q)=>j≤(b.rs.getD r default).may.length∧m=minF (((b.rs.getD r default).may.take j).map F)∧∃ N,Q=M++N∧EnsOk b w N∧∀ x∈N,((r+1:Nat):Int)≤x.r) (fun (j,m,Q)=>[(9,I m),(46,I (j:Nat)),(50000002,.box (.omap (Q.map entV)))]) (fun (j,_,_)=>(b.rs.getD r default).may.length-j) ((0:Nat),(-1:Int),M) ⟨Nat.zero_le _,rfl,[],(List.append_nil M).symm,⟨fun x hx=>by cases hx⟩,fun x hx=>by cases hx⟩ fun (j,m,Q) ⟨hj,hm,N,hQ,hN,hNr⟩=>?_
      subst hQ
      by_cases hjl:j<(b.rs.getD r default).may.length
      · have hc:=getD_all hmay.2.1 j hjl
        have hms:=minF_next (F:=F) hjl
        rw [← hm] at hms
        have hFc:F ((b.rs.getD r default).may.getD j 0)=restS b w k (bump f0 ((b.rs.getD r default).may.getD j 0) 0 ((feesOf b).getD r 0)) (bump f1 ((b.rs.getD r default).may.getD j 0) 1 ((feesOf b).getD r 0)) (bump f2 ((b.rs.getD r default).may.getD j 0) 2 ((feesOf b).getD r 0)) (bump f3 ((b.rs.getD r default).may.getD j 0) 3 ((feesOf b).getD r 0)):=by rw [← hF]
        obtain ⟨v,h',hcall,N2,rfl,rfl,hN2,hN2r⟩:=ih (r+1) _ _ _ _ (M++N) (by omega) (bump_bd (c:=(b.rs.getD r default).may.getD j 0) (k:=0) h0 hX) (bump_bd (c:=(b.rs.getD r default).may.getD j 0) (k:=1) h1 hX) (bump_bd (c:=(b.rs.getD r default).may.getD j 0) (k:=2) h2 hX) (bump_bd (c:=(b.rs.getD r default).may.getD j 0) (k:=3) h3 hX) ⟨fun x hx=>(List.mem_append.1 hx).elim (hM.ok x) (hN.ok x)⟩
        rw [← hFc] at hcall
        unfold capsA hidA at hcall
        have hNN:EnsOk b w (N++N2):=⟨fun x hx=>(List.mem_append.1 hx).elim (hN.ok x) (hN2.ok x)⟩
        have hNNr:∀ x∈N++N2,((r+1:Nat):Int)≤x.r:=fun x hx=>(List.mem_append.1 hx).elim (hNr x) (hN2r x)
        rw [List.append_assoc] at hcall
        clear ih hm hN hN2 hNr hN2r hM hre hF
        refine V_seq (V_region (S_go 1 (S_end (V_seq (V_decT ((↑j:Int)<(↑(b.rs.getD r default).may.length:Int)) (by omega) (V_skip (V_seq (V_block 1 (V_seq (V_region (S_a [(2,.v (I ((b.rs.getD r default).may.getD j 0)))] (ap (getm (0) (by omega):(List.map I (b.rs.getD r default).may)[j]? = some (I ((b.rs.getD r default).may.getD j 0))) an) (S_go 2 (S_end (V_seq (V_region (S_go 4 (S_a [(9,.ret (fsV (↑(r+1):Int) (bump f0 ((b.rs.getD r default).may.getD j 0) 0 ((feesOf b).getD r 0)) (bump f1 ((b.rs.getD r default).may.getD j 0) 1 ((feesOf b).getD r 0)) (bump f2 ((b.rs.getD r default).may.getD j 0) 2 ((feesOf b).getD r 0)) (bump f3 ((b.rs.getD r default).may.getD j 0) 3 ((feesOf b).getD r 0))) ([]))] (ap (f132 (b) (r) (f0) (f1) (f2) (f3) ((b.rs.getD r default).may.getD j 0) (by omega) (by first | omega | (simp<;>omega)) (by omega) (by omega) (by omega) (by omega) (by omega)) an) (S_a [(6,.ret (I (F ((b.rs.getD r default).may.getD j 0))) ([(deskV b (feesOf b)).ref.box,(PV.agg [PV.func 103 [(deskV b (feesOf b)).ref] []]).box,(PV.omap (List.map entV (M++(N++N2)))).box,(PV.func 131 [] capsA).box]))] (ap (hcall) an) (S_go 1 (S_end (V_seq (V_region (S_go 3 (S_dec 58 (m<0) (fun k1=>(S_go 4 (S_end (V_true (V_region (S_go 2 (S_end (V_region (S_a [(1,.v (I (↑(j+1):Int)))] (ap ((wrapE (by omega) (by omega)):I (IntKind.i64.wrap ((↑j:Int)+1))=I (↑(j+1):Int)) an) (S_go 1 (S_end ?_))))))))))) (fun k1=>(S_go 4 (S_end (V_dec (F ((b.rs.getD r default).may.getD j 0)<m) (fun k2=>(V_region (S_go 2 (S_end (V_region (S_a [(1,.v (I (↑(j+1):Int)))] (ap ((wrapE (by omega) (by omega)):I (IntKind.i64.wrap ((↑j:Int)+1))=I (↑(j+1):Int)) an) (S_go 1 (S_end ?_)))))))) (fun k2=>(V_skip (V_region (S_a [(1,.v (I (↑(j+1):Int)))] (ap ((wrapE (by omega) (by omega)):I (IntKind.i64.wrap ((↑j:Int)+1))=I (↑(j+1):Int)) an) (S_go 1 (S_end ?_))))))))))))))))))))))))))))))))))
        · exact ⟨(j+1,F ((b.rs.getD r default).may.getD j 0),M++(N++N2)),⟨by omega,by rw [hms,if_pos k1],_,rfl,hNN,hNNr⟩,by simp only;omega,by kernel_rfl,by kernel_rfl⟩
        · exact ⟨(j+1,F ((b.rs.getD r default).may.getD j 0),M++(N++N2)),⟨by omega,by rw [hms,if_neg k1,if_pos k2],_,rfl,hNN,hNNr⟩,by simp only;omega,by kernel_rfl,by kernel_rfl⟩
        · exact ⟨(j+1,m,M++(N++N2)),⟨by omega,by rw [hms,if_neg k1,if_neg k2],_,rfl,hNN,hNNr⟩,by simp only;omega,by kernel_rfl,by kernel_rfl⟩
      · rw [List.take_of_length_le (by omega)] at hm
        have hfind:findK Try.prog 177 (fsV r f0 f1 f2 f3) ((M++N).map entV) 0=some none:=by
          rw [findK_en,no_key hL fun x hx=>by have:=hNr x hx;omega];rfl
        refine V_seq (V_region (S_go 1 (S_end (V_seq (V_decF ((↑j:Int)<(↑(b.rs.getD r default).may.length:Int)) (by omega) (V_exit 0 (V_seq (V_region (S_go 3 (S_a [(5,.ix (none)),(0,.v (PV.omap (List.map entV (M++N++[{r:=↑r,f0:=f0,f1:=f1,f2:=f2,f3:=f3,v:=m}]))))] (ap (hfind) (ap ((by simp):PV.omap (List.map entV (M++N)++[(PV.agg [I (↑r:Int),I f0,I f1,I f2,I f3],I m)])=PV.omap (List.map entV (M++N++[{r:=↑r,f0:=f0,f1:=f1,f2:=f2,f3:=f3,v:=m}]))) an)) (S_end (V_seq (V_region (S_go 2 (S_end (V_ret (E_q [] an (I m) ([(PV.agg [I b.cr,I b.wd,I b.st,I b.fn,PV.sl (List.map rndV b.rs),PV.sl (List.map I (feesOf b))]).ref.box,(PV.agg [PV.func 103 [(PV.agg [I b.cr,I b.wd,I b.st,I b.fn,PV.sl (List.map rndV b.rs),PV.sl (List.map I (feesOf b))]).ref] []]).box,(PV.omap (List.map entV (M++N++[{r:=(↑r:Int),f0:=f0,f1:=f1,f2:=f2,f3:=f3,v:=m}]))).box,(PV.func 131 [] [PV.addr 50000000 [] 0 0 none,PV.addr 50000001 [] 0 0 (some 1),PV.addr 50000002 [] 0 0 none,PV.addr 50000003 [] 0 0 none]).box]) ?_)))))))))))))))))
        refine ⟨N++[⟨r,f0,f1,f2,f3,m⟩],by rw [hm],by rw [← List.append_assoc];rfl,⟨fun x hx=>?_⟩,fun x hx=>?_⟩
        · rcases List.mem_append.1 hx with hx | hx
          · exact hN.ok x hx
          · rw [List.mem_singleton] at hx;subst hx
            simp only [Int.toNat_natCast,show b.rs.length-r=k+1 by omega]
            rw [hre,hm]
        · rcases List.mem_append.1 hx with hx | hx
          · have:=hNr x hx;omega
          · rw [List.mem_singleton] at hx;subst hx;exact Int.le_refl _
end
end Go.Eng
set_option maxRecDepth 10000
namespace Go.Eng
open Go Go.Proofs
def nextR (b:Dk) (w:Int→Int→Int→Int→Int) (k:Nat) (f0 f1 f2 f3 c:Int):Int:=restS b w k (bump f0 c 0 (feeAt b (k+1))) (bump f1 c 1 (feeAt b (k+1))) (bump f2 c 2 (feeAt b (k+1))) (bump f3 c 3 (feeAt b (k+1)))
def firstC (b:Dk) (w:Int→Int→Int→Int→Int) (k:Nat) (f0 f1 f2 f3:Int):Int:=((rnd b (b.rs.length-(k+1))).may.find? fun c=>decide (nextR b w k f0 f1 f2 f3 c=restS b w (k+1) f0 f1 f2 f3)).getD 0
def bestP (b:Dk) (w:Int→Int→Int→Int→Int):Nat→Int→Int→Int→Int→List Int
  | 0,_,_,_,_=>[]
  | k+1,f0,f1,f2,f3=>firstC b w k f0 f1 f2 f3::bestP b w k (bump f0 (firstC b w k f0 f1 f2 f3) 0 (feeAt b (k+1))) (bump f1 (firstC b w k f0 f1 f2 f3) 1 (feeAt b (k+1))) (bump f2 (firstC b w k f0 f1 f2 f3) 2 (feeAt b (k+1))) (bump f3 (firstC b w k f0 f1 f2 f3) 3 (feeAt b (k+1)))
theorem find_first {l:List Int} {p:Int→Bool} {j:Nat} (hj:j<l.length) (h:p (l.getD j 0)=true) (hb:∀ k,k<j→p (l.getD k 0)=false):l.find? p=some (l.getD j 0):=by
  rw [List.find?_eq_some_iff_getElem]
  refine ⟨h,j,hj,(getD_lt hj).symm,fun k hk=>?_⟩
  have:=hb k hk
  rw [getD_lt (by omega)] at this
  simp [this]
theorem minF_mem {l:List Int} (h0:∀ x∈l,0≤x) (hne:l≠[]):minF l∈l∧∀ x∈l,minF l≤x:=by
  have key:∀ (l:List Int) (m:Int),(∀ x∈l,0≤x)→0≤m→(l.foldl (fun m x=>if m<0 then x else if x<m then x else m) m=m∨l.foldl (fun m x=>if m<0 then x else if x<m then x else m) m∈l)∧l.foldl (fun m x=>if m<0 then x else if x<m then x else m) m≤m∧∀ x∈l,l.foldl (fun m x=>if m<0 then x else if x<m then x else m) m≤x:=by
    intro l
    induction l with
    | nil=>intro m _ _;exact ⟨.inl rfl,Int.le_refl _,fun x hx=>by cases hx⟩
    | cons y l ih =>
      intro m h0 hm
      have hy:=h0 y (by simp)
      simp only [List.foldl_cons,if_neg (show ¬ m<0 by omega)]
      by_cases hlt:y<m
      · simp only [if_pos hlt]
        obtain ⟨g1,g2,g3⟩:=ih y (fun x hx=>h0 x (by simp [hx])) hy
        refine ⟨.inr ?_,by omega,fun x hx=>?_⟩
        · rcases g1 with g1 | g1
          · rw [g1];simp
          · simp [g1]
        · rcases List.mem_cons.1 hx with rfl | hx
          · exact g2
          · exact g3 x hx
      · simp only [if_neg hlt]
        obtain ⟨g1,g2,g3⟩:=ih m (fun x hx=>h0 x (by simp [hx])) hm
        refine ⟨g1.imp id fun g=>by simp [g],g2,fun x hx=>?_⟩
        rcases List.mem_cons.1 hx with rfl | hx
        · omega
        · exact g3 x hx
  cases l with
  | nil=>exact (hne rfl).elim
  | cons y l =>
    have hy:=h0 y (by simp)
    obtain ⟨g1,g2,g3⟩:=key l y (fun x hx=>h0 x (by simp [hx])) hy
    have e:minF (y::l)=l.foldl (fun m x=>if m<0 then x else if x<m then x else m) y:=by simp [minF]
    rw [e]
    refine ⟨?_,fun x hx=>?_⟩
    · rcases g1 with g1 | g1
      · rw [g1];simp
      · simp [g1]
    · rcases List.mem_cons.1 hx with rfl | hx
      · exact g2
      · exact g3 x hx
theorem restS_nn {b:Dk} {w:Int→Int→Int→Int→Int} (hg:Good b) (hw:∀ f0 f1 f2 f3:Int,0≤f0→0≤f1→0≤f2→0≤f3→0≤w f0 f1 f2 f3):∀ (k:Nat) (f0 f1 f2 f3:Int),k≤b.rs.length→0≤f0→0≤f1→0≤f2→0≤f3→0≤restS b w k f0 f1 f2 f3
  | 0,f0,f1,f2,f3,_,h0,h1,h2,h3=>hw f0 f1 f2 f3 h0 h1 h2 h3
  | k + 1,f0,f1,f2,f3,hk,h0,h1,h2,h3=>by
    have hX:=feesOf_bd hg (b.rs.length-(k+1))
    have hmay:=good_may hg (i:=b.rs.length-(k+1)) (by omega)
    have hb:∀ f c q:Int,0≤f→0≤bump f c q (feeAt b (k+1)):=fun f c q hf=>by unfold bump feeAt;split<;>omega
    have hall:∀ x∈(rnd b (b.rs.length-(k+1))).may.map fun c=>restS b w k (bump f0 c 0 (feeAt b (k+1))) (bump f1 c 1 (feeAt b (k+1))) (bump f2 c 2 (feeAt b (k+1))) (bump f3 c 3 (feeAt b (k+1))),0≤x:=fun x hx=>by
      obtain ⟨c,_,rfl⟩:=List.mem_map.1 hx
      exact restS_nn hg hw k _ _ _ _ (by omega) (hb _ _ _ h0) (hb _ _ _ h1) (hb _ _ _ h2) (hb _ _ _ h3)
    exact hall _ (minF_mem hall (fun h=>hmay.1 (by have h5:=congrArg List.length h;rw [List.length_map,List.length_nil] at h5;exact h5))).1
theorem some_next {b:Dk} {w:Int→Int→Int→Int→Int} (hg:Good b) (hw:∀ f0 f1 f2 f3:Int,0≤f0→0≤f1→0≤f2→0≤f3→0≤w f0 f1 f2 f3) {k:Nat} {f0 f1 f2 f3:Int} (hk:k+1≤b.rs.length) (h0:0≤f0) (h1:0≤f1) (h2:0≤f2) (h3:0≤f3) :
    (∃ j,j<(rnd b (b.rs.length-(k+1))).may.length∧nextR b w k f0 f1 f2 f3 ((rnd b (b.rs.length-(k+1))).may.getD j 0)=restS b w (k+1) f0 f1 f2 f3)∧∀ c∈(rnd b (b.rs.length-(k+1))).may,restS b w (k+1) f0 f1 f2 f3≤nextR b w k f0 f1 f2 f3 c:=by
  have hX:=feesOf_bd hg (b.rs.length-(k+1))
  have hmay:=good_may hg (i:=b.rs.length-(k+1)) (by omega)
  have hb:∀ f c q:Int,0≤f→0≤bump f c q (feeAt b (k+1)):=fun f c q hf=>by unfold bump feeAt;split<;>omega
  have hall:∀ x∈(rnd b (b.rs.length-(k+1))).may.map (nextR b w k f0 f1 f2 f3),0≤x:=fun x hx=>by
    obtain ⟨c,_,rfl⟩:=List.mem_map.1 hx
    exact restS_nn hg hw k _ _ _ _ (by omega) (hb _ _ _ h0) (hb _ _ _ h1) (hb _ _ _ h2) (hb _ _ _ h3)
  have e:restS b w (k+1) f0 f1 f2 f3=minF ((rnd b (b.rs.length-(k+1))).may.map (nextR b w k f0 f1 f2 f3)):=rfl
  obtain ⟨g1,g2⟩:=minF_mem hall (fun h=>hmay.1 (by have h5:=congrArg List.length h;rw [List.length_map,List.length_nil] at h5;exact h5))
  rw [e]
  constructor
  · obtain ⟨c,hc,hce⟩:=List.mem_map.1 g1
    obtain ⟨j,hj,rfl⟩:=List.getElem_of_mem hc
    exact ⟨j,hj,by rw [getD_lt hj];exact hce⟩
  · intro c hc
    exact g2 _ (List.mem_map.2 ⟨c,hc,rfl⟩)
end Go.Eng
set_option maxRecDepth 10000
set_option maxHeartbeats 4000000
namespace Go.Eng
open Go Go.Proofs
def caps3:List PV:=[.addr 50000000 [] 0 0 none,.addr 50000001 [] 0 0 none,.addr 50000002 [] 0 0 (some 5),.addr 50000003 [] 0 0 none]
def hid6 (b:Dk) (t:PV) (bad:Int) (r f0 f1 f2 f3:Int) (Q:List En):List PV:=[.box (.func 131 [] [.addr 50000001 [] 0 0 none,.addr 50000004 [] 0 0 (some 1),.addr 50000005 [] 0 0 none,.addr 50000000 [] 0 0 none]),.box (.ref (deskV b (feesOf b))),.box (fsV r f0 f1 f2 f3),.box (I bad),.box (.agg [t]),.box (.omap (Q.map entV))]
section
variable [Yo]
theorem f133a (b:Dk) (w:Int→Int→Int→Int→Int) (hg:Good b) (hw:∀ f0 f1 f2 f3:Int,(0≤f0∧f0≤7000)→(0≤f1∧f1≤7000)→(0≤f2∧f2≤7000)→(0≤f3∧f3≤7000)→FG 103 [.ref (deskV b (feesOf b)),.agg [I f0,I f1,I f2,I f3]] (I (w f0 f1 f2 f3))) (k r:Nat) (f0 f1 f2 f3 bad c:Int) (M:List En) (hr:r+(k+1)=b.rs.length) (h0:0≤f0∧f0≤1000*r) (h1:0≤f1∧f1≤1000*r) (h2:0≤f2∧f2≤1000*r) (h3:0≤f3∧f3≤1000*r) (hM:EnsOk b w M) (hc:0≤c∧c<4) :
    ∃ v h',Gives Try.prog feeH 133 (I c::caps3) (hid6 b (.func 103 [.ref (deskV b (feesOf b))] []) bad r f0 f1 f2 f3 M) v h'∧∃ N,v = .bool (decide (nextR b w k f0 f1 f2 f3 c=bad))∧h'=hid6 b (.func 103 [.ref (deskV b (feesOf b))] []) bad r f0 f1 f2 f3 (M++N)∧EnsOk b w N:=by
  have hX:=feesOf_bd hg r
  have hcr:=hg.cr
  have hbl:=hg.len
  have hkr:b.rs.length-(k+1)=r:=by omega
  obtain ⟨v,h',hcall,N2,rfl,rfl,hN2,_⟩:=f131a b w hg hw k (r+1) _ _ _ _ M (by omega) (bump_bd (c:=c) (k:=0) h0 hX) (bump_bd (c:=c) (k:=1) h1 hX) (bump_bd (c:=c) (k:=2) h2 hX) (bump_bd (c:=c) (k:=3) h3 hX) hM
  have hn:restS b w k (bump f0 c 0 ((feesOf b).getD r 0)) (bump f1 c 1 ((feesOf b).getD r 0)) (bump f2 c 2 ((feesOf b).getD r 0)) (bump f3 c 3 ((feesOf b).getD r 0))=nextR b w k f0 f1 f2 f3 c:=by simp only [nextR,feeAt,hkr]
  rw [hn] at hcall
  unfold capsA hidA at hcall
  clear hw hn
  unfold caps3 hid6
  refine gives_exX Try.f133 _ ?_
  refine V_seq (V_region (S_go 1 (S_end (V_seq (V_region (S_go 4 (S_a [(9,.ret (fsV (↑(r+1):Int) (bump f0 c 0 ((feesOf b).getD r 0)) (bump f1 c 1 ((feesOf b).getD r 0)) (bump f2 c 2 ((feesOf b).getD r 0)) (bump f3 c 3 ((feesOf b).getD r 0))) ([]))] (ap (f132 (b) (r) (f0) (f1) (f2) (f3) (c) (by omega) (by first | omega | (simp<;>omega)) (by omega) (by omega) (by omega) (by omega) (by omega)) an) (S_a [(6,.ret (I (nextR b w k f0 f1 f2 f3 c)) ([(deskV b (feesOf b)).ref.box,(PV.agg [PV.func 103 [(deskV b (feesOf b)).ref] []]).box,(PV.omap (List.map entV (M++N2))).box,(PV.func 131 [] capsA).box]))] (ap (hcall) an) (S_go 3 (S_end (V_ret (E_q [] an (PV.bool (nextR b w k f0 f1 f2 f3 c==bad)) ([(PV.func 131 [] [PV.addr 50000001 [] 0 0 none,PV.addr 50000004 [] 0 0 (some 1),PV.addr 50000005 [] 0 0 none,PV.addr 50000000 [] 0 0 none]).box,(PV.agg [I b.cr,I b.wd,I b.st,I b.fn,PV.sl (List.map rndV b.rs),PV.sl (List.map I (feesOf b))]).ref.box,(PV.agg [I (↑r:Int),I f0,I f1,I f2,I f3]).box,(I bad).box,(PV.agg [PV.func 103 [(PV.agg [I b.cr,I b.wd,I b.st,I b.fn,PV.sl (List.map rndV b.rs),PV.sl (List.map I (feesOf b))]).ref] []]).box,(PV.omap (List.map entV (M++N2))).box]) ?_))))))))))))
  exact ⟨N2,rfl,rfl,hN2⟩
theorem f118a (b:Dk) (w:Int→Int→Int→Int→Int) (hg:Good b) (hw:∀ f0 f1 f2 f3:Int,(0≤f0∧f0≤7000)→(0≤f1∧f1≤7000)→(0≤f2∧f2≤7000)→(0≤f3∧f3≤7000)→FG 103 [.ref (deskV b (feesOf b)),.agg [I f0,I f1,I f2,I f3]] (I (w f0 f1 f2 f3))) (hwn:∀ f0 f1 f2 f3:Int,0≤f0→0≤f1→0≤f2→0≤f3→0≤w f0 f1 f2 f3) (k r:Nat) (f0 f1 f2 f3:Int) (M:List En) (hr:r+(k+1)=b.rs.length) (h0:0≤f0∧f0≤1000*r) (h1:0≤f1∧f1≤1000*r) (h2:0≤f2∧f2≤1000*r) (h3:0≤f3∧f3≤1000*r) (hM:EnsOk b w M) :
    ∃ v h',Gives Try.prog feeH 118 [ints (b.rs.getD r default).may,.func 133 [] caps3] (hid6 b (.func 103 [.ref (deskV b (feesOf b))] []) (restS b w (k+1) f0 f1 f2 f3) r f0 f1 f2 f3 M) v h'∧∃ N,∃ j:Nat,v=I (j:Nat)∧h'=hid6 b (.func 103 [.ref (deskV b (feesOf b))] []) (restS b w (k+1) f0 f1 f2 f3) r f0 f1 f2 f3 (M++N)∧EnsOk b w N∧j<(b.rs.getD r default).may.length∧(b.rs.getD r default).may.getD j 0=firstC b w k f0 f1 f2 f3:=by
  have hkr:b.rs.length-(k+1)=r:=by omega
  have hmay:=good_may hg (i:=r) (by omega)
  have hml:=incr_len hmay.2.2 hmay.2.1 hg.cr
  have hcr:=hg.cr
  have hsome:=(some_next hg hwn (k:=k) (f0:=f0) (f1:=f1) (f2:=f2) (f3:=f3) (by omega) h0.1 h1.1 h2.1 h3.1).1
  rw [hkr] at hsome
  have hfc:∀ j,j<(b.rs.getD r default).may.length→nextR b w k f0 f1 f2 f3 ((b.rs.getD r default).may.getD j 0)=restS b w (k+1) f0 f1 f2 f3→(∀ i,i<j→¬ nextR b w k f0 f1 f2 f3 ((b.rs.getD r default).may.getD i 0)=restS b w (k+1) f0 f1 f2 f3)→(b.rs.getD r default).may.getD j 0=firstC b w k f0 f1 f2 f3:=fun j hj e hb=>by
    have:=find_first (p:=fun c=>decide (nextR b w k f0 f1 f2 f3 c=restS b w (k+1) f0 f1 f2 f3)) hj (decide_eq_true e) fun i hi=>decide_eq_false (hb i hi)
    unfold firstC
    rw [hkr]
    show _=(((b.rs.getD r default).may.find? _).getD 0)
    rw [this];rfl
  generalize hbd:restS b w (k+1) f0 f1 f2 f3=bad at *
  unfold hid6 caps3
  refine gives_exX Try.f118 _ ?_
  refine V_seq (V_region (S_go 1 (S_end (V_seq (V_seq (V_region (S_go 1 (S_a [(0,.n ((b.rs.getD r default).may.length))] (ap ((by simp):some (List.map I (b.rs.getD r default).may).length=some (b.rs.getD r default).may.length) an) (S_go 1 (S_end (V_block 0 ?_)))))))))))
  refine V_loopS (fun (j,Q)=>j≤(b.rs.getD r default).may.length∧(∃ N,Q=M++N∧EnsOk b w N)∧∀ i,i<j→¬ nextR b w k f0 f1 f2 f3 ((b.rs.getD r default).may.getD i 0)=bad) (fun (j,Q)=>[(8,I (j:Nat)),(50000005,.box (.omap (Q.map entV)))]) (fun (j,_)=>(b.rs.getD r default).may.length-j) ((0:Nat),M) ⟨Nat.zero_le _,⟨[],(List.append_nil M).symm,⟨fun x hx=>by cases hx⟩⟩,fun i hi=>absurd hi (Nat.not_lt_zero _)⟩ fun (j,Q) ⟨hj,⟨N,hQ,hN⟩,hno⟩=>?_
  subst hQ
  by_cases hjl:j<(b.rs.getD r default).may.length
  · have hc:=getD_all hmay.2.1 j hjl
    obtain ⟨v,h',hcall,N2,rfl,rfl,hN2⟩:=f133a b w hg hw k r f0 f1 f2 f3 bad ((b.rs.getD r default).may.getD j 0) (M++N) hr h0 h1 h2 h3 ⟨fun x hx=>(List.mem_append.1 hx).elim (hM.ok x) (hN.ok x)⟩ (by omega)
    have hNN:EnsOk b w (N++N2):=⟨fun x hx=>(List.mem_append.1 hx).elim (hN.ok x) (hN2.ok x)⟩
    rw [List.append_assoc] at hcall
    unfold caps3 hid6 at hcall
    clear hw hM hN hN2 hsome
    by_cases he:nextR b w k f0 f1 f2 f3 ((b.rs.getD r default).may.getD j 0)=bad
    · rw [decide_eq_true he] at hcall
      refine V_seq (V_region (S_go 1 (S_end (V_seq (V_decT ((↑j:Int)<(↑(b.rs.getD r default).may.length:Int)) (by omega) (V_skip (V_seq (V_block 1 (V_seq (V_region (S_go 2 (S_end (V_seq (V_region (S_go 3 (S_a [(2,.v (I ((b.rs.getD r default).may.getD j 0)))] (ap (getm (0) (by omega):(List.map I (b.rs.getD r default).may)[j]? = some (I ((b.rs.getD r default).may.getD j 0))) an) (S_go 1 (S_a [(6,.ret (PV.bool true) ([(PV.func 131 [] [PV.addr 50000001 [] 0 0 none,PV.addr 50000004 [] 0 0 (some 1),PV.addr 50000005 [] 0 0 none,PV.addr 50000000 [] 0 0 none]).box,(deskV b (feesOf b)).ref.box,(fsV (↑r:Int) f0 f1 f2 f3).box,(I bad).box,(PV.agg [PV.func 103 [(deskV b (feesOf b)).ref] []]).box,(PV.omap (List.map entV (M++(N++N2)))).box]))] (ap (hcall) an) (S_end (V_true (V_seq (V_region (S_go 2 (S_end (V_ret (E_q [] an (I (↑j:Int)) ([(PV.func 131 [] [PV.addr 50000001 [] 0 0 none,PV.addr 50000004 [] 0 0 (some 1),PV.addr 50000005 [] 0 0 none,PV.addr 50000000 [] 0 0 none]).box,(PV.agg [I b.cr,I b.wd,I b.st,I b.fn,PV.sl (List.map rndV b.rs),PV.sl (List.map I (feesOf b))]).ref.box,(PV.agg [I (↑r:Int),I f0,I f1,I f2,I f3]).box,(I bad).box,(PV.agg [PV.func 103 [(PV.agg [I b.cr,I b.wd,I b.st,I b.fn,PV.sl (List.map rndV b.rs),PV.sl (List.map I (feesOf b))]).ref] []]).box,(PV.omap (List.map entV (M++(N++N2)))).box]) ?_))))))))))))))))))))))))))
      exact ⟨N++N2,j,rfl,rfl,hNN,hjl,hfc j hjl he hno⟩
    · rw [decide_eq_false he] at hcall
      clear hfc
      refine V_seq (V_region (S_go 1 (S_end (V_seq (V_decT ((↑j:Int)<(↑(b.rs.getD r default).may.length:Int)) (by omega) (V_skip (V_seq (V_block 1 (V_seq (V_region (S_go 2 (S_end (V_seq (V_region (S_go 3 (S_a [(2,.v (I ((b.rs.getD r default).may.getD j 0)))] (ap (getm (0) (by omega):(List.map I (b.rs.getD r default).may)[j]? = some (I ((b.rs.getD r default).may.getD j 0))) an) (S_go 1 (S_a [(6,.ret (PV.bool false) ([(PV.func 131 [] [PV.addr 50000001 [] 0 0 none,PV.addr 50000004 [] 0 0 (some 1),PV.addr 50000005 [] 0 0 none,PV.addr 50000000 [] 0 0 none]).box,(deskV b (feesOf b)).ref.box,(fsV (↑r:Int) f0 f1 f2 f3).box,(I bad).box,(PV.agg [PV.func 103 [(deskV b (feesOf b)).ref] []]).box,(PV.omap (List.map entV (M++(N++N2)))).box]))] (ap (hcall) an) (S_end (V_false (V_skip (V_region (S_a [(1,.v (I (↑(j+1):Int)))] (ap ((wrapE (by omega) (by omega)):I (IntKind.i64.wrap ((↑j:Int)+1))=I (↑(j+1):Int)) an) (S_go 1 (S_end ?_)))))))))))))))))))))))))
      refine ⟨(j+1,M++(N++N2)),⟨by omega,⟨_,rfl,hNN⟩,fun i hi=>?_⟩,by simp only;omega,by kernel_rfl,by kernel_rfl⟩
      rcases Nat.lt_succ_iff_lt_or_eq.1 hi with hi | rfl
      · exact hno i hi
      · exact he
  · obtain ⟨i,hi,hie⟩:=hsome
    have hi':i<(b.rs.getD r default).may.length:=hi
    exact absurd hie (hno i (by omega))
end
end Go.Eng
set_option maxRecDepth 10000
set_option maxHeartbeats 4000000
namespace Go.Eng
open Go Go.Proofs
section
variable [Yo]
theorem f102a (b:Dk) (w:Int→Int→Int→Int→Int) (hg:Good b) (hw:∀ f0 f1 f2 f3:Int,(0≤f0∧f0≤7000)→(0≤f1∧f1≤7000)→(0≤f2∧f2≤7000)→(0≤f3∧f3≤7000)→FG 103 [.ref (deskV b (feesOf b)),.agg [I f0,I f1,I f2,I f3]] (I (w f0 f1 f2 f3))) (hwn:∀ f0 f1 f2 f3:Int,0≤f0→0≤f1→0≤f2→0≤f3→0≤w f0 f1 f2 f3):FG 102 [.ref (deskV b (feesOf b)),.agg [.func 103 [.ref (deskV b (feesOf b))] []]] (.tup [lstO (bestP b w b.rs.length 0 0 0 0),I (restS b w b.rs.length 0 0 0 0)]):=by
  have hbl:=hg.len
  have hcr:=hg.cr
  obtain ⟨v,h',hcall,N,rfl,rfl,hN,hNr⟩:=f131a b w hg hw b.rs.length 0 0 0 0 0 [] (by omega) (by omega) (by omega) (by omega) (by omega) ⟨fun x hx=>by cases hx⟩
  unfold hidA capsA at hcall
  rw [List.nil_append] at hcall
  refine gives_ofX Try.f102 ?_
  refine V_seq (V_region (S_go 4 (S_end (V_seq (V_region (S_go 3 (S_end (V_seq (V_region (S_go 1 (S_end (V_seq (V_region (S_go 2 (S_end (V_seq (V_region (S_go 1 (S_end (V_seq (V_region (S_go 1 (S_end (V_seq (V_region (S_go 2 (S_a [(6,.ret (I (restS b w b.rs.length 0 0 0 0)) ([(deskV b (feesOf b)).ref.box,(PV.agg [PV.func 103 [(deskV b (feesOf b)).ref] []]).box,(PV.omap (List.map entV N)).box,(PV.func 131 [] [PV.addr 50000000 [] 0 0 none,PV.addr 50000001 [] 0 0 (some 1),PV.addr 50000002 [] 0 0 none,PV.addr 50000003 [] 0 0 none]).box]))] (ap (hcall) an) (S_go 2 (S_end (V_seq (V_block 0 ?_)))))))))))))))))))))))))))))))
  generalize hbad:restS b w b.rs.length 0 0 0 0=bad at *
  refine V_loopS (fun (i,f0,f1,f2,f3,o,Q)=>i≤b.rs.length∧(0≤f0∧f0≤1000*i)∧(0≤f1∧f1≤1000*i)∧(0≤f2∧f2≤1000*i)∧(0≤f3∧f3≤1000*i)∧EnsOk b w Q∧o.length=i∧restS b w (b.rs.length-i) f0 f1 f2 f3=bad∧o++bestP b w (b.rs.length-i) f0 f1 f2 f3=bestP b w b.rs.length 0 0 0 0) (fun (i,f0,f1,f2,f3,o,Q)=>[(6,.box (.omap (Q.map entV))),(8,.own 1 (o.map I)),(9,.box (fsV (i:Nat) f0 f1 f2 f3))]) (fun (i,_)=>b.rs.length-i) ((0:Nat),(0:Int),(0:Int),(0:Int),(0:Int),([]:List Int),N) ⟨Nat.zero_le _,by omega,by omega,by omega,by omega,hN,rfl,hbad,rfl⟩ fun (i,f0,f1,f2,f3,o,Q) ⟨hi,h0,h1,h2,h3,hQ,ho,hre,hpp⟩=>?_
  by_cases hin:i<b.rs.length
  · have hmay:=good_may hg (i:=i) (by omega)
    have hml:=incr_len hmay.2.2 hmay.2.1 hg.cr
    have hX:=feesOf_bd hg i
    obtain ⟨k,hk⟩:∃ k,b.rs.length-i=k+1:=⟨b.rs.length-i-1,by omega⟩
    obtain ⟨v,h',hcall2,N2,j,rfl,rfl,hN2,hj,hjc⟩:=f118a b w hg hw hwn k i f0 f1 f2 f3 Q (by omega) h0 h1 h2 h3 hQ
    rw [hk] at hre hpp
    have hc:=getD_all hmay.2.1 j hj
    have hfa:feeAt b (k+1)=(feesOf b).getD i 0:=by unfold feeAt;rw [show b.rs.length-(k+1)=i by omega]
    have hks:restS b w k (bump f0 ((b.rs.getD i default).may.getD j 0) 0 ((feesOf b).getD i 0)) (bump f1 ((b.rs.getD i default).may.getD j 0) 1 ((feesOf b).getD i 0)) (bump f2 ((b.rs.getD i default).may.getD j 0) 2 ((feesOf b).getD i 0)) (bump f3 ((b.rs.getD i default).may.getD j 0) 3 ((feesOf b).getD i 0))=bad:=by
      have hsome:=(some_next hg hwn (k:=k) (f0:=f0) (f1:=f1) (f2:=f2) (f3:=f3) (by omega) h0.1 h1.1 h2.1 h3.1).1
      rw [show b.rs.length-(k+1)=i by omega] at hsome
      obtain ⟨q,hq,hqe⟩:=hsome
      have hfd:(b.rs.getD i default).may.find? (fun c=>decide (nextR b w k f0 f1 f2 f3 c=restS b w (k+1) f0 f1 f2 f3))≠none:=fun hn=>by
        have:=List.find?_eq_none.1 hn ((b.rs.getD i default).may.getD q 0) (by rw [getD_lt (show q<(b.rs.getD i default).may.length from hq)];exact List.getElem_mem _)
        exact this (decide_eq_true hqe)
      obtain ⟨c,hce⟩:=Option.ne_none_iff_exists'.1 hfd
      have h5:=List.find?_some hce
      have h6:firstC b w k f0 f1 f2 f3=c:=by unfold firstC;rw [show b.rs.length-(k+1)=i by omega];exact congrArg (fun o:Option Int=>o.getD 0) hce
      rw [hjc,h6,← hre,← of_decide_eq_true h5]
      simp only [nextR,hfa]
    have hp2:(o++[(b.rs.getD i default).may.getD j 0])++bestP b w k (bump f0 ((b.rs.getD i default).may.getD j 0) 0 ((feesOf b).getD i 0)) (bump f1 ((b.rs.getD i default).may.getD j 0) 1 ((feesOf b).getD i 0)) (bump f2 ((b.rs.getD i default).may.getD j 0) 2 ((feesOf b).getD i 0)) (bump f3 ((b.rs.getD i default).may.getD j 0) 3 ((feesOf b).getD i 0))=bestP b w b.rs.length 0 0 0 0:=by
      rw [← hpp,List.append_assoc,hjc];simp only [bestP,hfa];rfl
    have hkk:b.rs.length-(i+1)=k:=by omega
    rw [hre] at hcall2
    unfold hid6 caps3 at hcall2
    have hQN:EnsOk b w (Q++N2):=⟨fun x hx=>(List.mem_append.1 hx).elim (hQ.ok x) (hN2.ok x)⟩
    have b0:=bump_bd (c:=(b.rs.getD i default).may.getD j 0) (k:=0) h0 hX
    have b1:=bump_bd (c:=(b.rs.getD i default).may.getD j 0) (k:=1) h1 hX
    have b2:=bump_bd (c:=(b.rs.getD i default).may.getD j 0) (k:=2) h2 hX
    have b3:=bump_bd (c:=(b.rs.getD i default).may.getD j 0) (k:=3) h3 hX
    clear hw hwn hcall hjc hpp hbad hN hNr
    refine V_seq (V_seq (V_region (S_go 7 (S_a [(0,.n (b.rs.length))] (ap ((by simp):some (List.map rndV b.rs).length=some b.rs.length) an) (S_go 1 (S_end (V_decT ((↑i:Int)<(↑b.rs.length:Int)) (by omega) (V_skip (V_block 1 (V_seq (V_region (S_go 7 (S_a [(2,.v (PV.agg [I (b.rs.getD i default).w,I (b.rs.getD i default).s,PV.sl (List.map I (b.rs.getD i default).may)]))] (ap (getm (default) (by omega):(List.map rndV b.rs)[i]? = some (PV.agg [I (b.rs.getD i default).w,I (b.rs.getD i default).s,PV.sl (List.map I (b.rs.getD i default).may)])) an) (S_go 3 (S_end (V_seq (V_region (S_go 3 (S_a [(6,.ret (I (↑j:Int)) ([(PV.func 131 [] [PV.addr 50000001 [] 0 0 none,PV.addr 50000004 [] 0 0 (some 1),PV.addr 50000005 [] 0 0 none,PV.addr 50000000 [] 0 0 none]).box,(deskV b (feesOf b)).ref.box,(fsV (↑i:Int) f0 f1 f2 f3).box,(I bad).box,(PV.agg [PV.func 103 [(deskV b (feesOf b)).ref] []]).box,(PV.omap (List.map entV (Q++N2))).box]))] (ap (hcall2) an) (S_a [(2,.v (I ((b.rs.getD i default).may.getD j 0)))] (ap (getm (0) (by omega):(List.map I (b.rs.getD i default).may)[j]? = some (I ((b.rs.getD i default).may.getD j 0))) an) (S_go 2 (S_end (V_region (S_go 3 (S_a [(4,.ob),(0,.ob),(0,.ob),(2,.v (PV.own 1 (List.map I (o++[(b.rs.getD i default).may.getD j 0]))))] (ap ((by exact ble_of (by simp only [List.length_map,List.length_set,List.length_append,List.length_cons,List.length_nil,limit]<;>omega)):(0+(List.map I o).length).ble (List.map I o).length=true) (ap ((by exact ble_of (by simp only [List.length_map,List.length_set,List.length_append,List.length_cons,List.length_nil,limit]<;>omega)):((List.map I o).length + [I ((b.rs.getD i default).may.getD j 0)].length).ble limit=true) (ap ((by exact beq_of (by simp<;>omega)):(0+(List.map I o).length).beq (List.map I o).length=true) (ap ((by simp):PV.own 1 (List.map I o++[I ((b.rs.getD i default).may.getD j 0)])=PV.own 1 (List.map I (o++[(b.rs.getD i default).may.getD j 0]))) an)))) (S_go 3 (S_a [(9,.ret (fsV (↑(i+1):Int) (bump f0 ((b.rs.getD i default).may.getD j 0) 0 ((feesOf b).getD i 0)) (bump f1 ((b.rs.getD i default).may.getD j 0) 1 ((feesOf b).getD i 0)) (bump f2 ((b.rs.getD i default).may.getD j 0) 2 ((feesOf b).getD i 0)) (bump f3 ((b.rs.getD i default).may.getD j 0) 3 ((feesOf b).getD i 0))) ([]))] (ap (f132 (b) (i) (f0) (f1) (f2) (f3) ((b.rs.getD i default).may.getD j 0) (by omega) (by omega) (by omega) (by omega) (by omega) (by omega) (by omega)) an) (S_go 2 (S_end ?_)))))))))))))))))))))))))))))
    exact ⟨(i+1,bump f0 ((b.rs.getD i default).may.getD j 0) 0 ((feesOf b).getD i 0),bump f1 ((b.rs.getD i default).may.getD j 0) 1 ((feesOf b).getD i 0),bump f2 ((b.rs.getD i default).may.getD j 0) 2 ((feesOf b).getD i 0),bump f3 ((b.rs.getD i default).may.getD j 0) 3 ((feesOf b).getD i 0),o++[(b.rs.getD i default).may.getD j 0],Q++N2),⟨by omega,b0,b1,b2,b3,hQN,by simp [ho],by rw [hkk];exact hks,by rw [hkk];exact hp2⟩,by simp only;omega,by kernel_rfl,by kernel_rfl⟩
  · have e:b.rs.length-i=0:=by omega
    rw [e] at hpp
    have hoe:o=bestP b w b.rs.length 0 0 0 0:=by rw [← hpp];exact (List.append_nil o).symm
    clear hw hwn hcall
    refine V_seq (V_seq (V_region (S_go 7 (S_a [(0,.n (b.rs.length))] (ap ((by simp):some (List.map rndV b.rs).length=some b.rs.length) an) (S_go 1 (S_end (V_decF ((↑i:Int)<(↑b.rs.length:Int)) (by omega) (V_exit 0 (V_seq (V_region (S_go 2 (S_a [(2,.yes)] (ap ((by exact beq_of (by simp<;>omega)):(Nat.beq 0 0&&(List.map I o).length.beq (List.map I o).length)=true) an) (S_go 1 (S_end (V_ret (E_a [(1,.yes),(1,.v (PV.own 1 (List.map I o)))] (ap ((by exact ble_of (by simp only [List.length_map,List.length_set,List.length_append,List.length_cons,List.length_nil,limit]<;>omega)):(0+(List.map I o).length).ble (List.map I o).length=true) (ap ((own_ext take_allL):PV.own 1 (List.take (List.map I o).length (List.drop 0 (List.map I o)))=PV.own 1 (List.map I o)) an)) (PV.tup [PV.own 1 (List.map I o),I bad]) ([]) (by simp [*]) rfl))))))))))))))))
def wMost (b:Dk) (f0 f1 f2 f3:Int):Int:=maxL ([f0,f1,f2,f3].take b.cr.toNat)
def wSpread (b:Dk) (f0 f1 f2 f3:Int):Int:=maxL ([f0,f1,f2,f3].take b.cr.toNat)-minL ([f0,f1,f2,f3].take b.cr.toNat)
omit [Yo] in
theorem foldmax_ge:∀ (l:List Int) (m:Int),m≤l.foldl (fun m x=>if x>m then x else m) m
  | [],m=>Int.le_refl _
  | x::l,m=>by
    simp only [List.foldl_cons]
    by_cases h:x>m
    · rw [if_pos h];have:=foldmax_ge l x;omega
    · rw [if_neg h];exact foldmax_ge l m
omit [Yo] in
theorem head_take {b:Dk} (hg:Good b) (f0 f1 f2 f3:Int):([f0,f1,f2,f3].take b.cr.toNat).getD 0 0=f0:=by
  have:=hg.cr
  obtain ⟨n,hn⟩:∃ n,b.cr.toNat=n+1:=⟨b.cr.toNat-1,by omega⟩
  rw [hn];rfl
omit [Yo] in
theorem most_nn {b:Dk} (hg:Good b) (f0 f1 f2 f3:Int) (h0:0≤f0) (_:0≤f1) (_:0≤f2) (_:0≤f3):0≤wMost b f0 f1 f2 f3:=by
  have h1:=foldmax_ge ([f0,f1,f2,f3].take b.cr.toNat).tail (([f0,f1,f2,f3].take b.cr.toNat).getD 0 0)
  have h2:=head_take hg f0 f1 f2 f3
  unfold wMost maxL
  rw [h2] at h1 ⊢;omega
def bestL (b:Dk) (w:Int→Int→Int→Int→Int):List Int:=if boxErr b=0 then bestP b w b.rs.length 0 0 0 0 else []
def bestV (b:Dk) (w:Int→Int→Int→Int→Int):Int:=if boxErr b=0 then restS b w b.rs.length 0 0 0 0 else 0
theorem f41 (b:Dk) (hb:Small b):FG 41 [boxV b] (.tup [lstO (bestL b (wMost b)),I (bestV b (wMost b)),I (boxErr b)]):=by
  by_cases h:boxErr b=0
  · have hg:=box_good h
    have h102:=f102a b (wMost b) hg (fun f0 f1 f2 f3 h0 h1 h2 h3=>f103 b (feesOf b) [f0,f1,f2,f3] rfl hg.cr) (most_nn hg)
    have e1:bestL b (wMost b)=bestP b (wMost b) b.rs.length 0 0 0 0:=by simp only [bestL,h,if_true]
    have e2:bestV b (wMost b)=restS b (wMost b) b.rs.length 0 0 0 0:=by simp only [bestV,h,if_true]
    rw [← e1,← e2] at h102
    rw [h]
    refine gives_ofX Try.f41 ?_
    refine V_seq (V_region (S_go 4 (S_end (V_seq (V_region (S_go 1 (S_a [(6,.ret (PV.tup [(deskV b (feesOf b)).ref,I 0]) ([]))] (ap (f101_1 (b) (by omega) (by omega)) an) (S_go 5 (S_end (V_seq (V_seq (V_region (S_go 2 (S_end (V_false (V_skip (V_seq (V_region (S_go 4 (S_a [(7,.ret (PV.tup [lstO (bestL b (wMost b)),I (bestV b (wMost b))]) ([]))] (ap (h102) an) (S_go 5 (S_end (V_seq (V_region (S_go 2 (S_a [(2,.yes)] (ap ((by exact beq_of (by simp<;>omega)):(Nat.beq 0 0&&(List.map I (bestL b (wMost b))).length.beq (List.map I (bestL b (wMost b))).length)=true) an) (S_go 2 (S_end (V_ret (E_a [(1,.yes),(1,.v (PV.own 1 (List.map I (bestL b (wMost b)))))] (ap ((by exact ble_of (by simp only [List.length_map,List.length_set,List.length_append,List.length_cons,List.length_nil,limit]<;>omega)):(0+(List.map I (bestL b (wMost b))).length).ble (List.map I (bestL b (wMost b))).length=true) (ap ((own_ext take_allL):PV.own 1 (List.take (List.map I (bestL b (wMost b))).length (List.drop 0 (List.map I (bestL b (wMost b)))))=PV.own 1 (List.map I (bestL b (wMost b)))) an)) (PV.tup [PV.own 1 (List.map I (bestL b (wMost b))),I (bestV b (wMost b)),I 0]) ([]) rfl rfl))))))))))))))))))))))))))))))
  · have e1:bestL b (wMost b)=[]:=by simp only [bestL,h,if_false]
    have e2:bestV b (wMost b)=0:=by simp only [bestV,h,if_false]
    rw [e1,e2]
    refine gives_ofX Try.f41 ?_
    refine V_seq (V_region (S_go 4 (S_end (V_seq (V_region (S_go 1 (S_a [(6,.ret (PV.tup [PV.nilp,I (boxErr b)]) ([]))] (ap (f101_2 (b) (by omega) (by omega)) an) (S_go 5 (S_end (V_seq (V_seq (V_region (S_go 2 (S_end (V_ndecT (boxErr b=0) (by omega) (V_seq (V_region (S_go 4 (S_end (V_ret (E_a [] an (PV.tup [PV.own 1 [],I 0,I (boxErr b)]) ([]) rfl rfl)))))))))))))))))))))
end
end Go.Eng
set_option maxRecDepth 10000
namespace Go.Eng
open Go Go.Proofs
def shN (b:Dk):Nat→List (List Int)
  | 0=>[[]]
  | k+1=>(rnd b (b.rs.length-(k+1))).may.flatMap fun c=>(shN b k).map (c::·)
def valN (b:Dk) (w:Int→Int→Int→Int→Int):Nat→Int→Int→Int→Int→List Int→Int
  | k+1,f0,f1,f2,f3,c::l=>valN b w k (bump f0 c 0 (feeAt b (k+1))) (bump f1 c 1 (feeAt b (k+1))) (bump f2 c 2 (feeAt b (k+1))) (bump f3 c 3 (feeAt b (k+1))) l
  | _,f0,f1,f2,f3,_=>w f0 f1 f2 f3
def FirstMin (V:List Int→Int) (L:List (List Int)) (x:List Int):Prop:=∃ A B,L=A++x::B∧(∀ y∈A,V x<V y)∧∀ y∈B,V x≤V y
theorem best_first {b:Dk} {w:Int→Int→Int→Int→Int} (hg:Good b) (hw:∀ f0 f1 f2 f3:Int,0≤f0→0≤f1→0≤f2→0≤f3→0≤w f0 f1 f2 f3):∀ (k:Nat) (f0 f1 f2 f3:Int),k≤b.rs.length→0≤f0→0≤f1→0≤f2→0≤f3 →
    FirstMin (valN b w k f0 f1 f2 f3) (shN b k) (bestP b w k f0 f1 f2 f3)∧valN b w k f0 f1 f2 f3 (bestP b w k f0 f1 f2 f3)=restS b w k f0 f1 f2 f3∧∀ l∈shN b k,restS b w k f0 f1 f2 f3≤valN b w k f0 f1 f2 f3 l
  | 0,f0,f1,f2,f3,_,_,_,_,_=>by
    refine ⟨⟨[],[],rfl,fun y hy=>(by cases hy),fun y hy=>(by cases hy)⟩,rfl,fun l hl=>?_⟩
    simp only [shN,List.mem_singleton] at hl
    subst hl
    exact Int.le_refl _
  | k + 1,f0,f1,f2,f3,hk,h0,h1,h2,h3=>by
    have hX:=feesOf_bd hg (b.rs.length-(k+1))
    have hb:∀ f c q:Int,0≤f→0≤bump f c q (feeAt b (k+1)):=fun f c q hf=>by unfold bump feeAt;split<;>omega
    have ih:=fun c:Int=>best_first hg hw k (bump f0 c 0 (feeAt b (k+1))) (bump f1 c 1 (feeAt b (k+1))) (bump f2 c 2 (feeAt b (k+1))) (bump f3 c 3 (feeAt b (k+1))) (by omega) (hb _ _ _ h0) (hb _ _ _ h1) (hb _ _ _ h2) (hb _ _ _ h3)
    obtain ⟨⟨j,hj,hje⟩,hle⟩:=some_next hg hw (k:=k) hk h0 h1 h2 h3
    have hfd:(rnd b (b.rs.length-(k+1))).may.find? (fun c=>decide (nextR b w k f0 f1 f2 f3 c=restS b w (k+1) f0 f1 f2 f3))≠none:=fun hn=>by
      have:=List.find?_eq_none.1 hn ((rnd b (b.rs.length-(k+1))).may.getD j 0) (by rw [getD_lt hj];exact List.getElem_mem _)
      exact this (decide_eq_true hje)
    obtain ⟨c,hc⟩:=Option.ne_none_iff_exists'.1 hfd
    have hfc:firstC b w k f0 f1 f2 f3=c:=congrArg (fun o:Option Int=>o.getD 0) hc
    obtain ⟨hp,C1,C2,hC,hC1⟩:=List.find?_eq_some_iff_append.1 hc
    have hp:=of_decide_eq_true hp
    have hall:∀ l∈shN b (k+1),restS b w (k+1) f0 f1 f2 f3≤valN b w (k+1) f0 f1 f2 f3 l:=fun l hl=>by
      simp only [shN,List.mem_flatMap,List.mem_map] at hl
      obtain ⟨c',hc',l',hl',rfl⟩:=hl
      exact Int.le_trans (hle c' hc') ((ih c').2.2 l' hl')
    have hval:valN b w (k+1) f0 f1 f2 f3 (bestP b w (k+1) f0 f1 f2 f3)=restS b w (k+1) f0 f1 f2 f3:=by
      rw [← hp,bestP,hfc];exact (ih c).2.1
    refine ⟨?_,hval,hall⟩
    obtain ⟨A,B,e,g1,g2⟩:=(ih c).1
    have hbp:bestP b w (k+1) f0 f1 f2 f3=c::bestP b w k (bump f0 c 0 (feeAt b (k+1))) (bump f1 c 1 (feeAt b (k+1))) (bump f2 c 2 (feeAt b (k+1))) (bump f3 c 3 (feeAt b (k+1))):=by rw [bestP,hfc]
    have hsh:shN b (k+1)=(C1.flatMap fun c=>(shN b k).map (c::·))++(A.map (c::·))++bestP b w (k+1) f0 f1 f2 f3::(B.map (c::·)++C2.flatMap fun c=>(shN b k).map (c::·)):=by
      rw [hbp]
      simp only [shN]
      rw [hC,List.flatMap_append,List.flatMap_cons,e]
      simp only [List.map_append,List.map_cons,List.append_assoc,List.cons_append,List.nil_append]
    refine ⟨_,_,hsh,fun y hy=>?_,fun y hy=>?_⟩
    · rw [hval]
      rcases List.mem_append.1 hy with hy | hy
      · obtain ⟨c',hc',hy⟩:=List.mem_flatMap.1 hy
        obtain ⟨l',hl',rfl⟩:=List.mem_map.1 hy
        have h5:=hle c' (by rw [hC];simp [hc'])
        have h6:=hC1 c' hc'
        simp only [Bool.not_eq_true',decide_eq_false_iff_not] at h6
        have h7:nextR b w k f0 f1 f2 f3 c'≤valN b w (k+1) f0 f1 f2 f3 (c'::l'):=(ih c').2.2 l' hl'
        omega
      · obtain ⟨l',hl',rfl⟩:=List.mem_map.1 hy
        have h5:=g1 l' hl'
        rw [(ih c).2.1] at h5
        have h6:nextR b w k f0 f1 f2 f3 c<valN b w (k+1) f0 f1 f2 f3 (c::l'):=h5
        omega
    · rw [hval]
      apply hall
      rw [hsh]
      simp only [List.mem_append,List.mem_cons] at hy ⊢
      exact .inr (.inr hy)
theorem shN_mem {b:Dk}:∀ {k:Nat} {l:List Int},k≤b.rs.length→l∈shN b k→l.length=k∧∀ j,j<k→l.getD j 0∈(rnd b (b.rs.length-k+j)).may
  | 0,l,_,h=>by simp only [shN,List.mem_singleton] at h;subst h;exact ⟨rfl,fun j hj=>absurd hj (Nat.not_lt_zero _)⟩
  | k + 1,l,hk,h=>by
    simp only [shN,List.mem_flatMap,List.mem_map] at h
    obtain ⟨c,hc,l',hl',rfl⟩:=h
    obtain ⟨g1,g2⟩:=shN_mem (by omega) hl'
    refine ⟨by simp [g1],fun j hj=>?_⟩
    cases j with
    | zero=>exact hc
    | succ j =>
      have:=g2 j (by omega)
      rw [show b.rs.length-(k+1)+(j+1)=b.rs.length-k+j by omega]
      exact this
theorem shN_ok {b:Dk} (hg:Good b) {l:List Int} (h:l∈shN b b.rs.length):ShareOk b l:=by
  obtain ⟨h1,h2⟩:=shN_mem (Nat.le_refl _) h
  have hm:∀ r,r<l.length→l.getD r 0∈(rnd b r).may:=fun r hr=>by
    have:=h2 r (by omega)
    rwa [show b.rs.length-b.rs.length+r=r by omega] at this
  refine ⟨good_box hg,h1,fun x hx=>?_,mayAll_t fun r hr=>?_⟩
  · obtain ⟨r,hr,rfl⟩:=List.getElem_of_mem hx
    have:=hm r hr
    rw [getD_lt hr] at this
    exact (good_may hg (i:=r) (by omega)).2.1 _ this
  · simp only [has,List.any_eq_true,decide_eq_true_eq]
    exact ⟨_,hm r hr,rfl⟩
theorem val_earn {b:Dk} {w:Int→Int→Int→Int→Int} (hg:Good b) {l:List Int} (hl:l.length=b.rs.length):∀ k,k≤b.rs.length→valN b w k (earnN b l 0 (b.rs.length-k)) (earnN b l 1 (b.rs.length-k)) (earnN b l 2 (b.rs.length-k)) (earnN b l 3 (b.rs.length-k)) (l.drop (b.rs.length-k))=w (earnN b l 0 b.rs.length) (earnN b l 1 b.rs.length) (earnN b l 2 b.rs.length) (earnN b l 3 b.rs.length)
  | 0,_=>by simp only [Nat.sub_zero,valN]
  | k + 1,hk=>by
    have ih:=val_earn (w:=w) hg hl k (by omega)
    have hr:b.rs.length-(k+1)<l.length:=by omega
    have e:b.rs.length-k=b.rs.length-(k+1)+1:=by omega
    rw [List.drop_eq_getElem_cons hr,valN,← ih]
    have hf:feeAt b (k+1)=feeOf b (rnd b (b.rs.length-(k+1))):=feesOf_at (by omega)
    have hbm:∀ q:Int,bump (earnN b l q (b.rs.length-(k+1))) l[b.rs.length-(k+1)] q (feeAt b (k+1))=earnN b l q (b.rs.length-k):=fun q=>by
      rw [e,earnN,getD_lt hr,hf];rfl
    rw [hbm 0,hbm 1,hbm 2,hbm 3,← e]
theorem fees_four {b:Dk} {l:List Int} (hs:ShareOk b l):feesL b l=[earnN b l 0 b.rs.length,earnN b l 1 b.rs.length,earnN b l 2 b.rs.length,earnN b l 3 b.rs.length].take b.cr.toNat:=by
  have hcr:=(box_good hs.box).cr
  rw [earn_list hs,hs.len]
  have:b.cr.toNat=1∨b.cr.toNat=2∨b.cr.toNat=3∨b.cr.toNat=4:=by omega
  rcases this with h | h | h | h<;>rw [h]<;>rfl
theorem val_share {b:Dk} {w:Int→Int→Int→Int→Int} {l:List Int} (hs:ShareOk b l):valN b w b.rs.length 0 0 0 0 l=w (earnN b l 0 b.rs.length) (earnN b l 1 b.rs.length) (earnN b l 2 b.rs.length) (earnN b l 3 b.rs.length):=by
  have:=val_earn (w:=w) (box_good hs.box) hs.len b.rs.length (Nat.le_refl _)
  rw [Nat.sub_self] at this
  exact this
end Go.Eng
set_option maxRecDepth 10000
set_option maxHeartbeats 4000000
namespace Go.Eng
open Go Go.Proofs
section
variable [Yo]
end
end Go.Eng
namespace Go.Eng
def earnG (g:Nat→Int) (l:List Int) (c:Int):Nat→Int
  | 0=>0
  | n+1=>if l.getD n 0=c then earnG g l c n+g n else earnG g l c n
theorem earnG_set {g:Nat→Int} {l:List Int} {r:Nat} (hr:r<l.length) (v c:Int):∀ n,earnG g (l.set r v) c n=earnG g l c n-(if r<n∧l.getD r 0=c then g r else 0)+(if r<n∧v=c then g r else 0)
  | 0=>by simp [earnG]
  | n + 1=>by
    have ih:=earnG_set (g:=g) hr v c n
    simp only [earnG,getD_set]
    by_cases h:r=n
    · subst h
      have e1:(r=r∧r<l.length):=⟨rfl,hr⟩
      rw [if_pos e1]
      simp only [Nat.lt_irrefl,false_and,if_false,Nat.lt_succ_self,true_and] at ih ⊢
      repeat' split
      all_goals omega
    · have e1:¬ (r=n∧n<l.length):=fun h'=>h h'.1
      rw [if_neg e1]
      have e2:r<n+1↔r<n:=by omega
      simp only [e2]
      repeat' split
      all_goals omega
theorem earnG_bd {g:Nat→Int} {l:List Int} {c B:Int} (hg:∀ r,0≤g r∧g r≤B):∀ n:Nat,0≤earnG g l c n∧earnG g l c n≤B*n
  | 0=>by simp [earnG]
  | n+1=>by
    have ih:=earnG_bd (l:=l) (c:=c) hg n
    have h1:=hg n
    have h2:B*((n+1:Nat):Int)=B*n+B:=by rw [Int.natCast_add,Int.mul_add];simp
    simp only [earnG];split<;>omega
theorem earnG_lin {g:Nat→Int} {l:List Int} {c:Int}:∀ n:Nat,earnG (fun r=>16*g r+1) l c n=16*earnG g l c n+earnG (fun _=>1) l c n
  | 0=>by simp [earnG]
  | n+1=>by
    have ih:=earnG_lin (g:=g) (l:=l) (c:=c) n
    simp only [earnG];split<;>omega
theorem earn_G {b:Dk} {l:List Int} {c:Int}:∀ n,earnN b l c n=earnG (fun r=>feeOf b (rnd b r)) l c n
  | 0=>rfl
  | n+1=>by simp only [earnN,earnG,earn_G n]
theorem sq_dec {a b x:Int} (hx:1≤x) (h:a+x<b):(a+x)*(a+x)+(b-x)*(b-x)<a*a+b*b:=by
  have h1:0<x*(b-a-x):=Int.mul_pos (by omega) (by omega)
  have e1:x*(b-a-x)=x*b-x*a-x*x:=by rw [Int.mul_sub,Int.mul_sub]
  have e2:(a+x)*(a+x)=a*a+2*(x*a)+x*x:=by rw [Int.add_mul,Int.mul_add,Int.mul_add,Int.mul_comm a x];omega
  have e3:(b-x)*(b-x)=b*b-2*(x*b)+x*x:=by rw [Int.sub_mul,Int.mul_sub,Int.mul_sub,Int.mul_comm b x];omega
  omega
def sq (x:Int):Int:=x*x
def sumSq (E:Int→Int):Int:=sq (E 0)+sq (E 1)+sq (E 2)+sq (E 3)
theorem sumSq_dec {E E':Int→Int} {f t x:Int} (hf:0≤f∧f<4) (ht:0≤t∧t<4) (hft:f≠t) (hx:1≤x) (h:E t+x<E f) (h1:E' t=E t+x) (h2:E' f=E f-x) (h3:∀ c,c≠t→c≠f→E' c=E c):sumSq E'<sumSq E:=by
  have hd:=sq_dec hx h
  rw [← h1,← h2] at hd
  have h0':=h3 0
  have h1':=h3 1
  have h2':=h3 2
  have h3':=h3 3
  clear h3 h1 h2 h
  obtain rfl | rfl | rfl | rfl:f=0∨f=1∨f=2∨f=3:=by omega
  all_goals obtain rfl | rfl | rfl | rfl:t=0∨t=1∨t=2∨t=3:=by omega
  all_goals first | exact absurd rfl hft | skip
  all_goals unfold sumSq sq
  all_goals simp at h0' h1' h2' h3'
  all_goals simp only [*] at *
  all_goals omega
def potI (b:Dk) (l:List Int):Int:=sumSq fun c=>earnG (fun r=>16*feeOf b (rnd b r)+1) l c l.length
theorem potI_dec {b:Dk} {l:List Int} {r:Nat} {t:Int} (hg:∀ r,0≤feeOf b (rnd b r)) (hl:l.length≤7) (hr:r<l.length) (hx:∀ x∈l,0≤x∧x<4) (ht:0≤t∧t<4) (hne:t≠l.getD r 0) (h:earnN b l t l.length+feeOf b (rnd b r)<earnN b l (l.getD r 0) l.length):potI b (l.set r t)<potI b l:=by
  have hf:=getD_all hx r hr
  rw [earn_G,earn_G] at h
  have hone:∀ c,0≤earnG (fun _=>1) l c l.length∧earnG (fun _=>1) l c l.length≤1*(l.length:Int):=fun c=>earnG_bd (fun _=>by omega) _
  unfold potI
  rw [List.length_set]
  refine sumSq_dec (f:=l.getD r 0) (t:=t) (x:=16*feeOf b (rnd b r)+1) hf ht (fun h=>hne h.symm) (by have:=hg r;omega) ?_ ?_ ?_ ?_
  · show earnG _ l t _+_<earnG _ l (l.getD r 0) _
    rw [earnG_lin,earnG_lin]
    have h1:=hone t
    have h2:=hone (l.getD r 0)
    omega
  · show earnG _ (l.set r t) t _=_
    rw [earnG_set hr,if_neg (fun h=>hne h.2.symm),if_pos ⟨hr,rfl⟩];omega
  · show earnG _ (l.set r t) (l.getD r 0) _=_
    rw [earnG_set hr,if_pos ⟨hr,rfl⟩,if_neg (fun h=>hne h.2)];omega
  · intro c h1 h2
    show earnG _ (l.set r t) c _=_
    rw [earnG_set hr,if_neg (fun h=>h2 h.2.symm),if_neg (fun h=>h1 h.2.symm)];omega
theorem sumSq_bd {E:Int→Int} (h:∀ c,0≤E c∧E c≤1000000):0≤sumSq E∧sumSq E≤4000000000000:=by
  have h1:∀ c,0≤E c*E c∧E c*E c≤1000000*1000000:=fun c=>⟨Int.mul_nonneg (h c).1 (h c).1,Int.mul_le_mul (h c).2 (h c).2 (h c).1 (by omega)⟩
  have a0:=h1 0
  have a1:=h1 1
  have a2:=h1 2
  have a3:=h1 3
  unfold sumSq sq;omega
theorem potI_bd {b:Dk} {l:List Int} (hg:∀ r,0≤feeOf b (rnd b r)∧feeOf b (rnd b r)≤1000) (hl:l.length≤7):0≤potI b l∧potI b l≤4000000000000:=by
  refine sumSq_bd fun c=>?_
  have:=earnG_bd (l:=l) (c:=c) (g:=fun r=>16*feeOf b (rnd b r)+1) (B:=16001) (fun r=>by have:=hg r;omega) l.length
  omega
def pot (b:Dk) (l:List Int):Nat:=(potI b l).toNat
end Go.Eng
set_option maxRecDepth 10000
set_option maxHeartbeats 4000000
namespace Go.Eng
open Go Go.Proofs
theorem share_err {b:Dk} {s:List Int} (h:ShareOk b s):shareErr b s=0:=by
  have h2:(!s.all (fun x=>decide (0≤x)&&decide (x≤b.cr-1)))=false:=by
    simp only [Bool.not_eq_false',List.all_eq_true]
    intro x hx;have:=h.rng x hx;simp;omega
  simp only [shareErr,h.box,h.len,h2,h.may,if_true];rfl
def feeS (b:Dk) (s:List Int):List Int:=addF (feesOf b) s s.length
theorem share_lt {b:Dk} {s:List Int} (hs:ShareOk b s):∀ x∈s,0≤x∧x<4:=fun x hx=>by
  have:=(box_good hs.box).cr
  have:=hs.rng x hx
  omega
theorem feeS_earn {b:Dk} {s:List Int} (hs:ShareOk b s) {c:Nat} (hc:c<4):(feeS b s).getD c 0=earnN b s c s.length:=addF_earn (share_lt hs) s.length (Nat.le_refl _) (by rw [hs.len];exact Nat.le_refl _) c hc
theorem mv_ok {b:Dk} {s:List Int} (hs:ShareOk b s) (hsm:Small b):MvOk b (feesOf b) (feeS b s) s:=by
  have hg:=box_good hs.box
  have hcr:=hg.cr
  have hlen:=hg.len
  have hsl:=hs.len
  refine ⟨hsm,by omega,addF_len _,feesOf_len,hs.len,share_lt hs,fun i=>?_,fun i=>?_⟩
  · have:=addF_bd (share:=s) (feesOf_bd hg) s.length i
    unfold feeS;omega
  · have:=feesOf_bd hg i;omega
def movesL (b:Dk) (l:List Int):List (Nat×Nat):=if shareErr b l=0 then mvs b (feesOf b) (feeS b l) l l.length else []
theorem earnN_set {b:Dk} {l:List Int} {r:Nat} (hr:r<l.length) {c:Int} (hc:c≠l.getD r 0):earnN b (l.set r c) c l.length=earnN b l c l.length+feeOf b (rnd b r):=by
  rw [earn_G,earn_G,earnG_set hr,if_neg (fun h=>hc h.2.symm),if_pos ⟨hr,rfl⟩];omega
theorem mvOk_ref {b:Dk} {s:List Int} (hs:ShareOk b s) {r t:Nat} (hr:r<s.length) (ht:(t:Int)<b.cr):mvOk b (feesOf b) (feeS b s) s r t=(decide ((t:Int)≠s.getD r 0)&&(has (rnd b r).may t&&decide (earnN b (s.set r t) t s.length<earnN b s (s.getD r 0) s.length))):=by
  have hcr:=(box_good hs.box).cr
  have hx:=getD_all (share_lt hs) r hr
  have hsl:=hs.len
  unfold mvOk
  by_cases hne:(t:Int)≠s.getD r 0
  · rw [earnN_set hr hne,feeS_earn hs (by omega),feeS_earn hs (by omega),feesOf_at (by omega),Int.toNat_of_nonneg hx.1];rfl
  · simp only [hne,decide_false,Bool.false_and]
section
variable [Yo]
abbrev movesF (b:Dk) (fee f share:List Int):PV := .func 130 [] (mvCaps b fee f share)
theorem f93_1 (b:Dk) (fee share:List Int) (h1:∀ x∈share,0≤x∧x<4) (h2:∀ i,0≤fee.getD i 0∧fee.getD i 0≤1000) (h3:share.length≤1000) (h4:share.length=fee.length):FG 93 [.ref (deskV b fee),ints share] (movesF b fee (addF fee share share.length) share):=by
  have h90:=f90 b fee share h1 h2 h3 h4
  obtain ⟨x0,x1,x2,x3,hx⟩:=four_of (addF_len (fee:=fee) (share:=share) share.length)
  rw [hx] at h90 ⊢
  have h90:FG 90 [.ref (deskV b fee),ints share] (.agg [I x0,I x1,I x2,I x3]):=h90
  refine gives_ofX Try.f93 ?_
  refine V_seq (V_region (S_go 3 (S_end (V_seq (V_region (S_go 4 (S_a [(7,.ret (PV.agg (List.map I [x0,x1,x2,x3])) ([]))] (ap (h90) an) (S_go 4 (S_end (V_seq (V_region (S_go 2 (S_end (V_ret (E_a [] an (PV.func 130 [] [(PV.sl (List.map I share)).ref,(PV.agg [I b.cr,I b.wd,I b.st,I b.fn,PV.sl (List.map rndV b.rs),PV.sl (List.map I fee)]).ref.ref,(PV.func 98 [(PV.agg [I b.cr,I b.wd,I b.st,I b.fn,PV.sl (List.map rndV b.rs),PV.sl (List.map I fee)]).ref] []).ref,(PV.agg [I x0,I x1,I x2,I x3]).ref]) ([]) rfl rfl)))))))))))))))
theorem f93_2 (b:Dk) (fee share:List Int) (h1:∀ x∈share,0≤x∧x<4) (h2:∀ i,0≤fee.getD i 0∧fee.getD i 0≤1000) (h3:share.length≤1000) (h4:share.length=fee.length):Gives Try.prog feeH 93 [.ref (deskV b fee),.bor 50000000 [(0,0)] 1 0 share.length] [.box (.own 1 (share.map I))] (.func 130 [] (.ref (.bor 50000000 [(0,0)] 1 0 share.length)::(mvCaps b fee (addF fee share share.length) []).tail)) [.box (.own 1 (share.map I))]:=by
  have h90:=f90 b fee share h1 h2 h3 h4
  obtain ⟨x0,x1,x2,x3,hx⟩:=four_of (addF_len (fee:=fee) (share:=share) share.length)
  rw [hx] at h90 ⊢
  have h90:FG 90 [.ref (deskV b fee),ints share] (.agg [I x0,I x1,I x2,I x3]):=h90
  refine gives_ofX Try.f93 ?_
  refine V_seq (V_region (S_go 3 (S_end (V_seq (V_region (S_go 3 (S_go 1 (S_a [(4,.ob),(0,.v (PV.sl (List.map I share))),(2,.ret (PV.agg (List.map I [x0,x1,x2,x3])) ([]))] (ap ((by exact ble_of (by simp only [List.length_map,List.length_set,List.length_append,List.length_cons,List.length_nil,limit]<;>omega)):(0+share.length).ble (List.map I share).length=true) (ap ((sl_ext (freezes_to (by simp [take_mapL]) (freezes_mapI _))):PV.sl (freezes (List.take share.length (List.drop 0 (List.map I share))))=PV.sl (List.map I share)) (ap (h90) an))) (S_go 4 (S_end (V_seq (V_region (S_go 2 (S_end (V_ret (E_a [] an (PV.func 130 [] [(PV.bor 50000000 [(0,0)] 1 0 share.length).ref,(PV.agg [I b.cr,I b.wd,I b.st,I b.fn,PV.sl (List.map rndV b.rs),PV.sl (List.map I fee)]).ref.ref,(PV.func 98 [(PV.agg [I b.cr,I b.wd,I b.st,I b.fn,PV.sl (List.map rndV b.rs),PV.sl (List.map I fee)]).ref] []).ref,(PV.agg [I x0,I x1,I x2,I x3]).ref]) ([(PV.own 1 (List.map I share)).box]) rfl rfl))))))))))))))))
end
theorem f129_2 {b:Dk} {fee f s:List Int} (h:MvOk b fee f s) (hne:mvs b fee f s s.length=[]):FG 129 [.nils 0,movesF b fee f s] (.nils 0):=by
  have ha:=f130a h
  have hf:=h.hf
  unfold mvLog at ha
  rw [hne] at ha
  clear h hne
  obtain ⟨x0,x1,x2,x3,rfl⟩:=four_of hf
  refine gives_ofX Try.f129 ?_
  refine V_seq (V_region (S_go 2 (S_end (V_seq (V_seq (V_region (S_go 1 (S_end (V_block 0 ?_)))))))))
  refine V_rangeRg (t:=6) (R:=[]) ha ?_
  simp only [List.map_nil,Rg]
  refine V_seq (V_region (S_go 2 (S_end (V_ret (E_a [] an (PV.nils 0) ([]) rfl rfl)))))
theorem f92_2 {b:Dk} {fee f s:List Int} (h:MvOk b fee f s) (hne:mvs b fee f s s.length=[]):FG 92 [movesF b fee f s] (.nils 0):=by
  have h129:=f129_2 h hne
  have hf:=h.hf
  clear h hne
  obtain ⟨x0,x1,x2,x3,rfl⟩:=four_of hf
  refine gives_ofX Try.f92 ?_
  refine V_seq (V_region (S_go 1 (S_end (V_seq (V_region (S_go 1 (S_a [(7,.ret (PV.nils 0) ([]))] (ap (h129) an) (S_go 1 (S_end (V_ret (E_a [] an (PV.nils 0) ([]) rfl rfl)))))))))))
theorem f32_2 (b:Dk) (l:List Int) (hb:Small b) (hs:ShareOk b l) (hne:movesL b l=[]):FG 32 [boxV b,ints l] (.tup [.nils 0,I 0]):=by
  have h:=share_err hs
  have hg:=box_good hs.box
  have hbl:=hg.len
  have hsl:=hs.len
  have h88:=f88_1 b l hb h
  have hv:movesL b l=mvs b (feesOf b) (feeS b l) l l.length:=by simp only [movesL,h,if_true]
  rw [hv] at hne
  have h92:=f92_2 (mv_ok hs hb) hne
  have h93:=f93_1 b (feesOf b) l (share_lt hs) (feesOf_bd hg) (by omega) (by rw [feesOf_len];exact hsl)
  unfold feeS at h92
  obtain ⟨x0,x1,x2,x3,hx⟩:=four_of (addF_len (fee:=feesOf b) (share:=l) l.length)
  rw [hx] at h92 h93
  refine gives_ofX Try.f32 ?_
  refine V_seq (V_region (S_go 3 (S_end (V_seq (V_region (S_go 2 (S_a [(8,.ret (PV.tup [(deskV b (feesOf b)).ref,I 0]) ([]))] (ap (h88) an) (S_go 5 (S_end (V_seq (V_seq (V_region (S_go 2 (S_end (V_false (V_skip (V_seq (V_region (S_go 2 (S_a [(5,.ret (movesF b (feesOf b) [x0,x1,x2,x3] l) ([]))] (ap (h93) an) (S_a [(5,.ret (PV.nils 0) ([]))] (ap (h92) an) (S_go 2 (S_end (V_ret (E_a [] an (PV.tup [PV.nils 0,I 0]) ([]) rfl rfl)))))))))))))))))))))))))
end Go.Eng
set_option maxRecDepth 10000
set_option maxHeartbeats 4000000
namespace Go.Eng
open Go Go.Proofs
structure FinedOk (b:Dk) (s late:List Int) (n:Nat) (got less:List Int):Prop where
  err:fineErr b s late=0
  ge:fineGot b s late=got
  le:fineLess b s late=less.sum
  gl:got.length=n
  ll:less.length=n
  at_:∀ c,c<n→0≤(feesL b s).getD c 0∧(feesL b s).getD c 0≤1000000∧0≤less.getD c 0∧less.getD c 0=min ((feesL b s).getD c 0) (b.fn*late.getD c 0)∧got.getD c 0=(feesL b s).getD c 0-less.getD c 0
theorem fees_len {b:Dk} {s:List Int} (hs:ShareOk b s):(feesL b s).length=b.cr.toNat:=by
  have:=(box_good hs.box).cr
  rw [earn_list hs];simp
theorem fined {b:Dk} {s late:List Int} (hs:ShareOk b s) (hl:(late.length:Int)=b.cr) (hr:∀ x∈late,0≤x∧x≤60):∃ got less,FinedOk b s late b.cr.toNat got less:=by
  have hg:=box_good hs.box
  have hcr:=hg.cr
  have hfn:=hg.fn
  have hsl:=hs.len
  have hbl:=hg.len
  have hr':(!late.all (fun x=>decide (0≤x)&&decide (x≤60)))=false:=by
    simp only [Bool.not_eq_false',List.all_eq_true]
    intro x hx;have:=hr x hx;simp;omega
  have e:fineErr b s late=0:=by simp only [fineErr,share_err hs,hl,hr',if_true];rfl
  have hf:feesL b s=(addF (feesOf b) s s.length).take b.cr.toNat:=by simp only [feesL,share_err hs,if_true]
  refine ⟨gotL b (addF (feesOf b) s s.length) late b.cr.toNat,lessL b (addF (feesOf b) s s.length) late b.cr.toNat,e,by simp only [fineGot,e,if_true],by simp only [fineLess,e,if_true],by simp [gotL],by simp [lessL],fun c hc=>?_⟩
  have h1:(feesL b s).getD c 0=(addF (feesOf b) s s.length).getD c 0:=by rw [hf,take_getD hc]
  have hbd:=addF_bd (share:=s) (feesOf_bd hg) s.length c
  have h2:(lessL b (addF (feesOf b) s s.length) late b.cr.toNat).getD c 0=fineC b (addF (feesOf b) s s.length) late c:=by simp [lessL,List.getD_eq_getElem?_getD,hc]
  have h3:(gotL b (addF (feesOf b) s s.length) late b.cr.toNat).getD c 0=(addF (feesOf b) s s.length).getD c 0-fineC b (addF (feesOf b) s s.length) late c:=by simp [gotL,List.getD_eq_getElem?_getD,hc]
  have h4:=getD_all hr c (by omega)
  have h5:=Int.mul_nonneg hfn.1 h4.1
  rw [h1,h2,h3]
  unfold fineC minI
  refine ⟨hbd.1,by omega,?_,?_,rfl⟩
  · split<;>omega
  · split<;>omega
theorem sum_drop {l:List Int} {i:Nat} (h:i<l.length):(l.drop i).sum=l.getD i 0+(l.drop (i+1)).sum:=by
  rw [List.drop_eq_getElem_cons h,getD_lt h,List.sum_cons]
theorem sum_drop_bd {l:List Int} {B:Int} (h:∀ c,c<l.length→0≤l.getD c 0∧l.getD c 0≤B) (hB:0≤B) (i:Nat):0≤(l.drop i).sum∧(l.drop i).sum≤B*l.length:=by
  have h1:∀ x∈l.drop i,0≤x∧x≤B:=fun x hx=>by
    obtain ⟨j,hj,rfl⟩:=List.getElem_of_mem (List.mem_of_mem_drop hx)
    have:=h j hj;rwa [getD_lt hj] at this
  have h2:=sum_bd (B:=B) (l:=l.drop i) fun x hx=>by have:=h1 x hx;omega
  have h3:=sum_nn fun x hx=>(h1 x hx).1
  have h4:B*((l.drop i).length:Int)≤B*l.length:=Int.mul_le_mul_of_nonneg_left (by simp) hB
  omega
theorem f4 (nums tries mins:List Int) (which:Int) (h1:nums.length<9223372036854775808) (h2:tries.length<9223372036854775808) (h3:mins.length<9223372036854775808) (hw:0≤which∧which≤255):FG 4 [.sl (nums.map u8),.sl (tries.map u8),.sl (mins.map u8),.int .u8 which] (.bool true):=by
  obtain ⟨v,h',hm,b,a1,t1,rfl,rfl,hg,hbl,ha1⟩:=f21_ex nums 0 0 7 ⟨Nat.zero_le _,h1⟩ (by omega)
  obtain ⟨v,h',hsh,s,a2,t2,rfl,rfl,hs,ha2⟩:=f23_ex tries 0 0 b ⟨Nat.zero_le _,h2⟩ hg
  have h25:=f25_1 b s hs
  have hcr:=hg.cr
  have hfn:=hg.fn
  have hfl:=fees_len hs
  have hsl:=hs.len
  have hsm:Small b:=⟨by omega,fun r hr=>by have:=hg.may r hr;have:=incr_len this.2.2 this.2.1 hcr;omega⟩
  refine gives_ofX Try.f4 ?_
  refine V_seq (V_region (S_go 1 (S_end (V_seq (V_region (S_go 1 (S_a [(6,.ret (bellV nums 0 0) ([]))] (ap (f22 (nums)) an) (S_a [(6,.ret (boxO b) ([bellV nums a1 t1]))] (ap (hm) an) (S_go 1 (S_a [(3,.v (PV.agg [I b.cr,I b.wd,I b.st,I b.fn,PV.sl (List.map (fun x=>PV.agg [I x.w,I x.s,PV.sl (List.map I x.may)]) b.rs)]))] (ap ((by simp only [show freezes (List.map rndO b.rs)=List.map (fun x=>PV.agg [I x.w,I x.s,PV.sl (List.map I x.may)]) b.rs from (by first | exact freezes_mapI _ | exact freezes_mapH _ | exact freezes_all (freezes_mapH _) | exact freezes_to (by simp [take_mapL]) (freezes_mapI _))]):PV.agg [I b.cr,I b.wd,I b.st,I b.fn,PV.sl (freezes (List.map rndO b.rs))]=PV.agg [I b.cr,I b.wd,I b.st,I b.fn,PV.sl (List.map (fun x=>PV.agg [I x.w,I x.s,PV.sl (List.map I x.may)]) b.rs)]) an) (S_end (V_seq (V_region (S_go 1 (S_a [(6,.ret (bellV tries 0 0) ([]))] (ap (f22 (tries)) an) (S_go 1 (S_a [(6,.ret (PV.own 1 (List.map I s)) ([bellV tries a2 t2]))] (ap (hsh) an) (S_go 1 (S_end (V_seq (V_region (S_go 1 (S_a [(6,.ret (bellV mins 0 0) ([]))] (ap (f22 (mins)) an) (S_go 1 (S_end (V_seq (V_region (S_go 1 (S_end (V_seq (V_seq (V_region (S_go 3 (S_end (V_block 0 ?_)))))))))))))))))))))))))))))))))))
  refine V_loopS (fun (c,la,a,t)=>(c:Int)≤b.cr∧la.length=c∧(∀ x∈la,0≤x∧x≤20)∧BellOk mins a) (fun (c,la,a,t)=>[(11,bellV mins a t),(12,.own 1 (la.map I)),(35,I (c:Nat))]) (fun (c,_,_,_)=>b.cr.toNat-c) ((0:Nat),([]:List Int),(0:Nat),(0:Int)) ⟨by omega,rfl,by simp,Nat.zero_le _,h3⟩ fun (c,la,a,t) ⟨hc,hla,hlr,ha⟩=>?_
  by_cases hcc:(c:Int)=b.cr
  · obtain ⟨got,less,hF⟩:=fined hs (by omega) (fun x hx=>by have:=hlr x hx;omega:∀ x∈la,0≤x∧x≤60)
    have e1:=hF.err
    obtain rfl:=hF.ge
    have e3:=hF.le
    have e4:=hF.gl
    have e5:=hF.ll
    have hk1:=Int.tmod_nonneg b.cr hw.1
    have hk2:=Int.tmod_lt_of_pos which (show 0<b.cr by omega)
    have hkl:(which.tmod b.cr).toNat<la.length:=by omega
    have hk3:=getD_all hlr (which.tmod b.cr).toNat hkl
    obtain ⟨got2,less2,hF2⟩:=fined (late:=la.set (which.tmod b.cr).toNat (la.getD (which.tmod b.cr).toNat 0+1)) hs (by simp;omega) (fun x hx=>by
      rcases List.mem_or_eq_of_mem_set hx with hx | rfl
      · have:=hlr x hx;omega
      · omega)
    have d1:=hF2.err
    obtain rfl:=hF2.ge
    have d4:=hF2.gl
    have d5:=hF2.ll
    have d6k:=hF2.at_ (which.tmod b.cr).toNat (by omega)
    rw [getD_set,if_pos ⟨rfl,hkl⟩,Int.mul_add,Int.mul_one] at d6k
    have e6k:=hF.at_ (which.tmod b.cr).toNat (by omega)
    have hfin:(fineGot b s (la.set (which.tmod b.cr).toNat (la.getD (which.tmod b.cr).toNat 0+1))).getD (which.tmod b.cr).toNat 0≤(fineGot b s la).getD (which.tmod b.cr).toNat 0:=by omega
    clear d6k e6k h1 h2 h3 ha1 ha2
    have hsm':=hsm
    refine V_seq (V_region (S_go 1 (S_end (V_seq (V_decF ((↑c:Int)<b.cr) (by omega) (V_exit 0 (V_seq (V_region (S_go 2 (S_a [(5,.ob),(0,.v (PV.sl (List.map I s))),(2,.ret (PV.own 1 (List.map I (feesL b s))) ([])),(1,.yes)] (ap ((by exact ble_of (by simp only [List.length_map,List.length_set,List.length_append,List.length_cons,List.length_nil,limit]<;>omega)):(0+(List.map I s).length).ble (List.map I s).length=true) (ap ((sl_ext (freezes_all (freezes_mapH _))):PV.sl (freezes (List.take (List.map I s).length (List.drop 0 (List.map I s))))=PV.sl (List.map I s)) (ap (h25) (ap ((by exact frees_map _):(PV.own 1 (List.map I (feesL b s))).free=true) an)))) (S_go 1 (S_end (V_seq (V_region (S_go 3 (S_a [(5,.ob),(0,.v (PV.sl (List.map I s))),(1,.ob),(0,.v (PV.sl (List.map I la))),(2,.ret (PV.tup [PV.own 1 (List.map I (fineGot b s la)),I (fineLess b s la),I (fineErr b s la)]) ([])),(1,.yes)] (ap ((by exact ble_of (by simp only [List.length_map,List.length_set,List.length_append,List.length_cons,List.length_nil,limit]<;>omega)):(0+(List.map I s).length).ble (List.map I s).length=true) (ap ((sl_ext (freezes_all (freezes_mapH _))):PV.sl (freezes (List.take (List.map I s).length (List.drop 0 (List.map I s))))=PV.sl (List.map I s)) (ap ((by exact ble_of (by simp only [List.length_map,List.length_set,List.length_append,List.length_cons,List.length_nil,limit]<;>omega)):(0+(List.map I la).length).ble (List.map I la).length=true) (ap ((sl_ext (freezes_all (freezes_mapH _))):PV.sl (freezes (List.take (List.map I la).length (List.drop 0 (List.map I la))))=PV.sl (List.map I la)) (ap (f26 (b) (s) (la) (by omega) (by omega) (by omega)) (ap ((by exact ob_and (frees_map _) rfl):(PV.tup [PV.own 1 (List.map I (fineGot b s la)),I (fineLess b s la),I (fineErr b s la)]).free=true) an)))))) (S_go 7 (S_end (V_seq (V_seq (V_region (S_go 3 (S_ndecF 59 (fineErr b s la=0) (by omega) (S_go 1 (S_a [(0,.n ((fineGot b s la).length))] (ap ((by simp):some (List.map I (fineGot b s la)).length=some (fineGot b s la).length) an) (S_go 5 (S_ndecF 66 ((↑(fineGot b s la).length:Int)=b.cr) (by omega) (S_go 1 (S_a [(0,.n ((feesL b s).length))] (ap ((by simp):some (List.map I (feesL b s)).length=some (feesL b s).length) an) (S_go 4 (S_end (V_ndecF ((↑(feesL b s).length:Int)=b.cr) (by omega) (V_skip (V_seq (V_region (S_go 2 (S_end (V_seq (V_seq (V_region (S_go 1 (S_a [(0,.n ((fineGot b s la).length))] (ap ((by simp):some (List.map I (fineGot b s la)).length=some (fineGot b s la).length) an) (S_go 1 (S_end (V_block 2 ?_)))))))))))))))))))))))))))))))))))))))))))))
    refine V_loopS (fun (i,sm)=>i≤(fineGot b s la).length∧sm=(less.drop i).sum) (fun (i,sm)=>[(17,I sm),(76,I (i:Nat))]) (fun (i,_)=>(fineGot b s la).length-i) ((0:Nat),fineLess b s la) ⟨Nat.zero_le _,by rw [e3];simp⟩ fun (i,sm) ⟨hi,hsu⟩=>?_
    by_cases hil:i<(fineGot b s la).length
    · have e6i:(0≤(feesL b s).getD i 0∧(feesL b s).getD i 0≤1000000)∧(fineGot b s la).getD i 0=(feesL b s).getD i 0-less.getD i 0∧0≤less.getD i 0∧less.getD i 0≤(feesL b s).getD i 0∧less.getD i 0≤b.fn*la.getD i 0∧(less.getD i 0=(feesL b s).getD i 0∨less.getD i 0=b.fn*la.getD i 0):=by have:=hF.at_ i (by omega);omega
      have hz:la.getD i 0=0→b.fn*la.getD i 0=0:=fun h=>by rw [h];simp
      have hla2:0≤la.getD i 0∧la.getD i 0≤20:=getD_all hlr i (by omega)
      have hmb:0≤b.fn*la.getD i 0∧b.fn*la.getD i 0≤20*20:=⟨Int.mul_nonneg hfn.1 hla2.1,Int.mul_le_mul (by omega) hla2.2 hla2.1 (by omega)⟩
      have hsb:=sum_drop_bd (l:=less) (B:=1000000) (fun c hc=>by have:=hF.at_ c (by omega);omega) (by omega) i
      have hsd:(less.drop i).sum=less.getD i 0+(less.drop (i+1)).sum:=sum_drop (by omega)
      rw [← hsu] at hsb hsd
      have hsm2:sm+((fineGot b s la).getD i 0-(feesL b s).getD i 0)=(less.drop (i+1)).sum:=by omega
      have hlal:la.length=b.cr.toNat:=by omega
      clear hF hF2 d1 d4 d5 hk1 hk2 hkl hk3 hfin hsm hcc e1 hlr
      refine V_seq (V_region (S_go 1 (S_end (V_seq (V_decT ((↑i:Int)<(↑(fineGot b s la).length:Int)) (by omega) (V_skip (V_seq (V_block 3 (V_seq (V_region (S_go 1 (S_a [(2,.ob),(1,.n (i))] (ap ((by exact dec_of (by simp only [List.length_map,List.length_set,List.length_append,List.length_cons,List.length_nil]<;>omega)):decide (i<(List.map I (fineGot b s la)).length)=true) (ap ((by simp):some (0+i)=some i) an)) (S_a [(0,.cs false ([I ((fineGot b s la).getD i 0)]))] (ap (rc_at (q:=PV.own 1 (List.map I (fineGot b s la))) (xs:=List.map I (fineGot b s la)) (x:=I ((fineGot b s la).getD i 0)) rfl (getm (0) (by omega)):readCells 14 (PV.own 1 (List.map I (fineGot b s la))) [] i 0 1=some (false,[I ((fineGot b s la).getD i 0)])) an) (S_go 2 (S_end (V_seq (V_region (S_go 4 (S_a [(2,.ob),(1,.n (i))] (ap ((by exact dec_of (by simp only [List.length_map,List.length_set,List.length_append,List.length_cons,List.length_nil]<;>omega)):decide (i<(List.map I (feesL b s)).length)=true) (ap ((by simp):some (0+i)=some i) an)) (S_a [(0,.cs false ([I ((feesL b s).getD i 0)]))] (ap (rc_at (q:=PV.own 1 (List.map I (feesL b s))) (xs:=List.map I (feesL b s)) (x:=I ((feesL b s).getD i 0)) rfl (getm (0) (by omega)):readCells 13 (PV.own 1 (List.map I (feesL b s))) [] i 0 1=some (false,[I ((feesL b s).getD i 0)])) an) (S_a [(1,.v (I ((fineGot b s la).getD i 0-(feesL b s).getD i 0)))] (ap ((wrapE rfl (by omega)):I (IntKind.i64.wrap ((fineGot b s la).getD i 0-(feesL b s).getD i 0))=I ((fineGot b s la).getD i 0-(feesL b s).getD i 0)) an) (S_a [(1,.v (I (sm+((fineGot b s la).getD i 0-(feesL b s).getD i 0))))] (ap ((wrapE rfl (by omega)):I (IntKind.i64.wrap (sm+((fineGot b s la).getD i 0-(feesL b s).getD i 0)))=I (sm+((fineGot b s la).getD i 0-(feesL b s).getD i 0))) an) (S_go 1 (S_end (V_seq (V_region (S_go 3 (S_decF 91 ((fineGot b s la).getD i 0<0) (by omega) (S_go 3 (S_a [(2,.ob),(1,.n (i))] (ap ((by exact dec_of (by simp only [List.length_map,List.length_set,List.length_append,List.length_cons,List.length_nil]<;>omega)):decide (i<(List.map I (feesL b s)).length)=true) (ap ((by simp):some (0+i)=some i) an)) (S_a [(0,.cs false ([I ((feesL b s).getD i 0)]))] (ap (rc_at (q:=PV.own 1 (List.map I (feesL b s))) (xs:=List.map I (feesL b s)) (x:=I ((feesL b s).getD i 0)) rfl (getm (0) (by omega)):readCells 13 (PV.own 1 (List.map I (feesL b s))) [] i 0 1=some (false,[I ((feesL b s).getD i 0)])) an) (S_go 3 (S_decF 99 ((fineGot b s la).getD i 0>(feesL b s).getD i 0) (by omega) (S_go 2 (S_a [(2,.ob),(1,.n (i))] (ap ((by exact dec_of (by simp only [List.length_map,List.length_set,List.length_append,List.length_cons,List.length_nil]<;>omega)):decide (i<(List.map I la).length)=true) (ap ((by simp):some (0+i)=some i) an)) (S_a [(0,.cs false ([I (la.getD i 0)]))] (ap (rc_at (q:=PV.own 1 (List.map I la)) (xs:=List.map I la) (x:=I (la.getD i 0)) rfl (getm (0) (by omega)):readCells 12 (PV.own 1 (List.map I la)) [] i 0 1=some (false,[I (la.getD i 0)])) an) (S_go 2 (S_dec 105 (la.getD i 0=0) (fun k0=>(S_go 3 (S_a [(2,.ob),(1,.n (i))] (ap ((by exact dec_of (by simp only [List.length_map,List.length_set,List.length_append,List.length_cons,List.length_nil]<;>omega)):decide (i<(List.map I (feesL b s)).length)=true) (ap ((by simp):some (0+i)=some i) an)) (S_a [(0,.cs false ([I ((feesL b s).getD i 0)]))] (ap (rc_at (q:=PV.own 1 (List.map I (feesL b s))) (xs:=List.map I (feesL b s)) (x:=I ((feesL b s).getD i 0)) rfl (getm (0) (by omega)):readCells 13 (PV.own 1 (List.map I (feesL b s))) [] i 0 1=some (false,[I ((feesL b s).getD i 0)])) an) (S_go 4 (S_ndecF 114 ((fineGot b s la).getD i 0=(feesL b s).getD i 0) (by omega) (S_go 3 (S_dec 117 ((fineGot b s la).getD i 0>0) (fun k1=>(S_go 2 (S_a [(2,.ob),(1,.n (i))] (ap ((by exact dec_of (by simp only [List.length_map,List.length_set,List.length_append,List.length_cons,List.length_nil]<;>omega)):decide (i<(List.map I (feesL b s)).length)=true) (ap ((by simp):some (0+i)=some i) an)) (S_a [(0,.cs false ([I ((feesL b s).getD i 0)]))] (ap (rc_at (q:=PV.own 1 (List.map I (feesL b s))) (xs:=List.map I (feesL b s)) (x:=I ((feesL b s).getD i 0)) rfl (getm (0) (by omega)):readCells 13 (PV.own 1 (List.map I (feesL b s))) [] i 0 1=some (false,[I ((feesL b s).getD i 0)])) an) (S_go 1 (S_a [(1,.v (I ((feesL b s).getD i 0-(fineGot b s la).getD i 0)))] (ap ((wrapE rfl (by omega)):I (IntKind.i64.wrap ((feesL b s).getD i 0-(fineGot b s la).getD i 0))=I ((feesL b s).getD i 0-(fineGot b s la).getD i 0)) an) (S_go 4 (S_a [(2,.ob),(1,.n (i))] (ap ((by exact dec_of (by simp only [List.length_map,List.length_set,List.length_append,List.length_cons,List.length_nil]<;>omega)):decide (i<(List.map I la).length)=true) (ap ((by simp):some (0+i)=some i) an)) (S_a [(0,.cs false ([I (la.getD i 0)]))] (ap (rc_at (q:=PV.own 1 (List.map I la)) (xs:=List.map I la) (x:=I (la.getD i 0)) rfl (getm (0) (by omega)):readCells 12 (PV.own 1 (List.map I la)) [] i 0 1=some (false,[I (la.getD i 0)])) an) (S_a [(1,.v (I (b.fn*la.getD i 0)))] (ap ((wrapE rfl (by omega)):I (IntKind.i64.wrap (b.fn*la.getD i 0))=I (b.fn*la.getD i 0)) an) (S_go 4 (S_ndecF 134 ((feesL b s).getD i 0-(fineGot b s la).getD i 0=b.fn*la.getD i 0) (by omega) (S_go 3 (S_decF 137 ((fineGot b s la).getD i 0=0) (by omega) (S_go 14 (S_end (V_false (V_skip (V_region (S_a [(1,.v (I (↑(i+1):Int)))] (ap ((wrapE (by omega) (by omega)):I (IntKind.i64.wrap ((↑i:Int)+1))=I (↑(i+1):Int)) an) (S_go 1 (S_end ?_)))))))))))))))))))))) (fun k1=>(S_go 20 (S_decT 137 ((fineGot b s la).getD i 0=0) (by omega) (S_go 2 (S_a [(2,.ob),(1,.n (i))] (ap ((by exact dec_of (by simp only [List.length_map,List.length_set,List.length_append,List.length_cons,List.length_nil]<;>omega)):decide (i<(List.map I (feesL b s)).length)=true) (ap ((by simp):some (0+i)=some i) an)) (S_a [(0,.cs false ([I ((feesL b s).getD i 0)]))] (ap (rc_at (q:=PV.own 1 (List.map I (feesL b s))) (xs:=List.map I (feesL b s)) (x:=I ((feesL b s).getD i 0)) rfl (getm (0) (by omega)):readCells 13 (PV.own 1 (List.map I (feesL b s))) [] i 0 1=some (false,[I ((feesL b s).getD i 0)])) an) (S_go 4 (S_a [(2,.ob),(1,.n (i))] (ap ((by exact dec_of (by simp only [List.length_map,List.length_set,List.length_append,List.length_cons,List.length_nil]<;>omega)):decide (i<(List.map I la).length)=true) (ap ((by simp):some (0+i)=some i) an)) (S_a [(0,.cs false ([I (la.getD i 0)]))] (ap (rc_at (q:=PV.own 1 (List.map I la)) (xs:=List.map I la) (x:=I (la.getD i 0)) rfl (getm (0) (by omega)):readCells 12 (PV.own 1 (List.map I la)) [] i 0 1=some (false,[I (la.getD i 0)])) an) (S_a [(1,.v (I (b.fn*la.getD i 0)))] (ap ((wrapE rfl (by omega)):I (IntKind.i64.wrap (b.fn*la.getD i 0))=I (b.fn*la.getD i 0)) an) (S_go 3 (S_end (V_decF ((feesL b s).getD i 0>b.fn*la.getD i 0) (by omega) (V_skip (V_region (S_a [(1,.v (I (↑(i+1):Int)))] (ap ((wrapE (by omega) (by omega)):I (IntKind.i64.wrap ((↑i:Int)+1))=I (↑(i+1):Int)) an) (S_go 1 (S_end ?_)))))))))))))))))))))))))) (fun k0=>(S_go 12 (S_dec 117 ((fineGot b s la).getD i 0>0) (fun k2=>(S_go 2 (S_a [(2,.ob),(1,.n (i))] (ap ((by exact dec_of (by simp only [List.length_map,List.length_set,List.length_append,List.length_cons,List.length_nil]<;>omega)):decide (i<(List.map I (feesL b s)).length)=true) (ap ((by simp):some (0+i)=some i) an)) (S_a [(0,.cs false ([I ((feesL b s).getD i 0)]))] (ap (rc_at (q:=PV.own 1 (List.map I (feesL b s))) (xs:=List.map I (feesL b s)) (x:=I ((feesL b s).getD i 0)) rfl (getm (0) (by omega)):readCells 13 (PV.own 1 (List.map I (feesL b s))) [] i 0 1=some (false,[I ((feesL b s).getD i 0)])) an) (S_go 1 (S_a [(1,.v (I ((feesL b s).getD i 0-(fineGot b s la).getD i 0)))] (ap ((wrapE rfl (by omega)):I (IntKind.i64.wrap ((feesL b s).getD i 0-(fineGot b s la).getD i 0))=I ((feesL b s).getD i 0-(fineGot b s la).getD i 0)) an) (S_go 4 (S_a [(2,.ob),(1,.n (i))] (ap ((by exact dec_of (by simp only [List.length_map,List.length_set,List.length_append,List.length_cons,List.length_nil]<;>omega)):decide (i<(List.map I la).length)=true) (ap ((by simp):some (0+i)=some i) an)) (S_a [(0,.cs false ([I (la.getD i 0)]))] (ap (rc_at (q:=PV.own 1 (List.map I la)) (xs:=List.map I la) (x:=I (la.getD i 0)) rfl (getm (0) (by omega)):readCells 12 (PV.own 1 (List.map I la)) [] i 0 1=some (false,[I (la.getD i 0)])) an) (S_a [(1,.v (I (b.fn*la.getD i 0)))] (ap ((wrapE rfl (by omega)):I (IntKind.i64.wrap (b.fn*la.getD i 0))=I (b.fn*la.getD i 0)) an) (S_go 4 (S_ndecF 134 ((feesL b s).getD i 0-(fineGot b s la).getD i 0=b.fn*la.getD i 0) (by omega) (S_go 3 (S_decF 137 ((fineGot b s la).getD i 0=0) (by omega) (S_go 14 (S_end (V_false (V_skip (V_region (S_a [(1,.v (I (↑(i+1):Int)))] (ap ((wrapE (by omega) (by omega)):I (IntKind.i64.wrap ((↑i:Int)+1))=I (↑(i+1):Int)) an) (S_go 1 (S_end ?_)))))))))))))))))))))) (fun k2=>(S_go 20 (S_decT 137 ((fineGot b s la).getD i 0=0) (by omega) (S_go 2 (S_a [(2,.ob),(1,.n (i))] (ap ((by exact dec_of (by simp only [List.length_map,List.length_set,List.length_append,List.length_cons,List.length_nil]<;>omega)):decide (i<(List.map I (feesL b s)).length)=true) (ap ((by simp):some (0+i)=some i) an)) (S_a [(0,.cs false ([I ((feesL b s).getD i 0)]))] (ap (rc_at (q:=PV.own 1 (List.map I (feesL b s))) (xs:=List.map I (feesL b s)) (x:=I ((feesL b s).getD i 0)) rfl (getm (0) (by omega)):readCells 13 (PV.own 1 (List.map I (feesL b s))) [] i 0 1=some (false,[I ((feesL b s).getD i 0)])) an) (S_go 4 (S_a [(2,.ob),(1,.n (i))] (ap ((by exact dec_of (by simp only [List.length_map,List.length_set,List.length_append,List.length_cons,List.length_nil]<;>omega)):decide (i<(List.map I la).length)=true) (ap ((by simp):some (0+i)=some i) an)) (S_a [(0,.cs false ([I (la.getD i 0)]))] (ap (rc_at (q:=PV.own 1 (List.map I la)) (xs:=List.map I la) (x:=I (la.getD i 0)) rfl (getm (0) (by omega)):readCells 12 (PV.own 1 (List.map I la)) [] i 0 1=some (false,[I (la.getD i 0)])) an) (S_a [(1,.v (I (b.fn*la.getD i 0)))] (ap ((wrapE rfl (by omega)):I (IntKind.i64.wrap (b.fn*la.getD i 0))=I (b.fn*la.getD i 0)) an) (S_go 3 (S_end (V_decF ((feesL b s).getD i 0>b.fn*la.getD i 0) (by omega) (V_skip (V_region (S_a [(1,.v (I (↑(i+1):Int)))] (ap ((wrapE (by omega) (by omega)):I (IntKind.i64.wrap ((↑i:Int)+1))=I (↑(i+1):Int)) an) (S_go 1 (S_end ?_)))))))))))))))))))))))))))))))))))))))))))))))))))))))))))
      all_goals exact ⟨(i+1,sm+((fineGot b s la).getD i 0-(feesL b s).getD i 0)),⟨by omega,hsm2⟩,by simp only;omega,by kernel_rfl,by kernel_rfl⟩
    · have hfr:=frees_map (g:=I) (fineGot b s (la.set (which.tmod b.cr).toNat (la.getD (which.tmod b.cr).toNat 0+1)))
      have hsz:sm=0:=by rw [hsu,List.drop_eq_nil_of_le (by omega)];rfl
      clear hF hF2
      refine V_seq (V_region (S_go 1 (S_end (V_seq (V_decF ((↑i:Int)<(↑(fineGot b s la).length:Int)) (by omega) (V_exit 2 (V_seq (V_region (S_go 1 (S_a [(3,.ob),(0,.v (PV.sl (List.map I la))),(2,.ret (PV.own 1 (List.map I la)) ([])),(1,.yes)] (ap ((by exact ble_of (by simp only [List.length_map,List.length_set,List.length_append,List.length_cons,List.length_nil,limit]<;>omega)):(0+(List.map I la).length).ble (List.map I la).length=true) (ap ((sl_ext (freezes_all (freezes_mapH _))):PV.sl (freezes (List.take (List.map I la).length (List.drop 0 (List.map I la))))=PV.sl (List.map I la)) (ap (f17 (la) (by omega)) (ap ((by exact frees_map _):(PV.own 1 (List.map I la)).free=true) an)))) (S_go 1 (S_end (V_seq (V_region (S_go 1 (S_a [(0,.v (I which))] (ap ((wrapE rfl (by omega)):I (IntKind.i64.wrap which)=I which) an) (S_go 2 (S_a [(0,.v (I (which.tmod b.cr)))] (ap (bv_rem (by omega) rfl:binV Try.prog BinOp.rem 3 (I which) (I b.cr)=some (I (which.tmod b.cr))) an) (S_go 1 (S_end (V_seq (V_region (S_go 2 (S_a [(0,.ob),(1,.ob),(1,.n ((which.tmod b.cr).toNat))] (ap ((by exact dec_of (by omega)):decide (0≤which.tmod b.cr)=true) (ap ((by exact dec_of (by simp only [List.length_map,List.length_set,List.length_append,List.length_cons,List.length_nil]<;>omega)):decide ((which.tmod b.cr).toNat<(List.map I la).length)=true) (ap ((by simp):some (0+(which.tmod b.cr).toNat)=some (which.tmod b.cr).toNat) an))) (S_a [(0,.cs false ([I (la.getD (which.tmod b.cr).toNat 0)]))] (ap (rc_at (q:=PV.own 1 (List.map I la)) (xs:=List.map I la) (x:=I (la.getD (which.tmod b.cr).toNat 0)) rfl (getm (0) (by omega)):readCells 20 (PV.own 1 (List.map I la)) [] (which.tmod b.cr).toNat 0 1=some (false,[I (la.getD (which.tmod b.cr).toNat 0)])) an) (S_a [(1,.v (I (la.getD (which.tmod b.cr).toNat 0+1)))] (ap ((wrapE rfl (by omega)):I (IntKind.i64.wrap (la.getD (which.tmod b.cr).toNat 0+1))=I (la.getD (which.tmod b.cr).toNat 0+1)) an) (S_a [(0,.ob),(1,.ob),(1,.n ((which.tmod b.cr).toNat))] (ap ((by exact dec_of (by omega)):decide (0≤which.tmod b.cr)=true) (ap ((by exact dec_of (by simp only [List.length_map,List.length_set,List.length_append,List.length_cons,List.length_nil]<;>omega)):decide ((which.tmod b.cr).toNat<(List.map I la).length)=true) (ap ((by simp):some (0+(which.tmod b.cr).toNat)=some (which.tmod b.cr).toNat) an))) (S_a [(8,.root (PV.own 1 (List.map I (la.set (which.tmod b.cr).toNat (la.getD (which.tmod b.cr).toNat 0+1)))) true)] (ap (wa_at (getm (0) (by omega)) map_set':writeAt (PV.own 1 (List.map I la)) [] (which.tmod b.cr).toNat 0 (I (la.getD (which.tmod b.cr).toNat 0+1)).cells=some (PV.own 1 (List.map I (la.set (which.tmod b.cr).toNat (la.getD (which.tmod b.cr).toNat 0+1))))∧keptView (PV.own 1 (List.map I la)) (PV.own 1 (List.map I (la.set (which.tmod b.cr).toNat (la.getD (which.tmod b.cr).toNat 0+1)))) []=true) an) (S_end (V_seq (V_region (S_go 3 (S_a [(5,.ob),(0,.v (PV.sl (List.map I s))),(1,.ob),(0,.v (PV.sl (List.map I (la.set (which.tmod b.cr).toNat (la.getD (which.tmod b.cr).toNat 0+1))))),(2,.ret (PV.tup [PV.own 1 (List.map I (fineGot b s (la.set (which.tmod b.cr).toNat (la.getD (which.tmod b.cr).toNat 0+1)))),I (fineLess b s (la.set (which.tmod b.cr).toNat (la.getD (which.tmod b.cr).toNat 0+1))),I (fineErr b s (la.set (which.tmod b.cr).toNat (la.getD (which.tmod b.cr).toNat 0+1)))]) ([])),(1,.yes)] (ap ((by exact ble_of (by simp only [List.length_map,List.length_set,List.length_append,List.length_cons,List.length_nil,limit]<;>omega)):(0+(List.map I s).length).ble (List.map I s).length=true) (ap ((sl_ext (freezes_all (freezes_mapH _))):PV.sl (freezes (List.take (List.map I s).length (List.drop 0 (List.map I s))))=PV.sl (List.map I s)) (ap ((by exact ble_of (by simp only [List.length_map,List.length_set,List.length_append,List.length_cons,List.length_nil,limit]<;>omega)):(0+(List.map I (la.set (which.tmod b.cr).toNat (la.getD (which.tmod b.cr).toNat 0+1))).length).ble (List.map I (la.set (which.tmod b.cr).toNat (la.getD (which.tmod b.cr).toNat 0+1))).length=true) (ap ((sl_ext (freezes_all (freezes_mapH _))):PV.sl (freezes (List.take (List.map I (la.set (which.tmod b.cr).toNat (la.getD (which.tmod b.cr).toNat 0+1))).length (List.drop 0 (List.map I (la.set (which.tmod b.cr).toNat (la.getD (which.tmod b.cr).toNat 0+1))))))=PV.sl (List.map I (la.set (which.tmod b.cr).toNat (la.getD (which.tmod b.cr).toNat 0+1)))) (ap (f26 (b) (s) (la.set (which.tmod b.cr).toNat (la.getD (which.tmod b.cr).toNat 0+1)) (by omega) (by omega) (by first | omega | (simp<;>omega))) (ap ((by exact ob_and (frees_map _) rfl):(PV.tup [PV.own 1 (List.map I (fineGot b s (la.set (which.tmod b.cr).toNat (la.getD (which.tmod b.cr).toNat 0+1)))),I (fineLess b s (la.set (which.tmod b.cr).toNat (la.getD (which.tmod b.cr).toNat 0+1))),I (fineErr b s (la.set (which.tmod b.cr).toNat (la.getD (which.tmod b.cr).toNat 0+1)))]).free=true) an)))))) (S_go 7 (S_end (V_seq (V_region (S_go 3 (S_decT 176 (fineErr b s (la.set (which.tmod b.cr).toNat (la.getD (which.tmod b.cr).toNat 0+1))=0) (by omega) (S_go 1 (S_a [(0,.n ((fineGot b s (la.set (which.tmod b.cr).toNat (la.getD (which.tmod b.cr).toNat 0+1))).length))] (ap ((by simp):some (List.map I (fineGot b s (la.set (which.tmod b.cr).toNat (la.getD (which.tmod b.cr).toNat 0+1)))).length=some (fineGot b s (la.set (which.tmod b.cr).toNat (la.getD (which.tmod b.cr).toNat 0+1))).length) an) (S_go 5 (S_decT 183 ((↑(fineGot b s (la.set (which.tmod b.cr).toNat (la.getD (which.tmod b.cr).toNat 0+1))).length:Int)=b.cr) (by omega) (S_go 2 (S_a [(0,.ob),(1,.ob),(1,.n ((which.tmod b.cr).toNat))] (ap ((by exact dec_of (by omega)):decide (0≤which.tmod b.cr)=true) (ap ((by exact dec_of (by simp only [List.length_map,List.length_set,List.length_append,List.length_cons,List.length_nil]<;>omega)):decide ((which.tmod b.cr).toNat<(List.map I (fineGot b s (la.set (which.tmod b.cr).toNat (la.getD (which.tmod b.cr).toNat 0+1)))).length)=true) (ap ((by simp):some (0+(which.tmod b.cr).toNat)=some (which.tmod b.cr).toNat) an))) (S_a [(0,.cs false ([I ((fineGot b s (la.set (which.tmod b.cr).toNat (la.getD (which.tmod b.cr).toNat 0+1))).getD (which.tmod b.cr).toNat 0)]))] (ap (rc_at (q:=PV.own 1 (List.map I (fineGot b s (la.set (which.tmod b.cr).toNat (la.getD (which.tmod b.cr).toNat 0+1))))) (xs:=List.map I (fineGot b s (la.set (which.tmod b.cr).toNat (la.getD (which.tmod b.cr).toNat 0+1)))) (x:=I ((fineGot b s (la.set (which.tmod b.cr).toNat (la.getD (which.tmod b.cr).toNat 0+1))).getD (which.tmod b.cr).toNat 0)) rfl (getm (0) (by omega)):readCells 22 (PV.own 1 (List.map I (fineGot b s (la.set (which.tmod b.cr).toNat (la.getD (which.tmod b.cr).toNat 0+1))))) [] (which.tmod b.cr).toNat 0 1=some (false,[I ((fineGot b s (la.set (which.tmod b.cr).toNat (la.getD (which.tmod b.cr).toNat 0+1))).getD (which.tmod b.cr).toNat 0)])) an) (S_go 2 (S_a [(0,.ob),(1,.ob),(1,.n ((which.tmod b.cr).toNat))] (ap ((by exact dec_of (by omega)):decide (0≤which.tmod b.cr)=true) (ap ((by exact dec_of (by simp only [List.length_map,List.length_set,List.length_append,List.length_cons,List.length_nil]<;>omega)):decide ((which.tmod b.cr).toNat<(List.map I (fineGot b s la)).length)=true) (ap ((by simp):some (0+(which.tmod b.cr).toNat)=some (which.tmod b.cr).toNat) an))) (S_a [(0,.cs false ([I ((fineGot b s la).getD (which.tmod b.cr).toNat 0)]))] (ap (rc_at (q:=PV.own 1 (List.map I (fineGot b s la))) (xs:=List.map I (fineGot b s la)) (x:=I ((fineGot b s la).getD (which.tmod b.cr).toNat 0)) rfl (getm (0) (by omega)):readCells 14 (PV.own 1 (List.map I (fineGot b s la))) [] (which.tmod b.cr).toNat 0 1=some (false,[I ((fineGot b s la).getD (which.tmod b.cr).toNat 0)])) an) (S_go 3 (S_decT 194 ((fineGot b s (la.set (which.tmod b.cr).toNat (la.getD (which.tmod b.cr).toNat 0+1))).getD (which.tmod b.cr).toNat 0≤(fineGot b s la).getD (which.tmod b.cr).toNat 0) (by omega) (S_go 4 (S_decT 198 (sm=0) (by omega) (S_a [(4,.ret (PV.bool true) ([]))] (ap (f16) an) (S_go 2 (S_end (V_ret (E_a [] an (PV.bool true) ([]) rfl rfl))))))))))))))))))))))))))))))))))))))))))))))))))))))))))
  · have g1:=ringA_ok ha
    have g2:=ringA_ok g1
    have u1:=strokeN_bd mins a t 20
    have u2:=strokeN_bd mins (ringA mins a) (ringT mins a t) 1
    have u3:=Int.mul_nonneg u1.1 u2.1
    clear h1 h2 h3 hw ha1 ha2 hbl
    have u4:strokeN mins a t 20*strokeN mins (ringA mins a) (ringT mins a t) 1≤20*1:=Int.mul_le_mul (by omega) (by omega) (by omega) (by omega)
    refine V_seq (V_region (S_go 1 (S_end (V_seq (V_decT ((↑c:Int)<b.cr) (by omega) (V_skip (V_seq (V_block 1 (V_region (S_go 2 (S_a [(6,.ret (I (strokeN mins a t 20)) ([bellV mins (ringA mins a) (ringT mins a t)]))] (ap (f24 (mins) (a) (t) (20) (by omega) (by omega)) an) (S_go 1 (S_a [(6,.ret (I (strokeN mins (ringA mins a) (ringT mins a t) 1)) ([bellV mins (ringA mins (ringA mins a)) (ringT mins (ringA mins a) (ringT mins a t))]))] (ap (f24 (mins) (ringA mins a) (ringT mins a t) (1) (by omega) (by omega)) an) (S_a [(1,.v (I (strokeN mins a t 20*strokeN mins (ringA mins a) (ringT mins a t) 1)))] (ap ((wrapE rfl (by omega)):I (IntKind.i64.wrap (strokeN mins a t 20*strokeN mins (ringA mins a) (ringT mins a t) 1))=I (strokeN mins a t 20*strokeN mins (ringA mins a) (ringT mins a t) 1)) an) (S_go 1 (S_a [(4,.ob),(0,.ob),(0,.ob),(2,.v (PV.own 1 (List.map I (la++[strokeN mins a t 20*strokeN mins (ringA mins a) (ringT mins a t) 1]))))] (ap ((by exact ble_of (by simp only [List.length_map,List.length_set,List.length_append,List.length_cons,List.length_nil,limit]<;>omega)):(0+(List.map I la).length).ble (List.map I la).length=true) (ap ((by exact ble_of (by simp only [List.length_map,List.length_set,List.length_append,List.length_cons,List.length_nil,limit]<;>omega)):((List.map I la).length + [I (strokeN mins a t 20*strokeN mins (ringA mins a) (ringT mins a t) 1)].length).ble limit=true) (ap ((by exact beq_of (by simp<;>omega)):(0+(List.map I la).length).beq (List.map I la).length=true) (ap ((by simp):PV.own 1 (List.map I la++[I (strokeN mins a t 20*strokeN mins (ringA mins a) (ringT mins a t) 1)])=PV.own 1 (List.map I (la++[strokeN mins a t 20*strokeN mins (ringA mins a) (ringT mins a t) 1]))) an)))) (S_go 1 (S_end (V_region (S_a [(1,.v (I (↑(c+1):Int)))] (ap ((wrapE (by omega) (by omega)):I (IntKind.i64.wrap ((↑c:Int)+1))=I (↑(c+1):Int)) an) (S_go 1 (S_end ?_))))))))))))))))))))))
    exact ⟨(c+1,la++[strokeN mins a t 20*strokeN mins (ringA mins a) (ringT mins a t) 1],ringA mins (ringA mins a),ringT mins (ringA mins a) (ringT mins a t)),⟨by omega,by simp [hla],fun x hx=>by
      rcases List.mem_append.1 hx with hx | hx
      · exact hlr x hx
      · rw [List.mem_singleton] at hx;subst hx;omega,g2⟩,by simp only;omega,by kernel_rfl,by kernel_rfl⟩
end Go.Eng
set_option maxRecDepth 10000
set_option maxHeartbeats 4000000
namespace Go.Eng
open Go Go.Proofs
section
variable [Yo]
omit [Yo] in
theorem fees_bd {b:Dk} {l:List Int} (hs:ShareOk b l):∀ x∈feesL b l,0≤x∧x≤1000000:=fun x hx=>by
  have hg:=box_good hs.box
  have hsl:=hs.len
  have hbl:=hg.len
  have e:feesL b l=(addF (feesOf b) l l.length).take b.cr.toNat:=by simp only [feesL,share_err hs,if_true]
  rw [e] at hx
  exact addF_in (feesOf_bd hg) (n:=l.length) (by omega) x (List.mem_of_mem_take hx)
end
end Go.Eng
namespace Go.Eng
open Go
theorem perm_sum {l m:List Int} (h:l.Perm m):l.sum=m.sum:=by
  induction h with
  | nil=>rfl
  | cons x _ ih=>simp only [List.sum_cons,ih]
  | swap x y l=>simp only [List.sum_cons];omega
  | trans _ _ h1 h2=>exact h1.trans h2
theorem costs_perm {b:Dk} {l m:List Int} (h:l.Perm m):costs b l=costs b m:=perm_sum (h.map _)
def sortR (n:Nat) (l:List Int):List Int:=((List.range n).filter fun (r:Nat)=>l.any fun x=>decide (x=(r:Int))).map Int.ofNat
theorem sortR_incr (n:Nat) (l:List Int):(sortR n l).Pairwise (· < ·):=by
  unfold sortR
  rw [List.pairwise_map]
  refine List.Pairwise.imp (fun {a b} h=>?_) (List.Pairwise.filter _ List.pairwise_lt_range)
  exact Int.ofNat_lt.2 h
theorem sortR_mem {n:Nat} {l:List Int} (hr:∀ x∈l,0≤x∧x<(n:Int)) (x:Int):x∈sortR n l↔x∈l:=by
  simp only [sortR,List.mem_map,List.mem_filter,List.mem_range,List.any_eq_true,decide_eq_true_eq]
  constructor
  · rintro ⟨r,⟨_,y,hy,rfl⟩,rfl⟩;exact hy
  · intro h
    have:=hr x h
    exact ⟨x.toNat,⟨by omega,x,h,by omega⟩,by simp only [Int.ofNat_eq_natCast];omega⟩
theorem incr_nodup {l:List Int} (h:l.Pairwise (· < ·)):l.Nodup:=h.imp fun {a b} h=>by omega
theorem sortR_perm {n:Nat} {l:List Int} (hn:l.Nodup) (hr:∀ x∈l,0≤x∧x<(n:Int)):(sortR n l).Perm l :=
  (List.perm_ext_iff_of_nodup (incr_nodup (sortR_incr n l)) hn).2 (sortR_mem hr)
theorem got_props {b:Dk} (hg:Good b):(gotG b).2=bndS b (gotG b).1∧(gotG b).1.Pairwise (· < ·)∧(∀ x∈(gotG b).1,0≤x∧x≤(b.rs.length:Int)-1)∧(gotG b).1.length≤b.rs.length:=by
  have hb:=go_best (w:=bndS b) (bnd_nil b) b.rs.length
  have e:gotG b=goG (bndS b) (bitsAll b.rs.length):=by simp only [gotG,good_box hg,if_true]
  rw [← e] at hb
  obtain ⟨q,hq,e2⟩:=List.mem_map.1 hb.mem
  refine ⟨hb.val,?_,?_,?_⟩
  · rw [← e2];unfold bitsL
    rw [List.pairwise_map]
    refine List.Pairwise.imp (fun {a b} h=>?_) (List.Pairwise.filter _ List.pairwise_lt_range)
    exact Int.ofNat_lt.2 h
  · rw [← e2];exact bits_bd
  · rw [← e2];exact bits_len
def menSum (b:Dk) (l s:List Int) (k:Nat):Int:=((List.range 4).map fun c:Nat=>if manB b l c then earnN b s (c:Int) k else 0).sum
def inSum (b:Dk) (l:List Int) (k:Nat):Int:=costs b (sortR k l)
theorem sortR_next {k:Nat} {l:List Int}:sortR (k+1) l=sortR k l++(if l.any fun x=>decide (x=(k:Int)) then [(k:Int)] else []):=by
  simp only [sortR,List.range_succ,List.filter_append,List.map_append,List.filter_cons,List.filter_nil]
  split<;>rfl
theorem inSum_next {b:Dk} {k:Nat} {l:List Int}:inSum b l (k+1)=inSum b l k+(if l.any fun x=>decide (x=(k:Int)) then (feesOf b).getD k 0 else 0):=by
  unfold inSum costs
  rw [sortR_next,List.map_append,List.sum_append]
  split<;>simp
theorem menSum_next {b:Dk} {l s:List Int} {k:Nat} (h:0≤s.getD k 0∧s.getD k 0<4):menSum b l s (k+1)=menSum b l s k+(if manB b l (s.getD k 0).toNat then feeOf b (rnd b k) else 0):=by
  simp only [menSum,earnN,show List.range 4=[0,1,2,3] from rfl,List.map_cons,List.map_nil,List.sum_cons,List.sum_nil]
  generalize s.getD k 0=v at *
  obtain rfl | rfl | rfl | rfl:v=0∨v=1∨v=2∨v=3:=by omega
  · show _=_+(if manB b l 0 then _ else _)
    simp only [show ((0:Nat):Int)=0 from rfl,show ((1:Nat):Int)=1 from rfl,show ((2:Nat):Int)=2 from rfl,show ((3:Nat):Int)=3 from rfl]
    simp only [show ((0:Int)=1)=False by simp,show ((0:Int)=2)=False by simp,show ((0:Int)=3)=False by simp,if_false,if_true]
    cases h:manB b l 0<;>simp only [h,if_true,Bool.false_eq_true,if_false]<;>omega
  · show _=_+(if manB b l 1 then _ else _)
    simp only [show ((0:Nat):Int)=0 from rfl,show ((1:Nat):Int)=1 from rfl,show ((2:Nat):Int)=2 from rfl,show ((3:Nat):Int)=3 from rfl]
    simp only [show ((1:Int)=0)=False by simp,show ((1:Int)=2)=False by simp,show ((1:Int)=3)=False by simp,if_false,if_true]
    cases h:manB b l 1<;>simp only [h,if_true,Bool.false_eq_true,if_false]<;>omega
  · show _=_+(if manB b l 2 then _ else _)
    simp only [show ((0:Nat):Int)=0 from rfl,show ((1:Nat):Int)=1 from rfl,show ((2:Nat):Int)=2 from rfl,show ((3:Nat):Int)=3 from rfl]
    simp only [show ((2:Int)=0)=False by simp,show ((2:Int)=1)=False by simp,show ((2:Int)=3)=False by simp,if_false,if_true]
    cases h:manB b l 2<;>simp only [h,if_true,Bool.false_eq_true,if_false]<;>omega
  · show _=_+(if manB b l 3 then _ else _)
    simp only [show ((0:Nat):Int)=0 from rfl,show ((1:Nat):Int)=1 from rfl,show ((2:Nat):Int)=2 from rfl,show ((3:Nat):Int)=3 from rfl]
    simp only [show ((3:Int)=0)=False by simp,show ((3:Int)=1)=False by simp,show ((3:Int)=2)=False by simp,if_false,if_true]
    cases h:manB b l 3<;>simp only [h,if_true,Bool.false_eq_true,if_false]<;>omega
theorem in_le_men {b:Dk} {l s:List Int} (hs:ShareOk b s):∀ k,k≤s.length→inSum b l k≤menSum b l s k
  | 0,_=>by
    have:sortR 0 l=[]:=rfl
    simp [inSum,this,menSum,earnN,costs,show List.range 4=[0,1,2,3] from rfl]
  | k + 1,hk=>by
    have ih:=in_le_men (l:=l) hs k (by omega)
    have hg:=box_good hs.box
    have hlt:=getD_all (share_lt hs) k (by omega)
    rw [inSum_next,menSum_next hlt]
    have hsl:=hs.len
    have hf:=feesOf_at (b:=b) (i:=k) (by omega)
    have hfb:=feeOf_bd hg (rnd_num hg (i:=k) (by omega))
    rw [hf]
    have e:feeOf b (rnd b k)=feeOf b (b.rs.getD k default):=rfl
    rw [e]
    by_cases hin:(l.any fun x=>decide (x=(k:Int)))=true
    · have hm:manB b l (s.getD k 0).toNat=true:=by
        simp only [List.any_eq_true,decide_eq_true_eq] at hin
        obtain ⟨x,hx,rfl⟩:=hin
        simp only [manB,List.any_eq_true]
        refine ⟨_,hx,?_⟩
        rw [Int.toNat_of_nonneg hlt.1]
        exact mayAll_get hs.may (by omega)
      rw [if_pos hin,if_pos hm];omega
    · rw [if_neg hin]
      split<;>omega
theorem someone {b:Dk} {l s:List Int} (hs:ShareOk b s) (hn:l.Nodup) (hr:∀ x∈l,0≤x∧x<(b.rs.length:Int)) (h0:¬ l=[]):∃ c:Nat,c<4∧manB b l c=true∧bndS b l≤earnN b s (c:Int) s.length:=by
  have hg:=box_good hs.box
  have hsl:=hs.len
  have h1:=in_le_men (l:=l) hs s.length (Nat.le_refl _)
  have hp:=sortR_perm (n:=s.length) hn (by rw [hsl];exact hr)
  have h2:inSum b l s.length=costs b l:=costs_perm hp
  rw [h2] at h1
  have hcb:=costs_bd hg (l:=l)
  apply Classical.byContradiction
  intro hc
  have hall:∀ c:Nat,c<4→manB b l c=true→earnN b s (c:Int) s.length≤bndS b l-1:=fun c hc4 hcm=>by
    apply Classical.byContradiction
    intro h
    exact hc ⟨c,hc4,hcm,by omega⟩
  have h3:menSum b l s s.length≤(menN b l:Nat)*(bndS b l-1):=by
    simp only [menSum,menN,show List.range 4=[0,1,2,3] from rfl,List.map_cons,List.map_nil,List.sum_cons,List.sum_nil]
    have a0:=hall 0 (by omega)
    have a1:=hall 1 (by omega)
    have a2:=hall 2 (by omega)
    have a3:=hall 3 (by omega)
    generalize bndS b l-1=B at *
    generalize earnN b s ((0:Nat):Int) s.length=x0 at *
    generalize earnN b s ((1:Nat):Int) s.length=x1 at *
    generalize earnN b s ((2:Nat):Int) s.length=x2 at *
    generalize earnN b s ((3:Nat):Int) s.length=x3 at *
    cases e0:manB b l 0<;>cases e1:manB b l 1<;>cases e2:manB b l 2<;>cases e3:manB b l 3 <;>
      simp only [e0,e1,e2,e3,List.filter_cons,List.filter_nil,if_true,List.length_cons,List.length_nil,forall_const,Bool.false_eq_true,if_false] at * <;> omega
  have h4:menN b l≠0:=by
    cases l with
    | nil=>exact (h0 rfl).elim
    | cons x l =>
      have hx:=hr x (by simp)
      have hmay:=good_may hg (i:=x.toNat) (by omega)
      have hm0:=getD_all hmay.2.1 0 (by omega)
      have hcr:=hg.cr
      have hm:manB b (x::l) ((b.rs.getD x.toNat default).may.getD 0 0).toNat=true:=by
        simp only [manB,List.any_eq_true]
        refine ⟨x,by simp,?_⟩
        rw [Int.toNat_of_nonneg hm0.1]
        simp only [has,List.any_eq_true,decide_eq_true_eq]
        exact ⟨_,by rw [getD_lt (show 0<(b.rs.getD x.toNat default).may.length by omega)];exact List.getElem_mem _,rfl⟩
      intro hz
      have:((b.rs.getD x.toNat default).may.getD 0 0).toNat∈(List.range 4).filter (manB b (x::l)):=List.mem_filter.2 ⟨List.mem_range.2 (by omega),hm⟩
      rw [List.eq_nil_of_length_eq_zero hz] at this
      cases this
  have h5:(menN b l:Nat)*(bndS b l-1)<costs b l:=by
    have hm4:=menN_le b l
    have hb:bndS b l=(costs b l+(menN b l:Nat)-1).tdiv (menN b l:Nat):=by unfold bndS;rw [if_neg h4]
    rw [hb]
    generalize costs b l=s at *
    generalize menN b l=m at *
    rw [Int.tdiv_eq_ediv_of_nonneg (by omega)]
    have:m=1∨m=2∨m=3∨m=4:=by omega
    rcases this with rfl | rfl | rfl | rfl<;>omega
  omega
end Go.Eng
