/- The share with the least greatest fee, and that with the least spread, with both numbers, or the error, are as specified, for every box. -/
import Derived.Test.YtpmbobnmpehobaaPe
import Derived.Test.YtpmbobnmpehobaaPd
set_option linter.unusedVariables false
set_option linter.unusedSimpArgs false
set_option linter.unusedSectionVars false
set_option maxRecDepth 10000
set_option maxHeartbeats 4000000
namespace Go.Eng
open Go Go.Proofs
theorem has_t {l:List Int} {c:Int} {i:Nat} (h:i<l.length) (hc:l.getD i 0=c):has l c=true:=by
  rw [getD_lt h] at hc
  exact List.any_eq_true.2 ⟨l[i],List.getElem_mem h,by simp [hc]⟩
theorem has_f {l:List Int} {c:Int} (h:∀ i,i<l.length→¬ l.getD i 0=c):has l c=false:=by
  refine List.any_eq_false.2 fun x hx=>?_
  obtain ⟨i,hi,rfl⟩:=List.getElem_of_mem hx
  have:=h i hi
  rw [getD_lt hi] at this
  simp only [decide_eq_true_eq];exact fun hc=>this hc.symm
def earnN (b:Dk) (l:List Int) (c:Int):Nat→Int
  | 0=>0
  | n+1=>if l.getD n 0=c then earnN b l c n+feeOf b (rnd b n) else earnN b l c n
theorem earnN_bd {b:Dk} (hg:Good b) {l:List Int} {c:Int}:∀ n:Nat,-1000000*(n:Int)≤earnN b l c n∧earnN b l c n≤1000000*n
  | 0=>by simp [earnN]
  | n + 1=>by
    have ih:=earnN_bd hg (l:=l) (c:=c) n
    have hf:0≤feeOf b (rnd b n)∧feeOf b (rnd b n)≤1000000:=by
      rcases Nat.lt_or_ge n b.rs.length with h | h
      · have:=feeOf_bd hg (rnd_num hg h);unfold rnd;omega
      · have e:rnd b n=default:=by unfold rnd;rw [List.getD_eq_getElem?_getD,List.getElem?_eq_none h];rfl
        rw [e];show 0≤(0:Int)*_∧(0:Int)*_≤_;simp
    simp only [earnN];split<;>omega
theorem addF_earn {b:Dk} {l:List Int} (hl:∀ x∈l,0≤x∧x<4):∀ (n:Nat),n≤l.length→n≤b.rs.length→∀ c:Nat,c<4→(addF (feesOf b) l n).getD c 0=earnN b l c n
  | 0,_,_,c,hc=>by
    match c,hc with
    | 0,_=>rfl
    | 1,_=>rfl
    | 2,_=>rfl
    | 3,_=>rfl
  | n + 1,h1,h2,c,hc=>by
    have ih:=addF_earn (b:=b) hl n (by omega) (by omega)
    have hx:=getD_all hl n (by omega)
    rw [addF,getD_set,addF_len,earnN,feesOf_at (by omega:n<b.rs.length)]
    by_cases he:l.getD n 0=c
    · rw [if_pos ⟨by omega,hc⟩,if_pos he,ih _ (by omega)]
      have:((l.getD n 0).toNat:Int)=c:=by omega
      rw [this];rfl
    · rw [if_neg (by omega),if_neg he,ih c hc]
section
variable [Yo]
theorem f117 (b:Dk) (r:Nat) (hr:r<b.rs.length) (hg:Good b):FG 117 [boxV b,I r] (I (feeOf b (rnd b r))):=by
  refine gives_ofX Try.f117 ?_
  have h1:=hg.wd
  have h2:=hg.st
  have h3:=rnd_num hg hr
  have h4:0≤(b.rs.getD r default).s*b.st∧(b.rs.getD r default).s*b.st≤5*20:=⟨Int.mul_nonneg (by omega) (by omega),Int.mul_le_mul (by omega) (by omega) (by omega) (by omega)⟩
  have h5:0≤(b.rs.getD r default).s*(b.rs.getD r default).w∧(b.rs.getD r default).s*(b.rs.getD r default).w≤5*9:=⟨Int.mul_nonneg (by omega) (by omega),Int.mul_le_mul (by omega) (by omega) (by omega) (by omega)⟩
  have h6:0≤(b.rs.getD r default).s*(b.rs.getD r default).w*b.wd∧(b.rs.getD r default).s*(b.rs.getD r default).w*b.wd≤5*9*20:=⟨Int.mul_nonneg (by omega) (by omega),Int.mul_le_mul (by omega) (by omega) (by omega) (by omega)⟩
  refine V_seq (V_region (S_go 2 (S_end (V_seq (V_region (S_go 3 (S_a [(2,.v (PV.agg [I (b.rs.getD r default).w,I (b.rs.getD r default).s,PV.sl (List.map I (b.rs.getD r default).may)]))] (ap (getm (default) (by omega):(List.map rndV b.rs)[r]? = some (PV.agg [I (b.rs.getD r default).w,I (b.rs.getD r default).s,PV.sl (List.map I (b.rs.getD r default).may)])) an) (S_go 3 (S_end (V_seq (V_region (S_go 4 (S_a [(1,.v (I ((b.rs.getD r default).s*b.st)))] (ap ((wrapE rfl (by omega)):I (IntKind.i64.wrap ((b.rs.getD r default).s*b.st))=I ((b.rs.getD r default).s*b.st)) an) (S_go 4 (S_a [(1,.v (I ((b.rs.getD r default).s*(b.rs.getD r default).w)))] (ap ((wrapE rfl (by omega)):I (IntKind.i64.wrap ((b.rs.getD r default).s*(b.rs.getD r default).w))=I ((b.rs.getD r default).s*(b.rs.getD r default).w)) an) (S_go 2 (S_a [(1,.v (I ((b.rs.getD r default).s*(b.rs.getD r default).w*b.wd)))] (ap ((wrapE rfl (by omega)):I (IntKind.i64.wrap ((b.rs.getD r default).s*(b.rs.getD r default).w*b.wd))=I ((b.rs.getD r default).s*(b.rs.getD r default).w*b.wd)) an) (S_a [(1,.v (I ((b.rs.getD r default).s*b.st+(b.rs.getD r default).s*(b.rs.getD r default).w*b.wd)))] (ap ((wrapE rfl (by omega)):I (IntKind.i64.wrap ((b.rs.getD r default).s*b.st+(b.rs.getD r default).s*(b.rs.getD r default).w*b.wd))=I ((b.rs.getD r default).s*b.st+(b.rs.getD r default).s*(b.rs.getD r default).w*b.wd)) an) (S_go 1 (S_end (V_ret (E_a [] an (I ((b.rs.getD r default).s*b.st+(b.rs.getD r default).s*(b.rs.getD r default).w*b.wd)) ([]) ?_ rfl))))))))))))))))))))))
  show I _=I _
  congr 1
  simp only [feeOf,rnd,Int.mul_add,Int.mul_assoc]
theorem f95 (b:Dk) (c:Int) (r:Nat) (hr:r<b.rs.length) (hb:Small b):FG 95 [boxV b,I c,I r] (.bool (has (rnd b r).may c)):=by
  refine gives_ofX Try.f95 ?_
  have hm:(b.rs.getD r default).may.length<4294967296:=hb.2 _ (by rw [getD_lt hr];exact List.getElem_mem _)
  refine V_seq (V_region (S_go 2 (S_end (V_seq (V_region (S_go 3 (S_a [(2,.v (PV.agg [I (b.rs.getD r default).w,I (b.rs.getD r default).s,PV.sl (List.map I (b.rs.getD r default).may)]))] (ap (getm (default) (by omega):(List.map rndV b.rs)[r]? = some (PV.agg [I (b.rs.getD r default).w,I (b.rs.getD r default).s,PV.sl (List.map I (b.rs.getD r default).may)])) an) (S_go 3 (S_end (V_seq (V_seq (V_region (S_go 1 (S_end (V_block 0 ?_)))))))))))))))
  show W _ _ _ _ _ _ _ _
  refine V_loopS (fun i=>i≤(b.rs.getD r default).may.length∧∀ t,t<i→¬ (b.rs.getD r default).may.getD t 0=c) (fun i=>[(8,I (i:Nat))]) (fun i=>(b.rs.getD r default).may.length-i) (0:Nat) ⟨Nat.zero_le _,by simp⟩ fun i ⟨hi,ha⟩=>?_
  refine V_seq (V_seq (V_region (S_go 2 (S_a [(0,.n ((b.rs.getD r default).may.length))] (ap ((by simp):some (List.map I (b.rs.getD r default).may).length=some (b.rs.getD r default).may.length) an) (S_go 1 (S_end (V_dec ((↑i:Int)<(↑(b.rs.getD r default).may.length:Int)) (fun k0=>(V_skip (V_seq (V_block 1 (V_seq (V_region (S_go 2 (S_a [(2,.v (I ((b.rs.getD r default).may.getD i 0)))] (ap (getm (0) (by omega):(List.map I (b.rs.getD r default).may)[i]? = some (I ((b.rs.getD r default).may.getD i 0))) an) (S_go 3 (S_end (V_dec ((b.rs.getD r default).may.getD i 0=c) (fun k1=>(V_seq (V_region (S_go 1 (S_end (V_ret (E_a [] an (PV.bool true) ([]) ?_ rfl))))))) (fun k1=>(V_skip (V_region (S_go 1 (S_a [(1,.v (I (↑(i+1):Int)))] (ap ((wrapE (by omega) (by omega)):I (IntKind.i64.wrap ((↑i:Int)+1))=I (↑(i+1):Int)) an) (S_go 1 (S_end ?_)))))))))))))))))) (fun k0=>(V_exit 0 (V_seq (V_region (S_go 1 (S_end (V_ret (E_a [] an (PV.bool false) ([]) ?_ rfl)))))))))))))))
  · rw [rnd,has_t (i:=i) (by omega) (by assumption)]
  · refine ⟨i+1,⟨by omega,fun t ht=>?_⟩,by omega,by kernel_rfl,by kernel_rfl⟩
    rcases Nat.lt_succ_iff_lt_or_eq.1 ht with h | rfl
    · exact ha t h
    · assumption
  · rw [rnd,has_f fun t ht=>ha t (by omega)]
theorem f96 (b:Dk) (l:List Int) (c:Int) (hg:Good b) (hl:l.length≤b.rs.length):FG 96 [boxV b,ints l,I c] (I (earnN b l c l.length)):=by
  refine gives_ofX Try.f96 ?_
  have hbl:=hg.len
  refine V_seq (V_region (S_go 2 (S_end (V_seq (V_region (S_go 1 (S_end (V_seq (V_seq (V_region (S_go 1 (S_end (V_block 0 ?_)))))))))))))
  refine V_loopS (fun (i,n)=>i≤l.length∧n=earnN b l c i) (fun (i,n)=>[(7,I n),(8,I (i:Nat))]) (fun (i,_)=>l.length-i) ((0:Nat),(0:Int)) ⟨Nat.zero_le _,rfl⟩ fun (i,n) ⟨hi,hn⟩=>?_
  have hb1:=earnN_bd hg (l:=l) (c:=c) i
  rw [← hn] at hb1
  have hfo:i<b.rs.length→0≤feeOf b (rnd b i)∧feeOf b (rnd b i)≤1000:=fun h=>feeOf_bd hg (rnd_num hg h)
  refine V_seq (V_seq (V_region (S_go 2 (S_a [(0,.n (l.length))] (ap ((by simp):some (List.map I l).length=some l.length) an) (S_go 1 (S_end (V_dec ((↑i:Int)<(↑l.length:Int)) (fun k0=>(V_skip (V_seq (V_block 1 (V_seq (V_region (S_go 2 (S_a [(2,.v (I (l.getD i 0)))] (ap (getm (0) (by omega):(List.map I l)[i]? = some (I (l.getD i 0))) an) (S_go 3 (S_end (V_dec (l.getD i 0=c) (fun k1=>(V_region (S_go 3 (S_a [(8,.ret (I (feeOf b (rnd b i))) ([]))] (ap (f117 (b) (i) (by first | omega | (simp<;>omega)) (by omega)) an) (S_a [(1,.v (I (n+feeOf b (rnd b i))))] (ap ((wrapE rfl (by omega)):I (IntKind.i64.wrap (n+feeOf b (rnd b i)))=I (n+feeOf b (rnd b i))) an) (S_go 1 (S_end (V_region (S_go 1 (S_a [(1,.v (I (↑(i+1):Int)))] (ap ((wrapE (by omega) (by omega)):I (IntKind.i64.wrap ((↑i:Int)+1))=I (↑(i+1):Int)) an) (S_go 1 (S_end ?_)))))))))))) (fun k1=>(V_skip (V_region (S_go 1 (S_a [(1,.v (I (↑(i+1):Int)))] (ap ((wrapE (by omega) (by omega)):I (IntKind.i64.wrap ((↑i:Int)+1))=I (↑(i+1):Int)) an) (S_go 1 (S_end ?_)))))))))))))))))) (fun k0=>(V_exit 0 (V_seq (V_region (S_go 2 (S_end (V_ret (E_a [] an (I n) ([]) ?_ rfl)))))))))))))))
  · exact ⟨(i+1,n+feeOf b (rnd b i)),⟨by omega,by rw [earnN,if_pos (by assumption),hn]⟩,by simp only;omega,by kernel_rfl,by kernel_rfl⟩
  · exact ⟨(i+1,n),⟨by omega,by rw [earnN,if_neg (by assumption),hn]⟩,by simp only;omega,by kernel_rfl,by kernel_rfl⟩
  · rw [hn,show i=l.length by omega]
end
end Go.Eng
set_option maxRecDepth 10000
set_option maxHeartbeats 4000000
namespace Go.Eng
open Go Go.Proofs
theorem off_not {n lo hi:Int}:(decide (n<lo)||decide (hi<n)) = !(decide (lo≤n)&&decide (n≤hi)):=by
  by_cases h1:lo≤n<;>by_cases h2:n≤hi<;>simp [h1,h2]<;>omega
theorem all_f {α:Type} {p:α→Bool} {l:List α} {i:Nat} {d:α} (h:i<l.length) (hx:p (l.getD i d)=false):(!l.all p)=true:=by
  rw [getD_lt h] at hx
  simp only [Bool.not_eq_true',List.all_eq_false]
  exact ⟨_,List.getElem_mem h,by simp [hx]⟩
theorem all_t {α:Type} {p:α→Bool} {l:List α} {d:α} (h:∀ i,i<l.length→p (l.getD i d)=true):(!l.all p)=false:=by
  simp only [Bool.not_eq_false',List.all_eq_true]
  intro x hx
  obtain ⟨i,hi,rfl⟩:=List.getElem_of_mem hx
  have:=h i hi
  rwa [getD_lt hi] at this
theorem not_t {a:Bool} (h:(!a)=true):a=false:=by simpa using h
theorem not_f {a:Bool} (h:(!a)=false):a=true:=by simpa using h
section
variable [Yo]
theorem f59 (b:Dk) (hb:Small b):FG 59 [boxV b] (I (boxErr b)):=by
  refine gives_ofX Try.f59 ?_
  have hb1:=hb.1
  refine V_seq (V_region (S_go 2 (S_end (V_seq (V_seq (V_region (S_go 2 (S_a [(10,.ret (PV.bool (decide (b.cr<1)||decide (4<b.cr))) ([]))] (ap (f84 (b.cr) (1) (4)) an) (S_go 1 (S_case 11 (decide (b.cr<1)||decide (4<b.cr)) (fun k0=>(S_go 5 (S_end (V_true (V_seq (V_region (S_go 1 (S_end (V_ret (E_a [] an (I 2) ([]) ?_ rfl)))))))))) (fun k0=>(S_go 2 (S_a [(0,.n (b.rs.length))] (ap ((by simp):some (List.map rndV b.rs).length=some b.rs.length) an) (S_go 2 (S_end (V_dec ((↑b.rs.length:Int)>7) (fun k1=>(V_seq (V_region (S_go 1 (S_end (V_ret (E_a [] an (I 2) ([]) ?_ rfl))))))) (fun k1=>(V_skip (V_seq (V_seq (V_region (S_go 2 (S_a [(10,.ret (PV.bool (decide (b.wd<0)||decide (20<b.wd))) ([]))] (ap (f84 (b.wd) (0) (20)) an) (S_go 1 (S_case 20 (decide (b.wd<0)||decide (20<b.wd)) (fun k2=>(S_go 9 (S_end (V_true (V_seq (V_region (S_go 1 (S_end (V_ret (E_a [] an (I 3) ([]) ?_ rfl)))))))))) (fun k2=>(S_go 2 (S_a [(10,.ret (PV.bool (decide (b.st<0)||decide (20<b.st))) ([]))] (ap (f84 (b.st) (0) (20)) an) (S_go 2 (S_case 25 (decide (b.st<0)||decide (20<b.st)) (fun k3=>(S_go 4 (S_end (V_true (V_seq (V_region (S_go 1 (S_end (V_ret (E_a [] an (I 3) ([]) ?_ rfl)))))))))) (fun k3=>(S_go 2 (S_a [(10,.ret (PV.bool (decide (b.fn<0)||decide (20<b.fn))) ([]))] (ap (f84 (b.fn) (0) (20)) an) (S_go 1 (S_end (V_if (decide (b.fn<0)||decide (20<b.fn)) (fun k4=>(V_seq (V_region (S_go 1 (S_end (V_ret (E_a [] an (I 3) ([]) ?_ rfl))))))) (fun k4=>(V_skip (V_seq (V_seq (V_region (S_go 1 (S_end (V_block 0 ?_))))))))))))))))))))))))))))))))))))))))))))
  all_goals rw [off_not] at k0
  · simp only [boxErr,k0,if_true]
  · simp only [boxErr,k0,k1,if_true];rfl
  all_goals rw [off_not] at k2
  · simp only [boxErr,k0,k1,k2,if_true,if_false];rfl
  all_goals rw [off_not] at k3
  · simp only [boxErr,k0,k1,k2,k3,if_true,if_false];rfl
  all_goals rw [off_not] at k4
  · simp only [boxErr,k0,k1,k2,k3,k4,if_true,if_false];rfl
  have hcr:=in_and k0
  refine V_loopS (fun i=>i≤b.rs.length∧∀ t,t<i→rndNum (b.rs.getD t default)=true) (fun i=>[(3,I (i:Nat))]) (fun i=>b.rs.length-i) (0:Nat) ⟨Nat.zero_le _,by simp⟩ fun i ⟨hi,ha⟩=>?_
  refine V_seq (V_seq (V_region (S_go 3 (S_a [(0,.n (b.rs.length))] (ap ((by simp):some (List.map rndV b.rs).length=some b.rs.length) an) (S_go 1 (S_end (V_dec ((↑i:Int)<(↑b.rs.length:Int)) (fun k5=>(V_skip (V_seq (V_block 1 (V_seq (V_region (S_go 3 (S_a [(2,.v (PV.agg [I (b.rs.getD i default).w,I (b.rs.getD i default).s,PV.sl (List.map I (b.rs.getD i default).may)]))] (ap (getm (default) (by omega):(List.map rndV b.rs)[i]? = some (PV.agg [I (b.rs.getD i default).w,I (b.rs.getD i default).s,PV.sl (List.map I (b.rs.getD i default).may)])) an) (S_go 2 (S_a [(10,.ret (PV.bool (decide ((b.rs.getD i default).w<1)||decide (9<(b.rs.getD i default).w))) ([]))] (ap (f84 ((b.rs.getD i default).w) (1) (9)) an) (S_go 1 (S_case 44 (decide ((b.rs.getD i default).w<1)||decide (9<(b.rs.getD i default).w)) (fun k6=>(S_go 8 (S_end (V_true (V_seq (V_region (S_go 1 (S_end (V_ret (E_a [] an (I 3) ([]) ?_ rfl)))))))))) (fun k6=>(S_go 3 (S_a [(2,.v (PV.agg [I (b.rs.getD i default).w,I (b.rs.getD i default).s,PV.sl (List.map I (b.rs.getD i default).may)]))] (ap (getm (default) (by omega):(List.map rndV b.rs)[i]? = some (PV.agg [I (b.rs.getD i default).w,I (b.rs.getD i default).s,PV.sl (List.map I (b.rs.getD i default).may)])) an) (S_go 2 (S_a [(10,.ret (PV.bool (decide ((b.rs.getD i default).s<1)||decide (5<(b.rs.getD i default).s))) ([]))] (ap (f84 ((b.rs.getD i default).s) (1) (5)) an) (S_go 1 (S_end (V_if (decide ((b.rs.getD i default).s<1)||decide (5<(b.rs.getD i default).s)) (fun k7=>(V_seq (V_region (S_go 1 (S_end (V_ret (E_a [] an (I 3) ([]) ?_ rfl))))))) (fun k7=>(V_skip (V_region (S_go 1 (S_a [(1,.v (I (↑(i+1):Int)))] (ap ((wrapE (by omega) (by omega)):I (IntKind.i64.wrap ((↑i:Int)+1))=I (↑(i+1):Int)) an) (S_go 1 (S_end ?_))))))))))))))))))))))))))) (fun k5=>(V_exit 0 (V_seq (V_seq (V_region (S_go 1 (S_end (V_block 2 ?_)))))))))))))))
  · rw [off_not] at k6
    have hx:rndNum (b.rs.getD i default)=false:=by simp only [rndNum,not_t k6,Bool.false_and]
    simp only [boxErr,k0,k1,k2,k3,k4,all_f (by omega) hx,if_true,if_false];rfl
  · rw [off_not] at k6 k7
    have hx:rndNum (b.rs.getD i default)=false:=by simp only [rndNum,not_t k7,Bool.and_false]
    simp only [boxErr,k0,k1,k2,k3,k4,all_f (by omega) hx,if_true,if_false];rfl
  · rw [off_not] at k6 k7
    have hx:rndNum (b.rs.getD i default)=true:=by simp only [rndNum,not_f k6,not_f k7,Bool.true_and]
    refine ⟨i+1,⟨by omega,fun t ht=>?_⟩,by omega,by kernel_rfl,by kernel_rfl⟩
    rcases Nat.lt_succ_iff_lt_or_eq.1 ht with h | rfl
    · exact ha t h
    · exact hx
  have k9:=all_t (p:=rndNum) (l:=b.rs) (d:=default) fun t ht=>ha t (by omega)
  have e:boxErr b=rndsErr b.cr b.rs:=by simp only [boxErr,k0,k1,k2,k3,k4,k9,if_false];rfl
  rw [e]
  refine V_loopS (fun i=>i≤b.rs.length∧rndsErr b.cr b.rs=rndsErr b.cr (b.rs.drop i)) (fun i=>[(4,I (i:Nat))]) (fun i=>b.rs.length-i) (0:Nat) ⟨Nat.zero_le _,rfl⟩ fun i ⟨hi,hr⟩=>?_
  have hm:i<b.rs.length→(b.rs.getD i default).may.length<4294967296:=fun h=>hb.2 _ (by rw [getD_lt h];exact List.getElem_mem _)
  have hra:i<b.rs.length→rndsErr b.cr b.rs=if rndErr b.cr (b.rs.getD i default)=0 then rndsErr b.cr (b.rs.drop (i+1)) else rndErr b.cr (b.rs.getD i default):=fun h=>by rw [hr,rndsErr_at h]
  refine V_seq (V_seq (V_region (S_go 3 (S_a [(0,.n (b.rs.length))] (ap ((by simp):some (List.map rndV b.rs).length=some b.rs.length) an) (S_go 1 (S_end (V_dec ((↑i:Int)<(↑b.rs.length:Int)) (fun k7=>(V_skip (V_seq (V_block 3 (V_seq (V_region (S_go 3 (S_a [(2,.v (PV.agg [I (b.rs.getD i default).w,I (b.rs.getD i default).s,PV.sl (List.map I (b.rs.getD i default).may)]))] (ap (getm (default) (by omega):(List.map rndV b.rs)[i]? = some (PV.agg [I (b.rs.getD i default).w,I (b.rs.getD i default).s,PV.sl (List.map I (b.rs.getD i default).may)])) an) (S_go 3 (S_end (V_seq (V_seq (V_region (S_go 1 (S_a [(0,.n ((b.rs.getD i default).may.length))] (ap ((by simp):some (List.map I (b.rs.getD i default).may).length=some (b.rs.getD i default).may.length) an) (S_go 1 (S_end (V_dec ((↑(b.rs.getD i default).may.length:Int)=0) (fun k8=>(V_seq (V_region (S_go 1 (S_end (V_ret (E_a [] an (I 6) ([]) ?_ rfl))))))) (fun k8=>(V_skip (V_seq (V_seq (V_region (S_go 1 (S_end (V_block 4 ?_)))))))))))))))))))))))))) (fun k7=>(V_exit 2 (V_seq (V_region (S_go 1 (S_end (V_ret (E_a [] an (I 0) ([]) ?_ rfl)))))))))))))))
  · have e1:(b.rs.getD i default).may.length=0:=by omega
    have e2:rndErr b.cr (b.rs.getD i default)=6:=by simp only [rndErr,e1,if_true]
    rw [hra (by omega),e2];rfl
  · have e1:¬ (b.rs.getD i default).may.length=0:=by omega
    refine V_loopS (fun j=>j≤(b.rs.getD i default).may.length∧∀ t,t<j→0≤(b.rs.getD i default).may.getD t 0∧(b.rs.getD i default).may.getD t 0≤b.cr-1) (fun j=>[(6,I (j:Nat))]) (fun j=>(b.rs.getD i default).may.length-j) (0:Nat) ⟨Nat.zero_le _,by simp⟩ fun j ⟨hj,hja⟩=>?_
    refine V_seq (V_seq (V_region (S_go 2 (S_a [(0,.n ((b.rs.getD i default).may.length))] (ap ((by simp):some (List.map I (b.rs.getD i default).may).length=some (b.rs.getD i default).may.length) an) (S_go 1 (S_end (V_dec ((↑j:Int)<(↑(b.rs.getD i default).may.length:Int)) (fun k9=>(V_skip (V_seq (V_block 5 (V_seq (V_region (S_go 2 (S_a [(2,.v (I ((b.rs.getD i default).may.getD j 0)))] (ap (getm (0) (by omega):(List.map I (b.rs.getD i default).may)[j]? = some (I ((b.rs.getD i default).may.getD j 0))) an) (S_go 3 (S_a [(1,.v (I (b.cr-1)))] (ap ((wrapE rfl (by omega)):I (IntKind.i64.wrap (b.cr-1))=I (b.cr-1)) an) (S_a [(10,.ret (PV.bool (decide ((b.rs.getD i default).may.getD j 0<0)||decide (b.cr-1<(b.rs.getD i default).may.getD j 0))) ([]))] (ap (f84 ((b.rs.getD i default).may.getD j 0) (0) (b.cr-1)) an) (S_end (V_if (decide ((b.rs.getD i default).may.getD j 0<0)||decide (b.cr-1<(b.rs.getD i default).may.getD j 0)) (fun k10=>(V_seq (V_region (S_go 1 (S_end (V_ret (E_a [] an (I 1) ([]) ?_ rfl))))))) (fun k10=>(V_skip (V_region (S_go 1 (S_a [(1,.v (I (↑(j+1):Int)))] (ap ((wrapE (by omega) (by omega)):I (IntKind.i64.wrap ((↑j:Int)+1))=I (↑(j+1):Int)) an) (S_go 1 (S_end ?_)))))))))))))))))))) (fun k9=>(V_exit 4 (V_seq (V_region (S_go 1 (S_end (V_block 6 ?_))))))))))))))
    · rw [off_not] at k10
      have hx:=all_f (p:=fun x=>decide (0≤x)&&decide (x≤b.cr-1)) (l:=(b.rs.getD i default).may) (i:=j) (d:=0) (by omega) (not_t k10)
      have e2:rndErr b.cr (b.rs.getD i default)=1:=by simp only [rndErr,e1,hx,if_true,if_false]
      rw [hra (by omega),e2];rfl
    · rw [off_not] at k10
      refine ⟨j+1,⟨by omega,fun t ht=>?_⟩,by omega,by kernel_rfl,by kernel_rfl⟩
      rcases Nat.lt_succ_iff_lt_or_eq.1 ht with h | rfl
      · exact hja t h
      · have:=not_f k10;simpa using this
    have hx:=all_t (p:=fun x=>decide (0≤x)&&decide (x≤b.cr-1)) (l:=(b.rs.getD i default).may) (d:=0) fun t ht=>by have:=hja t (by omega);simp only [Bool.and_eq_true,decide_eq_true_eq];exact this
    refine V_loopS (fun j=>1≤j∧j≤(b.rs.getD i default).may.length∧∀ t,t+1<j→(b.rs.getD i default).may.getD t 0<(b.rs.getD i default).may.getD (t+1) 0) (fun j=>[(7,I (j:Nat))]) (fun j=>(b.rs.getD i default).may.length-j) (1:Nat) ⟨by omega,by omega,fun t ht=>by omega⟩ fun j ⟨hj1,hj,hjb⟩=>?_
    refine V_seq (V_seq (V_region (S_go 2 (S_a [(0,.n ((b.rs.getD i default).may.length))] (ap ((by simp):some (List.map I (b.rs.getD i default).may).length=some (b.rs.getD i default).may.length) an) (S_go 1 (S_end (V_dec ((↑j:Int)<(↑(b.rs.getD i default).may.length:Int)) (fun k10=>(V_skip (V_seq (V_block 7 (V_seq (V_region (S_go 2 (S_a [(1,.v (I (↑(j-1):Int)))] (ap ((wrapE (by omega) (by omega)):I (IntKind.i64.wrap ((↑j:Int)-1))=I (↑(j-1):Int)) an) (S_a [(2,.v (I ((b.rs.getD i default).may.getD (j-1) 0)))] (ap (getm (0) (by omega):(List.map I (b.rs.getD i default).may)[j-1]? = some (I ((b.rs.getD i default).may.getD (j-1) 0))) an) (S_go 3 (S_a [(2,.v (I ((b.rs.getD i default).may.getD j 0)))] (ap (getm (0) (by omega):(List.map I (b.rs.getD i default).may)[j]? = some (I ((b.rs.getD i default).may.getD j 0))) an) (S_go 2 (S_end (V_dec ((b.rs.getD i default).may.getD (j-1) 0≥(b.rs.getD i default).may.getD j 0) (fun k11=>(V_seq (V_region (S_go 1 (S_end (V_ret (E_a [] an (I 4) ([]) ?_ rfl))))))) (fun k11=>(V_skip (V_region (S_go 1 (S_a [(1,.v (I (↑(j+1):Int)))] (ap ((wrapE (by omega) (by omega)):I (IntKind.i64.wrap ((↑j:Int)+1))=I (↑(j+1):Int)) an) (S_go 1 (S_end ?_))))))))))))))))))))) (fun k10=>(V_exit 6 (V_region (S_go 1 (S_a [(1,.v (I (↑(i+1):Int)))] (ap ((wrapE (by omega) (by omega)):I (IntKind.i64.wrap ((↑i:Int)+1))=I (↑(i+1):Int)) an) (S_go 1 (S_end ?_))))))))))))))
    · obtain ⟨j',rfl⟩:∃ j',j=j'+1:=⟨j-1,by omega⟩
      have e2:rndErr b.cr (b.rs.getD i default)=4:=by simp only [rndErr,e1,hx,incr_f (l:=(b.rs.getD i default).may) (j:=j') (by omega) k11];rfl
      rw [hra (by omega),e2];rfl
    · refine ⟨j+1,⟨by omega,by omega,fun t ht=>?_⟩,by omega,by kernel_rfl,by kernel_rfl⟩
      rcases Nat.lt_succ_iff_lt_or_eq.1 ht with h | h
      · exact hjb t h
      · obtain ⟨j',rfl⟩:∃ j',j=j'+1:=⟨j-1,by omega⟩
        obtain rfl:t=j':=by omega
        have:(b.rs.getD i default).may.getD (t+1-1) 0=(b.rs.getD i default).may.getD t 0:=rfl
        rw [this] at k11;omega
    · have e2:rndErr b.cr (b.rs.getD i default)=0:=by simp only [rndErr,e1,hx,incr_t (l:=(b.rs.getD i default).may) fun t ht=>hjb t (by omega)];rfl
      refine ⟨i+1,⟨by omega,?_⟩,by omega,by kernel_rfl,by kernel_rfl⟩
      rw [hra (by omega),e2];rfl
  · have:i=b.rs.length:=by omega
    rw [hr,this];simp [rndsErr]
end
end Go.Eng
set_option maxRecDepth 10000
set_option maxHeartbeats 4000000
namespace Go.Eng
open Go Go.Proofs
theorem earn_list {b:Dk} {l:List Int} (h:ShareOk b l):feesL b l=(List.range b.cr.toNat).map fun c:Nat=>earnN b l (c:Int) l.length:=by
  have hg:=box_good h.box
  have hs:shareErr b l=0:=by
    have h2:(!l.all (fun x=>decide (0≤x)&&decide (x≤b.cr-1)))=false:=by
      simp only [Bool.not_eq_false',List.all_eq_true]
      intro x hx;have:=h.rng x hx;simp;omega
    simp only [shareErr,h.box,h.len,h2,h.may,if_true];rfl
  have hcr:=hg.cr
  have hx:∀ x∈l,0≤x∧x<4:=fun x hx=>by have:=h.rng x hx;omega
  have hlen:=addF_len (fee:=feesOf b) (share:=l) l.length
  simp only [feesL,hs,if_true]
  apply List.ext_getElem?
  intro i
  rw [List.getElem?_take,List.getElem?_map]
  by_cases hi:i<b.cr.toNat
  · rw [if_pos hi,List.getElem?_range hi,List.getElem?_eq_getElem (by omega)]
    have:=addF_earn hx l.length (Nat.le_refl _) (by rw [h.len];exact Nat.le_refl _) i (by omega)
    rw [getD_lt (by omega)] at this
    simp [this]
  · rw [if_neg hi,List.getElem?_eq_none (by simpa using hi)];rfl
section
variable [Yo]
theorem f94 (b:Dk) (l:List Int) (hb:Small b) (hl:l.length<4294967296):FG 94 [boxV b,ints l] (I (shareErr b l)):=by
  refine gives_ofX Try.f94 ?_
  refine V_seq (V_region (S_go 2 (S_end (V_seq (V_seq (V_region (S_go 1 (S_a [(6,.ret (I (boxErr b)) ([]))] (ap (f59 (b) (by omega)) an) (S_go 1 (S_end (V_seq (V_region (S_go 2 (S_end (V_ndec (boxErr b=0) (fun k0=>(V_seq (V_region (S_go 2 (S_end (V_ret (E_a [] an (I (boxErr b)) ([]) ?_ rfl))))))) (fun k0=>(V_skip (V_seq (V_seq (V_region (S_go 1 (S_a [(0,.n (l.length))] (ap ((by simp):some (List.map I l).length=some l.length) an) (S_go 2 (S_a [(0,.n (b.rs.length))] (ap ((by simp):some (List.map rndV b.rs).length=some b.rs.length) an) (S_go 1 (S_end (V_ndec ((↑l.length:Int)=(↑b.rs.length:Int)) (fun k1=>(V_seq (V_region (S_go 1 (S_end (V_ret (E_a [] an (I 2) ([]) ?_ rfl))))))) (fun k1=>(V_skip (V_seq (V_seq (V_region (S_go 1 (S_end (V_block 0 ?_)))))))))))))))))))))))))))))))))))
  · simp only [shareErr,k0,if_false]
  · have e:¬ l.length=b.rs.length:=by omega
    simp only [shareErr,k0,e,if_true,if_false]
  have hg:=box_good k0
  have hcr:=hg.cr
  have hbl:=hg.len
  have e:l.length=b.rs.length:=by omega
  refine V_loopS (fun i=>i≤l.length∧∀ t,t<i→0≤l.getD t 0∧l.getD t 0≤b.cr-1) (fun i=>[(6,I (i:Nat))]) (fun i=>l.length-i) (0:Nat) ⟨Nat.zero_le _,by simp⟩ fun i ⟨hi,ha⟩=>?_
  refine V_seq (V_seq (V_region (S_go 2 (S_a [(0,.n (l.length))] (ap ((by simp):some (List.map I l).length=some l.length) an) (S_go 1 (S_end (V_dec ((↑i:Int)<(↑l.length:Int)) (fun k2=>(V_skip (V_seq (V_block 1 (V_seq (V_region (S_go 2 (S_a [(2,.v (I (l.getD i 0)))] (ap (getm (0) (by omega):(List.map I l)[i]? = some (I (l.getD i 0))) an) (S_go 3 (S_a [(1,.v (I (b.cr-1)))] (ap ((wrapE rfl (by omega)):I (IntKind.i64.wrap (b.cr-1))=I (b.cr-1)) an) (S_a [(10,.ret (PV.bool (decide (l.getD i 0<0)||decide (b.cr-1<l.getD i 0))) ([]))] (ap (f84 (l.getD i 0) (0) (b.cr-1)) an) (S_end (V_if (decide (l.getD i 0<0)||decide (b.cr-1<l.getD i 0)) (fun k3=>(V_seq (V_region (S_go 1 (S_end (V_ret (E_a [] an (I 1) ([]) ?_ rfl))))))) (fun k3=>(V_skip (V_region (S_go 1 (S_a [(1,.v (I (↑(i+1):Int)))] (ap ((wrapE (by omega) (by omega)):I (IntKind.i64.wrap ((↑i:Int)+1))=I (↑(i+1):Int)) an) (S_go 1 (S_end ?_)))))))))))))))))))) (fun k2=>(V_exit 0 (V_seq (V_seq (V_region (S_go 1 (S_end (V_block 2 ?_)))))))))))))))
  · rw [off_not] at k3
    have hx:=all_f (p:=fun x=>decide (0≤x)&&decide (x≤b.cr-1)) (l:=l) (i:=i) (d:=0) (by omega) (not_t k3)
    simp only [shareErr,k0,e,hx,if_true]
  · rw [off_not] at k3
    refine ⟨i+1,⟨by omega,fun t ht=>?_⟩,by omega,by kernel_rfl,by kernel_rfl⟩
    rcases Nat.lt_succ_iff_lt_or_eq.1 ht with h | rfl
    · exact ha t h
    · have:=not_f k3;simpa using this
  have hx:=all_t (p:=fun x=>decide (0≤x)&&decide (x≤b.cr-1)) (l:=l) (d:=0) fun t ht=>by have:=ha t (by omega);simp only [Bool.and_eq_true,decide_eq_true_eq];exact this
  refine V_loopS (fun i=>i≤l.length∧∀ r,r<i→has (rnd b r).may (l.getD r 0)=true) (fun i=>[(7,I (i:Nat))]) (fun i=>l.length-i) (0:Nat) ⟨Nat.zero_le _,by simp⟩ fun j ⟨hj,hja⟩=>?_
  refine V_seq (V_seq (V_region (S_go 2 (S_a [(0,.n (l.length))] (ap ((by simp):some (List.map I l).length=some l.length) an) (S_go 1 (S_end (V_dec ((↑j:Int)<(↑l.length:Int)) (fun k3=>(V_skip (V_seq (V_block 3 (V_seq (V_region (S_go 3 (S_a [(2,.v (I (l.getD j 0)))] (ap (getm (0) (by omega):(List.map I l)[j]? = some (I (l.getD j 0))) an) (S_go 2 (S_a [(10,.ret (PV.bool (has (rnd b j).may (l.getD j 0))) ([]))] (ap (f95 (b) (l.getD j 0) (j) (by first | omega | (simp<;>omega)) (by omega)) an) (S_go 1 (S_end (V_if (!has (rnd b j).may (l.getD j 0)) (fun k4=>(V_seq (V_region (S_go 1 (S_end (V_ret (E_a [] an (I 8) ([]) ?_ rfl))))))) (fun k4=>(V_skip (V_region (S_go 1 (S_a [(1,.v (I (↑(j+1):Int)))] (ap ((wrapE (by omega) (by omega)):I (IntKind.i64.wrap ((↑j:Int)+1))=I (↑(j+1):Int)) an) (S_go 1 (S_end ?_)))))))))))))))))))) (fun k3=>(V_exit 2 (V_seq (V_region (S_go 1 (S_end (V_ret (E_a [] an (I 0) ([]) ?_ rfl)))))))))))))))
  · simp only [shareErr,k0,e,hx,if_true,mayAll_f (b:=b) (l:=l) (r:=j) (by omega) (by assumption)];rfl
  · refine ⟨j+1,⟨by omega,fun r hr=>?_⟩,by omega,by kernel_rfl,by kernel_rfl⟩
    rcases Nat.lt_succ_iff_lt_or_eq.1 hr with hr | rfl
    · exact hja r hr
    · exact not_f (by assumption)
  · simp only [shareErr,k0,e,hx,if_true,mayAll_t (b:=b) (l:=l) fun r hr=>hja r (by omega)];rfl
theorem f105 (l:List Int) (h0:0<l.length) (hl:l.length<4294967296):FG 105 [ints l] (I (maxL l)):=by
  refine gives_ofX Try.f105 ?_
  refine V_seq (V_region (S_go 1 (S_end (V_seq (V_region (S_go 1 (S_a [(2,.v (I (l.getD 0 0)))] (ap (getm (0) (by omega):(List.map I l)[0]? = some (I (l.getD 0 0))) an) (S_go 2 (S_end (V_seq (V_seq (V_region (S_go 1 (S_end (V_block 0 ?_)))))))))))))))
  refine V_loopS (fun (i,m)=>1≤i∧i≤l.length∧m=maxL (l.take i)) (fun (i,m)=>[(3,I m),(4,I (i:Nat))]) (fun (i,_)=>l.length-i) ((1:Nat),l.getD 0 0) ⟨Nat.le_refl _,h0,maxL_one h0⟩ fun (i,m) ⟨hi1,hi,hm⟩=>?_
  refine V_seq (V_seq (V_region (S_go 2 (S_a [(0,.n (l.length))] (ap ((by simp):some (List.map I l).length=some l.length) an) (S_go 1 (S_end (V_dec ((↑i:Int)<(↑l.length:Int)) (fun k0=>(V_skip (V_seq (V_block 1 (V_region (S_go 3 (S_a [(2,.v (I (l.getD i 0)))] (ap (getm (0) (by omega):(List.map I l)[i]? = some (I (l.getD i 0))) an) (S_go 3 (S_end (V_region (S_go 1 (S_a [(1,.v (I (↑(i+1):Int)))] (ap ((wrapE (by omega) (by omega)):I (IntKind.i64.wrap ((↑i:Int)+1))=I (↑(i+1):Int)) an) (S_go 1 (S_end ?_)))))))))))))) (fun k0=>(V_exit 0 (V_seq (V_region (S_go 2 (S_end (V_ret (E_a [] an (I m) ([]) ?_ rfl)))))))))))))))
  · exact ⟨(i+1,if l.getD i 0>m then l.getD i 0 else m),⟨by omega,by omega,by rw [maxL_next hi1 (by omega),← hm]⟩,by simp only;omega,by kernel_rfl,by kernel_rfl⟩
  · rw [hm,List.take_of_length_le (by omega)]
theorem f106 (l:List Int) (h0:0<l.length) (hl:l.length<4294967296):FG 106 [ints l] (I (minL l)):=by
  refine gives_ofX Try.f106 ?_
  refine V_seq (V_region (S_go 1 (S_end (V_seq (V_region (S_go 1 (S_a [(2,.v (I (l.getD 0 0)))] (ap (getm (0) (by omega):(List.map I l)[0]? = some (I (l.getD 0 0))) an) (S_go 2 (S_end (V_seq (V_seq (V_region (S_go 1 (S_end (V_block 0 ?_)))))))))))))))
  refine V_loopS (fun (i,m)=>1≤i∧i≤l.length∧m=minL (l.take i)) (fun (i,m)=>[(3,I m),(4,I (i:Nat))]) (fun (i,_)=>l.length-i) ((1:Nat),l.getD 0 0) ⟨Nat.le_refl _,h0,minL_one h0⟩ fun (i,m) ⟨hi1,hi,hm⟩=>?_
  refine V_seq (V_seq (V_region (S_go 2 (S_a [(0,.n (l.length))] (ap ((by simp):some (List.map I l).length=some l.length) an) (S_go 1 (S_end (V_dec ((↑i:Int)<(↑l.length:Int)) (fun k0=>(V_skip (V_seq (V_block 1 (V_region (S_go 3 (S_a [(2,.v (I (l.getD i 0)))] (ap (getm (0) (by omega):(List.map I l)[i]? = some (I (l.getD i 0))) an) (S_go 3 (S_end (V_region (S_go 1 (S_a [(1,.v (I (↑(i+1):Int)))] (ap ((wrapE (by omega) (by omega)):I (IntKind.i64.wrap ((↑i:Int)+1))=I (↑(i+1):Int)) an) (S_go 1 (S_end ?_)))))))))))))) (fun k0=>(V_exit 0 (V_seq (V_region (S_go 2 (S_end (V_ret (E_a [] an (I m) ([]) ?_ rfl)))))))))))))))
  · exact ⟨(i+1,if l.getD i 0<m then l.getD i 0 else m),⟨by omega,by omega,by rw [minL_next hi1 (by omega),← hm]⟩,by simp only;omega,by kernel_rfl,by kernel_rfl⟩
  · rw [hm,List.take_of_length_le (by omega)]
theorem f62 (b:Dk) (l:List Int) (hb:Small b) (hl:l.length<4294967296):FG 62 [boxV b,ints l] (.tup [.own 1 ((feesL b l).map I),I (shareErr b l)]):=by
  by_cases h:shareErr b l=0
  · have hs:=shr_ok h
    have hg:=box_good hs.box
    have hcr:=hg.cr
    have hbl:=hg.len
    have hlen:=hs.len
    rw [earn_list hs,h]
    have h94:=f94 b l hb hl
    rw [h] at h94
    refine gives_ofX Try.f62 ?_
    refine V_seq (V_region (S_go 3 (S_end (V_seq (V_seq (V_region (S_go 2 (S_a [(8,.ret (I 0) ([]))] (ap (h94) an) (S_go 1 (S_end (V_seq (V_region (S_go 2 (S_end (V_false (V_skip (V_seq (V_region (S_go 1 (S_end (V_seq (V_seq (V_region (S_go 1 (S_end (V_block 0 ?_))))))))))))))))))))))))))
    refine V_loopS (fun (c,o)=>(c:Int)≤b.cr∧o=(List.range c).map fun c:Nat=>earnN b l (c:Int) l.length) (fun (c,o)=>[(7,.own 1 (o.map I)),(8,I (c:Nat))]) (fun (c,_)=>b.cr.toNat-c) ((0:Nat),([]:List Int)) ⟨by omega,rfl⟩ fun (c,o) ⟨hc,ho⟩=>?_
    have hol:o.length=c:=by rw [ho];simp
    refine V_seq (V_seq (V_region (S_go 4 (S_end (V_dec ((↑c:Int)<b.cr) (fun k0=>(V_skip (V_seq (V_block 1 (V_region (S_go 4 (S_a [(10,.ret (I (earnN b l (↑c:Int) l.length)) ([]))] (ap (f96 (b) (l) ((↑c:Int)) (by omega) (by first | omega | (simp<;>omega))) an) (S_go 1 (S_a [(4,.ob),(0,.ob),(0,.ob),(2,.v (PV.own 1 (List.map I (o++[earnN b l (↑c:Int) l.length]))))] (ap ((by exact ble_of (by simp only [List.length_map,List.length_set,List.length_append,List.length_cons,List.length_nil,limit]<;>omega)):(0+(List.map I o).length).ble (List.map I o).length=true) (ap ((by exact ble_of (by simp only [List.length_map,List.length_set,List.length_append,List.length_cons,List.length_nil,limit]<;>omega)):((List.map I o).length + [I (earnN b l (↑c:Int) l.length)].length).ble limit=true) (ap ((by exact beq_of (by simp<;>omega)):(0+(List.map I o).length).beq (List.map I o).length=true) (ap ((by simp):PV.own 1 (List.map I o++[I (earnN b l (↑c:Int) l.length)])=PV.own 1 (List.map I (o++[earnN b l (↑c:Int) l.length]))) an)))) (S_go 1 (S_end (V_region (S_go 1 (S_a [(1,.v (I (↑(c+1):Int)))] (ap ((wrapE (by omega) (by omega)):I (IntKind.i64.wrap ((↑c:Int)+1))=I (↑(c+1):Int)) an) (S_go 1 (S_end ?_)))))))))))))))) (fun k0=>(V_exit 0 (V_seq (V_region (S_go 1 (S_a [(2,.yes)] (ap ((by exact beq_of (by simp<;>omega)):(Nat.beq 0 0&&(List.map I o).length.beq (List.map I o).length)=true) an) (S_go 1 (S_end (V_ret (E_a [(1,.yes),(1,.v (PV.own 1 (List.map I o)))] (ap ((by exact ble_of (by simp only [List.length_map,List.length_set,List.length_append,List.length_cons,List.length_nil,limit]<;>omega)):(0+(List.map I o).length).ble (List.map I o).length=true) (ap ((by simp [take_mapL]):PV.own 1 (List.take (List.map I o).length (List.drop 0 (List.map I o)))=PV.own 1 (List.map I o)) an)) (PV.tup [PV.own 1 (List.map I o),I 0]) ([]) ?_ rfl)))))))))))))))
    · exact ⟨(c+1,o++[earnN b l (c:Int) l.length]),⟨by omega,by rw [ho,List.range_succ,List.map_append];rfl⟩,by simp only;omega,by kernel_rfl,by kernel_rfl⟩
    · rw [ho,show b.cr.toNat=c by omega]
  · refine gives_ofX Try.f62 ?_
    refine V_seq (V_region (S_go 3 (S_end (V_seq (V_seq (V_region (S_go 2 (S_a [(8,.ret (I (shareErr b l)) ([]))] (ap (f94 (b) (l) (by omega) (by omega)) an) (S_go 1 (S_end (V_seq (V_region (S_go 2 (S_end (V_ndecT (shareErr b l=0) (by omega) (V_seq (V_region (S_go 3 (S_end (V_ret (E_a [] an (PV.tup [PV.own 1 [],I (shareErr b l)]) ([]) ?_ rfl)))))))))))))))))))))
    · simp only [feesL,h,if_false];rfl
end
end Go.Eng
set_option maxRecDepth 10000
set_option maxHeartbeats 4000000
namespace Go.Eng
open Go Go.Proofs
section
variable [Yo]
end
end Go.Eng
set_option maxRecDepth 10000
set_option maxHeartbeats 4000000
namespace Go.Eng
open Go Go.Proofs
def greatB (b:Dk):Bool:=decide ((b.rs.length:Int)>12)||b.rs.any fun r=>decide ((r.may.length:Int)>10)
section
variable [Yo]
theorem f29 (b:Dk):FG 29 [boxV b] (.bool (greatB b)):=by
  refine gives_ofX Try.f29 ?_
  refine V_seq (V_region (S_go 2 (S_end (V_seq (V_seq (V_region (S_go 2 (S_a [(0,.n (b.rs.length))] (ap ((by simp):some (List.map rndV b.rs).length=some b.rs.length) an) (S_go 1 (S_end (V_dec ((↑b.rs.length:Int)>12) (fun k0=>(V_seq (V_region (S_go 1 (S_end (V_ret (E_a [] an (PV.bool true) ([]) ?_ rfl))))))) (fun k0=>(V_skip (V_seq (V_seq (V_region (S_go 2 (S_a [(0,.n (b.rs.length))] (ap ((by simp):some (List.map rndV b.rs).length=some b.rs.length) an) (S_go 1 (S_end (V_block 0 ?_)))))))))))))))))))))
  · simp only [greatB,k0];rfl
  refine V_loopS (fun i=>i≤b.rs.length∧∀ t,t<i→¬ ((b.rs.getD t default).may.length:Int)>10) (fun i=>[(12,I (i:Nat))]) (fun i=>b.rs.length-i) (0:Nat) ⟨Nat.zero_le _,by simp⟩ fun i ⟨hi,ha⟩=>?_
  refine V_seq (V_region (S_go 1 (S_end (V_seq (V_dec ((↑i:Int)<(↑b.rs.length:Int)) (fun k1=>(V_skip (V_seq (V_block 1 (V_seq (V_region (S_a [(2,.v (PV.agg [I (b.rs.getD i default).w,I (b.rs.getD i default).s,PV.sl (List.map I (b.rs.getD i default).may)]))] (ap (getm (default) (by omega):(List.map rndV b.rs)[i]? = some (PV.agg [I (b.rs.getD i default).w,I (b.rs.getD i default).s,PV.sl (List.map I (b.rs.getD i default).may)])) an) (S_go 3 (S_end (V_seq (V_region (S_go 2 (S_a [(0,.n ((b.rs.getD i default).may.length))] (ap ((by simp):some (List.map I (b.rs.getD i default).may).length=some (b.rs.getD i default).may.length) an) (S_go 1 (S_end (V_dec ((↑(b.rs.getD i default).may.length:Int)>10) (fun k2=>(V_seq (V_region (S_go 1 (S_end (V_ret (E_a [] an (PV.bool true) ([]) ?_ rfl))))))) (fun k2=>(V_skip (V_region (S_a [(1,.v (I (↑(i+1):Int)))] (ap ((wrapE (by omega) (by omega)):I (IntKind.i64.wrap ((↑i:Int)+1))=I (↑(i+1):Int)) an) (S_go 1 (S_end ?_)))))))))))))))))))))) (fun k1=>(V_exit 0 (V_seq (V_region (S_go 1 (S_end (V_ret (E_a [] an (PV.bool false) ([]) ?_ rfl)))))))))))))
  · have h1:b.rs.any (fun r=>decide ((r.may.length:Int)>10))=true:=by
      have hi':i<b.rs.length:=by omega
      rw [getD_lt hi'] at k2
      exact List.any_eq_true.2 ⟨_,List.getElem_mem hi',decide_eq_true k2⟩
    simp only [greatB,h1,Bool.or_true]
  · refine ⟨i+1,⟨by omega,fun t ht=>?_⟩,by omega,by kernel_rfl,by kernel_rfl⟩
    rcases Nat.lt_succ_iff_lt_or_eq.1 ht with h | rfl
    · exact ha t h
    · exact k2
  · have h1:b.rs.any (fun r=>decide ((r.may.length:Int)>10))=false:=by
      refine List.any_eq_false.2 fun r hr=>?_
      obtain ⟨j,hj,rfl⟩:=List.getElem_of_mem hr
      have:=ha j (by omega)
      rw [getD_lt hj] at this
      simpa using this
    simp only [greatB,h1,decide_eq_false k0,Bool.or_self]
end
end Go.Eng
namespace Go.Eng
open Go Go.Proofs
section
variable [Yo]
theorem f17 (l:List Int) (hl:l.length<1000000):FG 17 [ints l] (.own 1 (l.map I)):=by
  refine gives_ofX Try.f17 ?_
  refine V_seq (V_region (S_go 1 (S_end (V_seq (V_region (S_go 1 (S_a [(0,.n (l.length))] (ap ((by simp):some (List.map I l).length=some l.length) an) (S_a [(4,.ob),(0,.ob),(1,.v (PV.own 1 (List.map I (List.replicate l.length 0))))] (ap ((by exact dec_of (by omega)):decide (l.length≤l.length)=true) (ap ((by exact dec_of (by simp [limit]<;>omega)):decide (l.length≤limit)=true) (ap ((by simp):PV.own 1 (List.replicate l.length (I 0))=PV.own 1 (List.map I (List.replicate l.length 0))) an))) (S_go 1 (S_end (V_seq (V_region (S_go 2 (S_copyL (fun q=>q) 3 1 (List.map I (List.replicate l.length 0)) (List.map I l) (List.map I l) (fits_map fun _ _=>(by first | exact fits_one | exact ⟨rfl,rfl,rfl,rfl,Nat.le_refl _,rfl⟩)) (by simp<;>omega) (map_all (by simp<;>omega)) Lens.nil (S_end (V_seq (V_region (S_go 1 (S_a [(2,.yes)] (ap ((by exact beq_of (by simp<;>omega)):(Nat.beq 0 0&&(List.map I l).length.beq (List.map I l).length)=true) an) (S_end (V_ret (E_a [(1,.yes),(1,.v (PV.own 1 (List.map I l)))] (ap ((by exact ble_of (by simp only [List.length_map,List.length_set,List.length_append,List.length_cons,List.length_nil,limit]<;>omega)):(0+(List.map I l).length).ble (List.map I l).length=true) (ap ((by simp [take_mapL]):PV.own 1 (List.take (List.map I l).length (List.drop 0 (List.map I l)))=PV.own 1 (List.map I l)) an)) (PV.own 1 (List.map I l)) ([]) rfl rfl))))))))))))))))))))))
end
def cmpD (coins:Int) (parts:List Int) (all:Int) (i k:Int):Int:=(coins*parts.getD k.toNat 0).tmod all-(coins*parts.getD i.toNat 0).tmod all
section
variable [Yo]
end
def posB (lt:Int→Int→Bool) (s:List Int) (x:Int):Nat→Nat
  | 0=>0
  | j+1=>if lt x (s.getD j 0) then posB lt s x j else j+1
def insB (lt:Int→Int→Bool) (s:List Int) (x:Int):List Int:=s.take (posB lt s x s.length)++x::s.drop (posB lt s x s.length)
def isort (lt:Int→Int→Bool) (l:List Int):List Int:=l.foldl (insB lt) []
def ltD (coins:Int) (parts:List Int) (all:Int) (x y:Int):Bool:=decide (cmpD coins parts all x y<0)
section
variable [Yo]
end
end Go.Eng
set_option maxRecDepth 10000
set_option maxHeartbeats 4000000
namespace Go.Eng
open Go Go.Proofs
theorem set_same {α:Type} {l:List α} {i:Nat} {d:α} (h:i<l.length):l.set i (l.getD i d)=l:=by
  rw [getD_lt h];exact List.set_getElem_self h
abbrev rndO (r:Rnd):PV := .agg [I r.w,I r.s,.own 1 (r.may.map I)]
section
variable [Yo]
theorem f91 (l:List Rnd) (hl:l.length<4294967296):FG 91 [rnds l] (.own 3 (l.map rndV)):=by
  refine gives_ofX Try.f91 ?_
  refine V_seq (V_region (S_go 1 (S_end (V_seq (V_region (S_go 1 (S_a [(0,.n (l.length))] (ap ((by simp):some (List.map rndV l).length=some l.length) an) (S_a [(4,.ob),(0,.ob),(1,.v (PV.own 3 (List.map (fun x=>PV.agg [I 0,I 0,PV.own 1 []]) (List.replicate l.length ()))))] (ap ((by exact dec_of (by omega)):decide (l.length≤l.length)=true) (ap ((by exact dec_of (by simp [limit]<;>omega)):decide (l.length≤limit)=true) (ap ((by simp):PV.own 3 (List.replicate l.length (PV.agg [I 0,I 0,PV.own 1 []]))=PV.own 3 (List.map (fun x=>PV.agg [I 0,I 0,PV.own 1 []]) (List.replicate l.length ()))) an))) (S_go 1 (S_end (V_seq (V_region (S_go 2 (S_copyL (fun q=>q) 3 3 (List.map (fun x=>PV.agg [I 0,I 0,PV.own 1 []]) (List.replicate l.length ())) (List.map rndV l) (List.map rndV l) (fits_map fun _ _=>(by first | exact fits_one | exact ⟨rfl,rfl,rfl,rfl,Nat.le_refl _,rfl⟩)) (by simp<;>omega) (map_all (by simp<;>omega)) Lens.nil (S_end (V_seq (V_region (S_go 1 (S_a [(2,.yes)] (ap ((by exact beq_of (by simp<;>omega)):(Nat.beq 0 0&&(List.map rndV l).length.beq (List.map rndV l).length)=true) an) (S_end (V_ret (E_a [(1,.yes),(1,.v (PV.own 3 (List.map rndV l)))] (ap ((by exact ble_of (by simp only [List.length_map,List.length_set,List.length_append,List.length_cons,List.length_nil,limit]<;>omega)):(0+(List.map rndV l).length).ble (List.map rndV l).length=true) (ap ((by simp [take_mapL]):PV.own 3 (List.take (List.map rndV l).length (List.drop 0 (List.map rndV l)))=PV.own 3 (List.map rndV l)) an)) (PV.own 3 (List.map rndV l)) ([]) rfl rfl))))))))))))))))))))))
theorem f30 (b:Dk) (hb:b.rs.length≤12) (hb2:∀ r∈b.rs,r.may.length≤10):FG 30 [boxV b] (.agg [I b.cr,I b.wd,I b.st,I b.fn,.own 3 (b.rs.map rndV)]):=by
  refine gives_ofX Try.f30 ?_
  refine V_seq (V_region (S_go 2 (S_end (V_seq (V_region (S_go 2 (S_a [(6,.ret (PV.own 3 (List.map rndV b.rs)) ([]))] (ap (f91 (b.rs) (by omega)) an) (S_go 2 (S_end (V_seq (V_seq (V_region (S_go 1 (S_a [(1,.v (PV.bor 1 [(0,4)] 3 0 b.rs.length))] (ap ((by simp):PV.bor 1 [(0,4)] 3 0 (List.map rndV b.rs).length=PV.bor 1 [(0,4)] 3 0 b.rs.length) an) (S_go 2 (S_end (V_block 0 ?_)))))))))))))))))
  refine V_loopS (fun (i,q)=>i≤b.rs.length∧q=b.rs) (fun (i,q)=>[(1,.box (.agg [I b.cr,I b.wd,I b.st,I b.fn,.own 3 (q.map rndV)])),(12,I (i:Nat))]) (fun (i,_)=>b.rs.length-i) ((0:Nat),b.rs) ⟨Nat.zero_le _,rfl⟩ fun (i,q) ⟨hi,hq⟩=>?_
  have hql:q.length=b.rs.length:=by rw [hq]
  have hm:i<b.rs.length→(b.rs.getD i default).may.length≤10:=fun h=>hb2 _ (by rw [getD_lt h];exact List.getElem_mem _)
  have hm2:i<b.rs.length→(q.getD i default).may.length≤10:=fun h=>by rw [hq];exact hm h
  refine V_seq (V_region (S_go 1 (S_end (V_seq (V_dec ((↑i:Int)<(↑b.rs.length:Int)) (fun k0=>(V_skip (V_seq (V_block 1 (V_seq (V_region (S_go 1 (S_a [(2,.ob),(1,.n (i))] (ap ((by exact dec_of (by omega)):decide (i<b.rs.length)=true) (ap ((by simp):some (0+i)=some i) an)) (S_a [(0,.cs true ([I (q.getD i default).w,I (q.getD i default).s,PV.sl (List.map I (q.getD i default).may)]))] (ap (rc_at (q:=PV.own 3 (List.map rndV q)) (xs:=List.map rndV q) (x:=PV.agg [I (q.getD i default).w,I (q.getD i default).s,PV.sl (List.map I (q.getD i default).may)]) (gn_at (xs:=[PV.agg [I b.cr,I b.wd,I b.st,I b.fn,PV.own 3 (List.map rndV q)]]) (x:=PV.agg [I b.cr,I b.wd,I b.st,I b.fn,PV.own 3 (List.map rndV q)]) (y:=PV.own 3 (List.map rndV q)) rfl rfl) (getm (default) (by omega)):readCells 1 (PV.agg [I b.cr,I b.wd,I b.st,I b.fn,PV.own 3 (List.map rndV q)]).box [(0,4)] i 0 Try.prog.types[104].size=some (true,[I (q.getD i default).w,I (q.getD i default).s,PV.sl (List.map I (q.getD i default).may)])) an) (S_go 3 (S_end (V_region (S_go 1 (S_a [(1,.v (PV.bor 1 [(0,4)] 3 0 q.length))] (ap ((by simp):PV.bor 1 [(0,4)] 3 0 (List.map rndV q).length=PV.bor 1 [(0,4)] 3 0 q.length) an) (S_go 3 (S_a [(6,.ret (PV.own 1 (List.map I (q.getD i default).may)) ([]))] (ap (f17 ((q.getD i default).may) (by omega)) an) (S_a [(2,.ob),(1,.n (i))] (ap ((by exact dec_of (by omega)):decide (i<q.length)=true) (ap ((by simp):some (0+i)=some i) an)) (S_go 1 (S_a [(3,.v (PV.sl (List.map I (q.getD i default).may))),(4,.root ((PV.agg [I b.cr,I b.wd,I b.st,I b.fn,PV.own 3 (List.map rndV (q.set i (q.getD i default)))]).box) true)] (ap ((sl_ext (freezes_mapG _)):PV.sl (freezes (List.map I (q.getD i default).may))=PV.sl (List.map I (q.getD i default).may)) (ap (wr_at (wr_in (p:=(PV.agg [I b.cr,I b.wd,I b.st,I b.fn,PV.own 3 (List.map rndV q)]).box) (xs:=[PV.agg [I b.cr,I b.wd,I b.st,I b.fn,PV.own 3 (List.map rndV q)]]) (x:=PV.agg [I b.cr,I b.wd,I b.st,I b.fn,PV.own 3 (List.map rndV q)]) (q:=PV.own 3 (List.map rndV q)) (q':=PV.own 3 (List.map rndV (q.set i (q.getD i default)))) (y:=PV.agg [I b.cr,I b.wd,I b.st,I b.fn,PV.own 3 (List.map rndV (q.set i (q.getD i default)))]) (p':=(PV.agg [I b.cr,I b.wd,I b.st,I b.fn,PV.own 3 (List.map rndV (q.set i (q.getD i default)))]).box) rfl (wr_end (q:=PV.own 3 (List.map rndV q)) (xs:=List.map rndV q) (x:=PV.agg [I (q.getD i default).w,I (q.getD i default).s,PV.sl (List.map I (q.getD i default).may)]) (y:=PV.agg [I (q.getD i default).w,I (q.getD i default).s,PV.sl (List.map I (q.getD i default).may)]) (q':=PV.own 3 (List.map rndV (q.set i (q.getD i default)))) (getm (default) (by omega)) rfl (we_own (u:=q.getD i default))) rfl rfl) rfl:writeAt (PV.agg [I b.cr,I b.wd,I b.st,I b.fn,PV.own 3 (List.map rndV q)]).box [(0,4)] i 2 (PV.sl (List.map I (q.getD i default).may)).cells=some (PV.agg [I b.cr,I b.wd,I b.st,I b.fn,PV.own 3 (List.map rndV (q.set i (q.getD i default)))]).box∧keptView (PV.agg [I b.cr,I b.wd,I b.st,I b.fn,PV.own 3 (List.map rndV q)]).box (PV.agg [I b.cr,I b.wd,I b.st,I b.fn,PV.own 3 (List.map rndV (q.set i (q.getD i default)))]).box [(0,4)]=true) an)) (S_end (V_region (S_a [(1,.v (I (↑(i+1):Int)))] (ap ((wrapE (by omega) (by omega)):I (IntKind.i64.wrap ((↑i:Int)+1))=I (↑(i+1):Int)) an) (S_go 1 (S_end ?_)))))))))))))))))))))))) (fun k0=>(V_exit 0 (V_seq (V_region (S_go 1 (S_a [(4,.yes)] (ap ((by exact beq_of (by simp<;>omega)):(Nat.beq 0 0&&(List.map rndV q).length.beq (List.map rndV q).length)=true) an) (S_end (V_ret (E_a [(7,.yes),(1,.v (PV.own 3 (List.map rndV q)))] (ap ((by exact ble_of (by simp only [List.length_map,List.length_set,List.length_append,List.length_cons,List.length_nil,limit]<;>omega)):(0+(List.map rndV q).length).ble (List.map rndV q).length=true) (ap ((by simp [take_mapL]):PV.own 3 (List.take (List.map rndV q).length (List.drop 0 (List.map rndV q)))=PV.own 3 (List.map rndV q)) an)) (PV.agg [I b.cr,I b.wd,I b.st,I b.fn,PV.own 3 (List.map rndV q)]) ([]) (by simp [*]) rfl))))))))))))))
  · exact ⟨(i+1,q.set i (q.getD i default)),⟨by omega,by rw [set_same (by omega),hq]⟩,by simp only;omega,by kernel_rfl,by kernel_rfl⟩
theorem f31 (b:Dk) (hb:b.rs.length≤12) (hb2:∀ r∈b.rs,r.may.length≤10):FG 31 [boxV b] (.agg [I b.cr,I b.wd,I b.st,I b.fn,.own 3 (b.rs.map rndO)]):=by
  refine gives_ofX Try.f31 ?_
  refine V_seq (V_region (S_go 2 (S_end (V_seq (V_region (S_go 11 (S_end (V_seq (V_seq (V_region (S_go 2 (S_a [(0,.n (b.rs.length))] (ap ((by simp):some (List.map rndV b.rs).length=some b.rs.length) an) (S_go 1 (S_end (V_block 0 ?_)))))))))))))))
  refine V_loopS (fun (i,q)=>i≤b.rs.length∧q=b.rs.take i) (fun (i,q)=>[(3,.box (.agg [I b.cr,I b.wd,I b.st,I b.fn,.own 3 (q.map rndO)])),(18,I (i:Nat))]) (fun (i,_)=>b.rs.length-i) ((0:Nat),([]:List Rnd)) ⟨Nat.zero_le _,rfl⟩ fun (i,q) ⟨hi,hq⟩=>?_
  have hm:i<b.rs.length→(b.rs.getD i default).may.length≤10:=fun h=>hb2 _ (by rw [getD_lt h];exact List.getElem_mem _)
  have hql:q.length≤12:=by rw [hq];simp;omega
  refine V_seq (V_region (S_go 1 (S_end (V_seq (V_dec ((↑i:Int)<(↑b.rs.length:Int)) (fun k0=>(V_skip (V_seq (V_block 1 (V_seq (V_region (S_a [(2,.v (PV.agg [I (b.rs.getD i default).w,I (b.rs.getD i default).s,PV.sl (List.map I (b.rs.getD i default).may)]))] (ap (getm (default) (by omega):(List.map rndV b.rs)[i]? = some (PV.agg [I (b.rs.getD i default).w,I (b.rs.getD i default).s,PV.sl (List.map I (b.rs.getD i default).may)])) an) (S_go 3 (S_end (V_region (S_go 1 (S_a [(1,.v (PV.bor 3 [(0,4)] 3 0 q.length))] (ap ((by simp):PV.bor 3 [(0,4)] 3 0 (List.map rndO q).length=PV.bor 3 [(0,4)] 3 0 q.length) an) (S_go 6 (S_a [(6,.ret (PV.own 1 (List.map I (b.rs.getD i default).may)) ([]))] (ap (f17 ((b.rs.getD i default).may) (by omega)) an) (S_go 2 (S_a [(4,.ob),(0,.ob),(0,.ob),(2,.v (PV.own 3 (List.map rndO (q++[b.rs.getD i default]))))] (ap ((by exact ble_of (by simp only [List.length_map,List.length_set,List.length_append,List.length_cons,List.length_nil,limit]<;>omega)):(0+q.length).ble (List.map rndO q).length=true) (ap ((by exact ble_of (by simp only [List.length_map,List.length_set,List.length_append,List.length_cons,List.length_nil,limit]<;>omega)):((List.map rndO q).length + [PV.agg [I (b.rs.getD i default).w,I (b.rs.getD i default).s,PV.own 1 (List.map I (b.rs.getD i default).may)]].length).ble limit=true) (ap ((by exact beq_of (by simp<;>omega)):(0+q.length).beq (List.map rndO q).length=true) (ap ((by simp):PV.own 3 (List.map rndO q++[PV.agg [I (b.rs.getD i default).w,I (b.rs.getD i default).s,PV.own 1 (List.map I (b.rs.getD i default).may)]])=PV.own 3 (List.map rndO (q++[b.rs.getD i default]))) an)))) (S_go 2 (S_end (V_region (S_a [(1,.v (I (↑(i+1):Int)))] (ap ((wrapE (by omega) (by omega)):I (IntKind.i64.wrap ((↑i:Int)+1))=I (↑(i+1):Int)) an) (S_go 1 (S_end ?_)))))))))))))))))))))) (fun k0=>(V_exit 0 (V_seq (V_region (S_go 1 (S_a [(4,.yes)] (ap ((by exact beq_of (by simp<;>omega)):(Nat.beq 0 0&&(List.map rndO q).length.beq (List.map rndO q).length)=true) an) (S_end (V_ret (E_a [(7,.yes),(1,.v (PV.own 3 (List.map rndO q)))] (ap ((by exact ble_of (by simp only [List.length_map,List.length_set,List.length_append,List.length_cons,List.length_nil,limit]<;>omega)):(0+(List.map rndO q).length).ble (List.map rndO q).length=true) (ap ((by simp [take_mapL]):PV.own 3 (List.take (List.map rndO q).length (List.drop 0 (List.map rndO q)))=PV.own 3 (List.map rndO q)) an)) (PV.agg [I b.cr,I b.wd,I b.st,I b.fn,PV.own 3 (List.map rndO q)]) ([]) ?_ rfl))))))))))))))
  · exact ⟨(i+1,q++[b.rs.getD i default]),⟨by omega,by rw [hq,List.take_add_one,List.getElem?_eq_getElem (by omega),getD_lt (by omega)];rfl⟩,by simp only;omega,by kernel_rfl,by kernel_rfl⟩
  · rw [hq,List.take_of_length_le (by omega)]
theorem f38 (a b:Dk) (hb:a.rs.length≤12) (hb2:∀ r∈a.rs,r.may.length≤10) (hab:a=b):FG 38 [boxV a,boxV b] (.bool true):=by
  subst hab
  refine gives_ofX Try.f38 ?_
  refine V_seq (V_region (S_go 3 (S_end (V_seq (V_seq (V_region (S_go 6 (S_ndecF 12 (a.cr=a.cr) (by omega) (S_go 7 (S_ndecF 19 (a.wd=a.wd) (by omega) (S_go 7 (S_ndecF 26 (a.st=a.st) (by omega) (S_go 7 (S_ndecF 33 (a.fn=a.fn) (by omega) (S_go 2 (S_a [(0,.n (a.rs.length))] (ap ((by simp):some (List.map rndV a.rs).length=some a.rs.length) an) (S_go 2 (S_a [(0,.n (a.rs.length))] (ap ((by simp):some (List.map rndV a.rs).length=some a.rs.length) an) (S_go 2 (S_end (V_ndecF ((↑a.rs.length:Int)=(↑a.rs.length:Int)) (by omega) (V_skip (V_seq (V_seq (V_region (S_go 2 (S_a [(0,.n (a.rs.length))] (ap ((by simp):some (List.map rndV a.rs).length=some a.rs.length) an) (S_go 1 (S_end (V_block 0 ?_))))))))))))))))))))))))))))))
  refine V_loopS (fun i=>i≤a.rs.length) (fun i=>[(45,I (i:Nat))]) (fun i=>a.rs.length-i) (0:Nat) (Nat.zero_le _) fun i hi=>?_
  have hm:i<a.rs.length→(a.rs.getD i default).may.length≤10:=fun h=>hb2 _ (by rw [getD_lt h];exact List.getElem_mem _)
  refine V_seq (V_region (S_go 1 (S_end (V_seq (V_dec ((↑i:Int)<(↑a.rs.length:Int)) (fun k0=>(V_skip (V_seq (V_block 1 (V_seq (V_region (S_go 1 (S_a [(2,.v (PV.agg [I (a.rs.getD i default).w,I (a.rs.getD i default).s,PV.sl (List.map I (a.rs.getD i default).may)]))] (ap (getm (default) (by omega):(List.map rndV a.rs)[i]? = some (PV.agg [I (a.rs.getD i default).w,I (a.rs.getD i default).s,PV.sl (List.map I (a.rs.getD i default).may)])) an) (S_go 4 (S_end (V_seq (V_region (S_go 5 (S_a [(2,.v (PV.agg [I (a.rs.getD i default).w,I (a.rs.getD i default).s,PV.sl (List.map I (a.rs.getD i default).may)]))] (ap (getm (default) (by omega):(List.map rndV a.rs)[i]? = some (PV.agg [I (a.rs.getD i default).w,I (a.rs.getD i default).s,PV.sl (List.map I (a.rs.getD i default).may)])) an) (S_go 4 (S_ndecF 59 ((a.rs.getD i default).w=(a.rs.getD i default).w) (by omega) (S_go 5 (S_a [(2,.v (PV.agg [I (a.rs.getD i default).w,I (a.rs.getD i default).s,PV.sl (List.map I (a.rs.getD i default).may)]))] (ap (getm (default) (by omega):(List.map rndV a.rs)[i]? = some (PV.agg [I (a.rs.getD i default).w,I (a.rs.getD i default).s,PV.sl (List.map I (a.rs.getD i default).may)])) an) (S_go 5 (S_ndecF 70 ((a.rs.getD i default).s=(a.rs.getD i default).s) (by omega) (S_go 5 (S_a [(2,.v (PV.agg [I (a.rs.getD i default).w,I (a.rs.getD i default).s,PV.sl (List.map I (a.rs.getD i default).may)]))] (ap (getm (default) (by omega):(List.map rndV a.rs)[i]? = some (PV.agg [I (a.rs.getD i default).w,I (a.rs.getD i default).s,PV.sl (List.map I (a.rs.getD i default).may)])) an) (S_go 2 (S_a [(8,.ret (PV.bool (decide ((a.rs.getD i default).may=(a.rs.getD i default).may))) ([]))] (ap (f20 ((a.rs.getD i default).may) ((a.rs.getD i default).may) (by omega)) an) (S_go 2 (S_end (V_ndecF ((a.rs.getD i default).may=(a.rs.getD i default).may) (by (simp;done)) (V_skip (V_region (S_a [(1,.v (I (↑(i+1):Int)))] (ap ((wrapE (by omega) (by omega)):I (IntKind.i64.wrap ((↑i:Int)+1))=I (↑(i+1):Int)) an) (S_go 1 (S_end ?_)))))))))))))))))))))))))))))))) (fun k0=>(V_exit 0 (V_seq (V_region (S_go 1 (S_end (V_ret (E_a [] an (PV.bool true) ([]) rfl rfl)))))))))))))
  · exact ⟨i+1,by omega,by omega,by kernel_rfl,by kernel_rfl⟩
end
end Go.Eng
namespace Go.Eng
open Go Go.Proofs
abbrev u8 (n:Int):PV := .int .u8 n
abbrev u32 (n:Int):PV := .int .u32 n
abbrev bellV (l:List Int) (a:Nat) (t:Int):PV := .box (.agg [.sl (l.map u8),I a,u32 t])
abbrev bellW:PV := .addr 50000000 [] 0 0 (some 3)
def BellOk (l:List Int) (a:Nat):Prop:=a≤l.length∧l.length<9223372036854775808
def ringA0 (l:List Int) (a:Nat):Nat:=if a=l.length then 0 else a
def ringT (l:List Int) (a:Nat) (t:Int):Int:=if a=l.length then IntKind.u32.wrap (t+1) else t
def ringA (l:List Int) (a:Nat):Nat:=if 0<l.length then ringA0 l a+1 else ringA0 l a
theorem ringA_ok {l:List Int} {a:Nat} (h:BellOk l a):BellOk l (ringA l a):=by
  obtain ⟨h1,h2⟩:=h
  refine ⟨?_,h2⟩
  unfold ringA ringA0
  repeat' split
  all_goals omega
def bellN (n:Int):Int:=IntKind.u32.wrap ↑(BitVec.ofInt IntKind.u32.bits (IntKind.u32.wrap ↑(BitVec.ofInt IntKind.u32.bits n ^^^ BitVec.ofInt IntKind.u32.bits (n.fdiv (2 ^ min (Int.toNat 7) IntKind.u32.bits))).toNat) &&& BitVec.ofInt IntKind.u32.bits 65535).toNat
theorem bellN_bd (n:Int):0≤bellN n∧bellN n≤65535:=by
  unfold bellN
  generalize BitVec.ofInt IntKind.u32.bits (IntKind.u32.wrap ↑(BitVec.ofInt IntKind.u32.bits n ^^^ BitVec.ofInt IntKind.u32.bits (n.fdiv (2 ^ min (Int.toNat 7) IntKind.u32.bits))).toNat)=x
  have h:(x &&& BitVec.ofInt IntKind.u32.bits 65535).toNat≤65535:=by
    rw [BitVec.toNat_and]
    exact Nat.le_trans Nat.and_le_right (by decide)
  generalize (x &&& BitVec.ofInt IntKind.u32.bits 65535).toNat=m at h
  have:IntKind.u32.wrap (m:Int)=m:=by
    simp only [IntKind.wrap]
    simp [IntKind.signed,IntKind.bits]
    omega
  rw [this];omega
def ringN (l:List Int) (a:Nat) (t:Int):Int:=bellN (if 0<l.length then IntKind.u32.wrap (IntKind.u32.wrap (30011*ringT l a t)+IntKind.u32.wrap (263*IntKind.u32.wrap (l.getD (ringA0 l a) 0))) else IntKind.u32.wrap (30011*ringT l a t))
theorem ringN_bd (l:List Int) (a:Nat) (t:Int):0≤ringN l a t∧ringN l a t≤65535:=bellN_bd _
def strokeN (l:List Int) (a:Nat) (t:Int) (n:Int):Int:=(ringN l a t).tmod (max 1 (n+1))
theorem strokeN_bd (l:List Int) (a:Nat) (t:Int) (n:Int):0≤strokeN l a t n∧strokeN l a t n≤max 0 n:=by
  have h1:=ringN_bd l a t
  have h2:0<max 1 (n+1):=by omega
  have h3:=Int.tmod_nonneg (max 1 (n+1)) h1.1
  have h4:=Int.tmod_lt_of_pos (ringN l a t) h2
  unfold strokeN
  omega
section
variable [Yo]
theorem f22 (l:List Int):FG 22 [.sl (l.map u8)] (bellV l 0 0):=by
  refine gives_ofX Try.f22 ?_
  refine V_seq (V_region (S_go 1 (S_end (V_seq (V_region (S_go 4 (S_end (V_ret (E_a [] an ((PV.agg [PV.sl (List.map u8 l),I 0,PV.int IntKind.u32 0]).box) ([]) rfl rfl)))))))))
theorem f86 (l:List Int) (a:Nat) (t:Int) (h:BellOk l a):Gives Try.prog feeH 86 [bellW] [bellV l a t] (I (ringN l a t)) [bellV l (ringA l a) (ringT l a t)]:=by
  refine gives_ofX Try.f86 ?_
  have h1:=h.1
  have h2:=h.2
  have hb:∀ n,-9223372036854775808≤bellN n∧bellN n<9223372036854775808:=fun n=>by have:=bellN_bd n;omega
  refine V_seq (V_region (S_go 1 (S_end (V_seq (V_seq (V_region (S_go 8 (S_a [(0,.n (l.length))] (ap ((by simp):some (List.map u8 l).length=some l.length) an) (S_go 1 (S_end (V_dec ((↑a:Int)=(↑l.length:Int)) (fun k0=>(V_region (S_go 6 (S_go 1 (S_go 6 (S_end (V_seq (V_region (S_go 3 (S_go 1 (S_go 1 (S_go 1 (S_end (V_seq (V_seq (V_region (S_go 4 (S_a [(0,.n (l.length))] (ap ((by simp):some (List.map u8 l).length=some l.length) an) (S_go 1 (S_end (V_dec ((↑l.length:Int)>0) (fun k1=>(V_seq (V_region (S_go 9 (S_a [(2,.v (PV.int IntKind.u8 (l.getD 0 0)))] (ap (getm (0) (by omega):(List.map u8 l)[0]? = some (PV.int IntKind.u8 (l.getD 0 0))) an) (S_go 1 (S_go 1 (S_go 1 (S_go 1 (S_go 1 (S_end (V_region (S_go 8 (S_end (V_seq (V_region (S_go 2 (S_go 1 (S_go 1 (S_go 1 (S_a [(0,.v (I (IntKind.u32.wrap (↑(BitVec.ofInt IntKind.u32.bits (IntKind.u32.wrap (↑(BitVec.ofInt IntKind.u32.bits (IntKind.u32.wrap (IntKind.u32.wrap (30011*IntKind.u32.wrap (t+1))+IntKind.u32.wrap (263*IntKind.u32.wrap (l.getD 0 0)))) ^^^ BitVec.ofInt IntKind.u32.bits ((IntKind.u32.wrap (IntKind.u32.wrap (30011*IntKind.u32.wrap (t+1))+IntKind.u32.wrap (263*IntKind.u32.wrap (l.getD 0 0)))).fdiv (2 ^ min (Int.toNat 7) IntKind.u32.bits))).toNat:Int)) &&& BitVec.ofInt IntKind.u32.bits 65535).toNat:Int))))] (ap ((wrapE rfl ?_):I (IntKind.i64.wrap (IntKind.u32.wrap (↑(BitVec.ofInt IntKind.u32.bits (IntKind.u32.wrap (↑(BitVec.ofInt IntKind.u32.bits (IntKind.u32.wrap (IntKind.u32.wrap (30011*IntKind.u32.wrap (t+1))+IntKind.u32.wrap (263*IntKind.u32.wrap (l.getD 0 0)))) ^^^ BitVec.ofInt IntKind.u32.bits ((IntKind.u32.wrap (IntKind.u32.wrap (30011*IntKind.u32.wrap (t+1))+IntKind.u32.wrap (263*IntKind.u32.wrap (l.getD 0 0)))).fdiv (2 ^ min (Int.toNat 7) IntKind.u32.bits))).toNat:Int)) &&& BitVec.ofInt IntKind.u32.bits 65535).toNat:Int)))=I (IntKind.u32.wrap (↑(BitVec.ofInt IntKind.u32.bits (IntKind.u32.wrap (↑(BitVec.ofInt IntKind.u32.bits (IntKind.u32.wrap (IntKind.u32.wrap (30011*IntKind.u32.wrap (t+1))+IntKind.u32.wrap (263*IntKind.u32.wrap (l.getD 0 0)))) ^^^ BitVec.ofInt IntKind.u32.bits ((IntKind.u32.wrap (IntKind.u32.wrap (30011*IntKind.u32.wrap (t+1))+IntKind.u32.wrap (263*IntKind.u32.wrap (l.getD 0 0)))).fdiv (2 ^ min (Int.toNat 7) IntKind.u32.bits))).toNat:Int)) &&& BitVec.ofInt IntKind.u32.bits 65535).toNat:Int))) an) (S_go 1 (S_end (V_ret (E_a [] an (I (IntKind.u32.wrap (↑(BitVec.ofInt IntKind.u32.bits (IntKind.u32.wrap (↑(BitVec.ofInt IntKind.u32.bits (IntKind.u32.wrap (IntKind.u32.wrap (30011*IntKind.u32.wrap (t+1))+IntKind.u32.wrap (263*IntKind.u32.wrap (l.getD 0 0)))) ^^^ BitVec.ofInt IntKind.u32.bits ((IntKind.u32.wrap (IntKind.u32.wrap (30011*IntKind.u32.wrap (t+1))+IntKind.u32.wrap (263*IntKind.u32.wrap (l.getD 0 0)))).fdiv (2 ^ min (Int.toNat 7) IntKind.u32.bits))).toNat:Int)) &&& BitVec.ofInt IntKind.u32.bits 65535).toNat:Int))) ([(PV.agg [PV.sl (List.map u8 l),I (IntKind.i64.wrap (0+1)),PV.int IntKind.u32 (IntKind.u32.wrap (t+1))]).box]) ?_ ?_))))))))))))))))))))))))) (fun k1=>(V_skip (V_seq (V_region (S_go 2 (S_go 1 (S_go 1 (S_go 1 (S_a [(0,.v (I (IntKind.u32.wrap (↑(BitVec.ofInt IntKind.u32.bits (IntKind.u32.wrap (↑(BitVec.ofInt IntKind.u32.bits (IntKind.u32.wrap (30011*IntKind.u32.wrap (t+1))) ^^^ BitVec.ofInt IntKind.u32.bits ((IntKind.u32.wrap (30011*IntKind.u32.wrap (t+1))).fdiv (2 ^ min (Int.toNat 7) IntKind.u32.bits))).toNat:Int)) &&& BitVec.ofInt IntKind.u32.bits 65535).toNat:Int))))] (ap ((wrapE rfl ?_):I (IntKind.i64.wrap (IntKind.u32.wrap (↑(BitVec.ofInt IntKind.u32.bits (IntKind.u32.wrap (↑(BitVec.ofInt IntKind.u32.bits (IntKind.u32.wrap (30011*IntKind.u32.wrap (t+1))) ^^^ BitVec.ofInt IntKind.u32.bits ((IntKind.u32.wrap (30011*IntKind.u32.wrap (t+1))).fdiv (2 ^ min (Int.toNat 7) IntKind.u32.bits))).toNat:Int)) &&& BitVec.ofInt IntKind.u32.bits 65535).toNat:Int)))=I (IntKind.u32.wrap (↑(BitVec.ofInt IntKind.u32.bits (IntKind.u32.wrap (↑(BitVec.ofInt IntKind.u32.bits (IntKind.u32.wrap (30011*IntKind.u32.wrap (t+1))) ^^^ BitVec.ofInt IntKind.u32.bits ((IntKind.u32.wrap (30011*IntKind.u32.wrap (t+1))).fdiv (2 ^ min (Int.toNat 7) IntKind.u32.bits))).toNat:Int)) &&& BitVec.ofInt IntKind.u32.bits 65535).toNat:Int))) an) (S_go 1 (S_end (V_ret (E_a [] an (I (IntKind.u32.wrap (↑(BitVec.ofInt IntKind.u32.bits (IntKind.u32.wrap (↑(BitVec.ofInt IntKind.u32.bits (IntKind.u32.wrap (30011*IntKind.u32.wrap (t+1))) ^^^ BitVec.ofInt IntKind.u32.bits ((IntKind.u32.wrap (30011*IntKind.u32.wrap (t+1))).fdiv (2 ^ min (Int.toNat 7) IntKind.u32.bits))).toNat:Int)) &&& BitVec.ofInt IntKind.u32.bits 65535).toNat:Int))) ([(PV.agg [PV.sl (List.map u8 l),I 0,PV.int IntKind.u32 (IntKind.u32.wrap (t+1))]).box]) ?_ ?_)))))))))))))))))))))))))))))))))) (fun k0=>(V_skip (V_seq (V_region (S_go 4 (S_go 1 (S_go 1 (S_end (V_seq (V_seq (V_region (S_go 4 (S_a [(0,.n (l.length))] (ap ((by simp):some (List.map u8 l).length=some l.length) an) (S_go 1 (S_end (V_decT ((↑l.length:Int)>0) (by omega) (V_seq (V_region (S_go 9 (S_a [(2,.v (PV.int IntKind.u8 (l.getD a 0)))] (ap (getm (0) (by omega):(List.map u8 l)[a]? = some (PV.int IntKind.u8 (l.getD a 0))) an) (S_go 1 (S_go 1 (S_go 1 (S_go 1 (S_go 1 (S_end (V_region (S_go 4 (S_a [(1,.v (I (↑(a+1):Int)))] (ap ((wrapE (by omega) (by omega)):I (IntKind.i64.wrap ((↑a:Int)+1))=I (↑(a+1):Int)) an) (S_go 3 (S_end (V_seq (V_region (S_go 2 (S_go 1 (S_go 1 (S_go 1 (S_a [(0,.v (I (IntKind.u32.wrap (↑(BitVec.ofInt IntKind.u32.bits (IntKind.u32.wrap (↑(BitVec.ofInt IntKind.u32.bits (IntKind.u32.wrap (IntKind.u32.wrap (30011*t)+IntKind.u32.wrap (263*IntKind.u32.wrap (l.getD a 0)))) ^^^ BitVec.ofInt IntKind.u32.bits ((IntKind.u32.wrap (IntKind.u32.wrap (30011*t)+IntKind.u32.wrap (263*IntKind.u32.wrap (l.getD a 0)))).fdiv (2 ^ min (Int.toNat 7) IntKind.u32.bits))).toNat:Int)) &&& BitVec.ofInt IntKind.u32.bits 65535).toNat:Int))))] (ap ((wrapE rfl ?_):I (IntKind.i64.wrap (IntKind.u32.wrap (↑(BitVec.ofInt IntKind.u32.bits (IntKind.u32.wrap (↑(BitVec.ofInt IntKind.u32.bits (IntKind.u32.wrap (IntKind.u32.wrap (30011*t)+IntKind.u32.wrap (263*IntKind.u32.wrap (l.getD a 0)))) ^^^ BitVec.ofInt IntKind.u32.bits ((IntKind.u32.wrap (IntKind.u32.wrap (30011*t)+IntKind.u32.wrap (263*IntKind.u32.wrap (l.getD a 0)))).fdiv (2 ^ min (Int.toNat 7) IntKind.u32.bits))).toNat:Int)) &&& BitVec.ofInt IntKind.u32.bits 65535).toNat:Int)))=I (IntKind.u32.wrap (↑(BitVec.ofInt IntKind.u32.bits (IntKind.u32.wrap (↑(BitVec.ofInt IntKind.u32.bits (IntKind.u32.wrap (IntKind.u32.wrap (30011*t)+IntKind.u32.wrap (263*IntKind.u32.wrap (l.getD a 0)))) ^^^ BitVec.ofInt IntKind.u32.bits ((IntKind.u32.wrap (IntKind.u32.wrap (30011*t)+IntKind.u32.wrap (263*IntKind.u32.wrap (l.getD a 0)))).fdiv (2 ^ min (Int.toNat 7) IntKind.u32.bits))).toNat:Int)) &&& BitVec.ofInt IntKind.u32.bits 65535).toNat:Int))) an) (S_go 1 (S_end (V_ret (E_a [] an (I (IntKind.u32.wrap (↑(BitVec.ofInt IntKind.u32.bits (IntKind.u32.wrap (↑(BitVec.ofInt IntKind.u32.bits (IntKind.u32.wrap (IntKind.u32.wrap (30011*t)+IntKind.u32.wrap (263*IntKind.u32.wrap (l.getD a 0)))) ^^^ BitVec.ofInt IntKind.u32.bits ((IntKind.u32.wrap (IntKind.u32.wrap (30011*t)+IntKind.u32.wrap (263*IntKind.u32.wrap (l.getD a 0)))).fdiv (2 ^ min (Int.toNat 7) IntKind.u32.bits))).toNat:Int)) &&& BitVec.ofInt IntKind.u32.bits 65535).toNat:Int))) ([(PV.agg [PV.sl (List.map u8 l),I (↑(a+1):Int),PV.int IntKind.u32 t]).box]) ?_ ?_)))))))))))))))))))))))))))))))))))))))))))))))))))))
  · exact hb _
  · have e1:a=l.length:=by omega
    have e2:0<l.length:=by omega
    simp only [ringN,ringA0,ringT,e1,e2,if_true];rfl
  · have e1:a=l.length:=by omega
    have e2:0<l.length:=by omega
    simp only [ringA,ringA0,ringT,e1,e2,if_true];rfl
  · exact hb _
  · have e1:a=l.length:=by omega
    have e2:¬ 0<l.length:=by omega
    simp only [ringN,ringA0,ringT,e1,e2,if_true,if_false];rfl
  · have e1:a=l.length:=by omega
    have e2:¬ 0<l.length:=by omega
    simp only [ringA,ringA0,ringT,e1,e2,if_true,if_false];rfl
  · exact hb _
  · have e1:¬ a=l.length:=by omega
    have e2:0<l.length:=by omega
    simp only [ringN,ringA0,ringT,e1,e2,if_true,if_false];rfl
  · have e1:¬ a=l.length:=by omega
    have e2:0<l.length:=by omega
    simp only [ringA,ringA0,ringT,e1,e2,if_true,if_false]
theorem f24 (l:List Int) (a:Nat) (t:Int) (n:Int) (h:BellOk l a) (hn : -9000000000000000000≤n∧n≤9000000000000000000):Gives Try.prog feeH 24 [bellW,I n] [bellV l a t] (I (strokeN l a t n)) [bellV l (ringA l a) (ringT l a t)]:=by
  refine gives_ofX Try.f24 ?_
  have e:(if n+1>1 then n+1 else 1)=max 1 (n+1):=by split<;>omega
  refine V_seq (V_region (S_go 1 (S_end (V_seq (V_region (S_go 1 (S_a [(4,.ret (I (ringN l a t)) ([bellV l (ringA l a) (ringT l a t)]))] (ap (f86 (l) (a) (t) (by omega)) an) (S_go 1 (S_a [(1,.v (I (n+1)))] (ap ((wrapE rfl (by omega)):I (IntKind.i64.wrap (n+1))=I (n+1)) an) (S_go 1 (S_a [(0,.v (I ((ringN l a t).tmod (if n+1>1 then n+1 else 1))))] (ap (bv_rem (by omega) rfl:binV Try.prog BinOp.rem 3 (I (ringN l a t)) (I (if n+1>1 then n+1 else 1))=some (I ((ringN l a t).tmod (if n+1>1 then n+1 else 1)))) an) (S_go 1 (S_end (V_ret (E_a [] an (I ((ringN l a t).tmod (if n+1>1 then n+1 else 1))) ([(PV.agg [PV.sl (List.map u8 l),I (↑(ringA l a):Int),PV.int IntKind.u32 (ringT l a t)]).box]) ?_ rfl)))))))))))))))
  rw [e];rfl
theorem f27 (l:List Int) (a:Nat) (t:Int) (lo hi:Int) (h:BellOk l a) (hl:0≤lo∧lo≤1000000) (hn:0≤hi∧hi≤1000000):Gives Try.prog feeH 27 [bellW,I lo,I hi] [bellV l a t] (I (lo+strokeN l a t (hi-lo))) [bellV l (ringA l a) (ringT l a t)]:=by
  refine gives_ofX Try.f27 ?_
  have:=strokeN_bd l a t (hi-lo)
  refine V_seq (V_region (S_go 1 (S_end (V_seq (V_region (S_go 4 (S_a [(1,.v (I (hi-lo)))] (ap ((wrapE rfl (by omega)):I (IntKind.i64.wrap (hi-lo))=I (hi-lo)) an) (S_a [(6,.ret (I (strokeN l a t (hi-lo))) ([bellV l (ringA l a) (ringT l a t)]))] (ap (f24 (l) (a) (t) (hi-lo) (by omega) (by omega)) an) (S_a [(1,.v (I (lo+strokeN l a t (hi-lo))))] (ap ((wrapE rfl (by omega)):I (IntKind.i64.wrap (lo+strokeN l a t (hi-lo)))=I (lo+strokeN l a t (hi-lo))) an) (S_go 1 (S_end (V_ret (E_a [] an (I (lo+strokeN l a t (hi-lo))) ([(PV.agg [PV.sl (List.map u8 l),I (↑(ringA l a):Int),PV.int IntKind.u32 (ringT l a t)]).box]) rfl rfl)))))))))))))
theorem f28 (l:List Int) (a:Nat) (t:Int) (n:Int) (h:BellOk l a) (hn:0≤n∧n≤1000000):Gives Try.prog feeH 28 [bellW,I n] [bellV l a t] (.bool (decide (strokeN l a t (n-1)=0))) [bellV l (ringA l a) (ringT l a t)]:=by
  refine gives_ofX Try.f28 ?_
  refine V_seq (V_region (S_go 1 (S_end (V_seq (V_region (S_go 2 (S_a [(1,.v (I (n-1)))] (ap ((wrapE rfl (by omega)):I (IntKind.i64.wrap (n-1))=I (n-1)) an) (S_a [(6,.ret (I (strokeN l a t (n-1))) ([bellV l (ringA l a) (ringT l a t)]))] (ap (f24 (l) (a) (t) (n-1) (by omega) (by omega)) an) (S_go 2 (S_end (V_ret (E_a [] an (PV.bool (strokeN l a t (n-1)==0)) ([(PV.agg [PV.sl (List.map u8 l),I (↑(ringA l a):Int),PV.int IntKind.u32 (ringT l a t)]).box]) rfl rfl))))))))))))
end
end Go.Eng
set_option maxRecDepth 10000
set_option maxHeartbeats 4000000
namespace Go.Eng
open Go Go.Proofs
theorem good_box {b:Dk} (h:Good b):boxErr b=0:=by
  have h1:(!(decide (1≤b.cr)&&decide (b.cr≤4)))=false:=by have:=h.cr;simp;omega
  have h2:¬ (b.rs.length:Int)>7:=by have:=h.len;omega
  have h3:(!(decide (0≤b.wd)&&decide (b.wd≤20)))=false:=by have:=h.wd;simp;omega
  have h4:(!(decide (0≤b.st)&&decide (b.st≤20)))=false:=by have:=h.st;simp;omega
  have h5:(!(decide (0≤b.fn)&&decide (b.fn≤20)))=false:=by have:=h.fn;simp;omega
  have h6:(!b.rs.all rndNum)=false:=by
    simp only [Bool.not_eq_false',List.all_eq_true]
    intro r hr
    have:=h.num r hr
    simp [rndNum];omega
  have h7:∀ rs:List Rnd,(∀ r∈rs,r∈b.rs)→rndsErr b.cr rs=0:=by
    intro rs
    induction rs with
    | nil=>intro _;rfl
    | cons r rs ih =>
      intro hm
      have h8:=h.may r (hm r (by simp))
      have h9:(!r.may.all (fun x=>decide (0≤x)&&decide (x≤b.cr-1)))=false:=by
        simp only [Bool.not_eq_false',List.all_eq_true]
        intro x hx;have:=h8.2.1 x hx;simp;omega
      have e:rndErr b.cr r=0:=by simp only [rndErr,h8.1,h9,h8.2.2,if_false];rfl
      simp only [rndsErr,e,if_true]
      exact ih fun q hq=>hm q (by simp [hq])
  simp only [boxErr,h1,h2,h3,h4,h5,h6,if_false]
  exact h7 _ fun _ h=>h
theorem incr_app {l:List Int} {x:Int} (h:incr l=true) (hx:∀ y∈l,y<x):incr (l++[x])=true:=by
  refine incr_t fun j hj=>?_
  simp only [List.length_append,List.length_singleton] at hj
  rcases Nat.lt_or_ge (j+1) l.length with h1 | h1
  · have:=incr_get h h1
    simpa [List.getD_eq_getElem?_getD,List.getElem?_append_left h1,List.getElem?_append_left (show j<l.length by omega)] using this
  · have e:l.length=j+1:=by omega
    have h2:l.getD j 0<x:=hx _ (by rw [getD_lt (by omega)];exact List.getElem_mem _)
    have e2:(l++[x]).getD (j+1) 0=x:=by rw [← e];simp
    have e3:(l++[x]).getD j 0=l.getD j 0:=by simp [List.getD_eq_getElem?_getD,List.getElem?_append_left (show j<l.length by omega)]
    rw [e2,e3];exact h2
theorem incr_len {l:List Int} {n:Int} (h:incr l=true) (hx:∀ x∈l,0≤x∧x≤n-1) (hn:1≤n∧n≤4):l.length≤4:=by
  have:∀ j,j<l.length→(j:Int)≤l.getD j 0:=by
    intro j
    induction j with
    | zero=>intro hj;exact (getD_all hx 0 hj).1
    | succ j ih =>
      intro hj
      have h1:=ih (by omega)
      have h2:=incr_get h hj
      omega
  rcases Nat.lt_or_ge 4 l.length with h4 | h4
  · have h1:=this 4 h4
    have h2:=getD_all hx 4 h4
    omega
  · exact h4
abbrev boxO (b:Dk):PV := .agg [I b.cr,I b.wd,I b.st,I b.fn,.own 3 (b.rs.map rndO)]
structure RndOk (cr:Int) (r:Rnd):Prop where
  w:1≤r.w∧r.w≤9
  s:1≤r.s∧r.s≤5
  n:r.may.length≠0
  may:∀ x∈r.may,0≤x∧x≤cr-1
  inc:incr r.may=true
section
variable [Yo]
theorem f21_ex (l:List Int) (a:Nat) (t n:Int) (h:BellOk l a) (hn:0≤n∧n≤7):∃ v h',Gives Try.prog feeH 21 [bellW,I n] [bellV l a t] v h'∧∃ b a' t',v=boxO b∧h'=[bellV l a' t']∧Good b∧(b.rs.length:Int)≤n∧BellOk l a':=by
  refine gives_exX Try.f21 _ ?_
  have g1:=ringA_ok h
  have g2:=ringA_ok g1
  have g3:=ringA_ok g2
  have g4:=ringA_ok g3
  have g5:=ringA_ok g4
  have s1:=strokeN_bd l a t (4-1)
  have s2:=strokeN_bd l (ringA l a) (ringT l a t) 4
  have s3:=strokeN_bd l (ringA l (ringA l a)) (ringT l (ringA l a) (ringT l a t)) 6
  have s4:=strokeN_bd l (ringA l (ringA l (ringA l a))) (ringT l (ringA l (ringA l a)) (ringT l (ringA l a) (ringT l a t))) 3
  have s5:=strokeN_bd l (ringA l (ringA l (ringA l (ringA l a)))) (ringT l (ringA l (ringA l (ringA l a))) (ringT l (ringA l (ringA l a)) (ringT l (ringA l a) (ringT l a t)))) n
  refine V_seq (V_region (S_go 1 (S_end (V_seq (V_region (S_go 1 (S_a [(8,.ret (I (1+strokeN l a t (4-1))) ([bellV l (ringA l a) (ringT l a t)]))] (ap (f27 (l) (a) (t) (1) (4) (by omega) (by omega) (by omega)) an) (S_go 1 (S_a [(6,.ret (I (strokeN l (ringA l a) (ringT l a t) 4)) ([bellV l (ringA l (ringA l a)) (ringT l (ringA l a) (ringT l a t))]))] (ap (f24 (l) (ringA l a) (ringT l a t) (4) (by omega) (by omega)) an) (S_go 1 (S_a [(6,.ret (I (strokeN l (ringA l (ringA l a)) (ringT l (ringA l a) (ringT l a t)) 6)) ([bellV l (ringA l (ringA l (ringA l a))) (ringT l (ringA l (ringA l a)) (ringT l (ringA l a) (ringT l a t)))]))] (ap (f24 (l) (ringA l (ringA l a)) (ringT l (ringA l a) (ringT l a t)) (6) (by omega) (by omega)) an) (S_go 1 (S_a [(6,.ret (I (strokeN l (ringA l (ringA l (ringA l a))) (ringT l (ringA l (ringA l a)) (ringT l (ringA l a) (ringT l a t))) 3)) ([bellV l (ringA l (ringA l (ringA l (ringA l a)))) (ringT l (ringA l (ringA l (ringA l a))) (ringT l (ringA l (ringA l a)) (ringT l (ringA l a) (ringT l a t))))]))] (ap (f24 (l) (ringA l (ringA l (ringA l a))) (ringT l (ringA l (ringA l a)) (ringT l (ringA l a) (ringT l a t))) (3) (by omega) (by omega)) an) (S_go 3 (S_end (V_seq (V_seq (V_region (S_go 2 (S_a [(6,.ret (I (strokeN l (ringA l (ringA l (ringA l (ringA l a)))) (ringT l (ringA l (ringA l (ringA l a))) (ringT l (ringA l (ringA l a)) (ringT l (ringA l a) (ringT l a t)))) n)) ([bellV l (ringA l (ringA l (ringA l (ringA l (ringA l a))))) (ringT l (ringA l (ringA l (ringA l (ringA l a)))) (ringT l (ringA l (ringA l (ringA l a))) (ringT l (ringA l (ringA l a)) (ringT l (ringA l a) (ringT l a t)))))]))] (ap (f24 (l) (ringA l (ringA l (ringA l (ringA l a)))) (ringT l (ringA l (ringA l (ringA l a))) (ringT l (ringA l (ringA l a)) (ringT l (ringA l a) (ringT l a t)))) (n) (by omega) (by omega)) an) (S_go 1 (S_end (V_block 0 ?_)))))))))))))))))))))))
  generalize ringT l (ringA l (ringA l (ringA l (ringA l a)))) (ringT l (ringA l (ringA l (ringA l a))) (ringT l (ringA l (ringA l a)) (ringT l (ringA l a) (ringT l a t))))=T at *
  generalize strokeN l (ringA l (ringA l (ringA l (ringA l a)))) (ringT l (ringA l (ringA l (ringA l a))) (ringT l (ringA l (ringA l a)) (ringT l (ringA l a) (ringT l a t)))) n=m at *
  generalize strokeN l (ringA l (ringA l (ringA l a))) (ringT l (ringA l (ringA l a)) (ringT l (ringA l a) (ringT l a t))) 3=fn at *
  generalize strokeN l (ringA l (ringA l a)) (ringT l (ringA l a) (ringT l a t)) 6=st at *
  generalize strokeN l (ringA l a) (ringT l a t) 4=wd at *
  generalize hcr:1+strokeN l a t (4-1)=cr at *
  generalize ringA l (ringA l (ringA l (ringA l (ringA l a))))=A at *
  refine V_loopS (fun (i,q,a,t)=>(i:Int)≤m∧q.length=i∧(∀ r∈q,RndOk cr r)∧BellOk l a) (fun (i,q,a,t)=>[(5,.box (.agg [I cr,I wd,I st,I fn,.own 3 (q.map rndO)])),(21,I (i:Nat)),(50000000,bellV l a t)]) (fun (i,_,_,_)=>m.toNat-i) ((0:Nat),([]:List Rnd),A,T) ⟨by omega,rfl,by simp,g5⟩ fun (i,q,a,t) ⟨hi,hq,hr,ha⟩=>?_
  have g1:=ringA_ok ha
  have g2:=ringA_ok g1
  have g3:=ringA_ok g2
  have u1:=strokeN_bd l a t (9-1)
  have u2:=strokeN_bd l (ringA l a) (ringT l a t) (5-1)
  have u3:=strokeN_bd l (ringA l (ringA l a)) (ringT l (ringA l a) (ringT l a t)) (cr-1)
  refine V_seq (V_region (S_go 1 (S_end (V_seq (V_dec ((↑i:Int)<m) (fun k0=>(V_skip (V_seq (V_block 1 (V_seq (V_region (S_go 1 (S_a [(8,.ret (I (1+strokeN l a t (9-1))) ([bellV l (ringA l a) (ringT l a t)]))] (ap (f27 (l) (a) (t) (1) (9) (by omega) (by omega) (by omega)) an) (S_go 1 (S_a [(8,.ret (I (1+strokeN l (ringA l a) (ringT l a t) (5-1))) ([bellV l (ringA l (ringA l a)) (ringT l (ringA l a) (ringT l a t))]))] (ap (f27 (l) (ringA l a) (ringT l a t) (1) (5) (by omega) (by omega) (by omega)) an) (S_go 3 (S_end (V_seq (V_region (S_go 3 (S_a [(1,.v (I (cr-1)))] (ap ((wrapE rfl (by omega)):I (IntKind.i64.wrap (cr-1))=I (cr-1)) an) (S_a [(6,.ret (I (strokeN l (ringA l (ringA l a)) (ringT l (ringA l a) (ringT l a t)) (cr-1))) ([bellV l (ringA l (ringA l (ringA l a))) (ringT l (ringA l (ringA l a)) (ringT l (ringA l a) (ringT l a t)))]))] (ap (f24 (l) (ringA l (ringA l a)) (ringT l (ringA l a) (ringT l a t)) (cr-1) (by omega) (by omega)) an) (S_go 1 (S_end (V_seq (V_seq (V_region (S_go 3 (S_end (V_block 2 ?_))))))))))))))))))))))))) (fun k0=>(V_exit 0 (V_seq (V_region (S_go 1 (S_a [(4,.yes)] (ap ((by exact beq_of (by simp<;>omega)):(Nat.beq 0 0&&(List.map rndO q).length.beq (List.map rndO q).length)=true) an) (S_end (V_ret (E_q [(7,.yes),(1,.v (PV.own 3 (List.map rndO q)))] (ap ((by exact ble_of (by simp only [List.length_map,List.length_set,List.length_append,List.length_cons,List.length_nil,limit]<;>omega)):(0+(List.map rndO q).length).ble (List.map rndO q).length=true) (ap ((by simp [take_mapL]):PV.own 3 (List.take (List.map rndO q).length (List.drop 0 (List.map rndO q)))=PV.own 3 (List.map rndO q)) an)) (PV.agg [I cr,I wd,I st,I fn,PV.own 3 (List.map rndO q)]) ([(PV.agg [PV.sl (List.map u8 l),I (↑a:Int),PV.int IntKind.u32 t]).box]) ?_))))))))))))))
  · generalize ringT l (ringA l (ringA l a)) (ringT l (ringA l a) (ringT l a t))=T2 at *
    generalize strokeN l (ringA l (ringA l a)) (ringT l (ringA l a) (ringT l a t)) (cr-1)=su at *
    generalize hw2:1+strokeN l (ringA l a) (ringT l a t) (5-1)=w2 at *
    generalize hw1:1+strokeN l a t (9-1)=w1 at *
    generalize ringA l (ringA l (ringA l a))=A2 at *
    have hcr1:1≤cr∧cr≤4:=by omega
    refine V_loopS (fun (c,p,a,t)=>(c:Int)≤cr∧(∀ x∈p,0≤x∧x<c)∧incr p=true∧(su<c→p.length≠0)∧p.length≤c∧BellOk l a) (fun (c,p,a,t)=>[(6,.box (.agg [I w1,I w2,.own 1 (p.map I)])),(35,I (c:Nat)),(50000000,bellV l a t)]) (fun (c,_,_,_)=>cr.toNat-c) ((0:Nat),([]:List Int),A2,T2) ⟨by omega,by simp,rfl,by omega,Nat.le_refl _,g3⟩ fun (c,p,a,t) ⟨hc,hp1,hp2,hp3,hp4,ha⟩=>?_
    have g1:=ringA_ok ha
    have g2:=ringA_ok g1
    have hap:∀ x∈p++[(c:Int)],0≤x∧x<(c+1:Nat):=fun x hx=>by
      rcases List.mem_append.1 hx with hx | hx
      · have:=hp1 x hx;omega
      · rw [List.mem_singleton] at hx;omega
    have hai:incr (p++[(c:Int)])=true:=incr_app hp2 fun y hy=>(hp1 y hy).2
    have hal:(p++[(c:Int)]).length=p.length+1:=by simp
    refine V_seq (V_region (S_go 1 (S_end (V_seq (V_dec ((↑c:Int)<cr) (fun k1=>(V_skip (V_seq (V_block 3 (V_seq (V_region (S_go 2 (S_end (V_seq (V_region (S_go 4 (S_dec 41 ((↑c:Int)=su) (fun k2=>(S_go 4 (S_end (V_true (V_region (S_go 1 (S_a [(1,.v (PV.bor 6 [(0,2)] 1 0 p.length))] (ap ((by simp):PV.bor 6 [(0,2)] 1 0 (List.map I p).length=PV.bor 6 [(0,2)] 1 0 p.length) an) (S_go 2 (S_a [(4,.ob),(0,.ob),(0,.ob),(2,.v (PV.own 1 (List.map I (p++[(↑c:Int)]))))] (ap ((by exact ble_of (by simp only [List.length_map,List.length_set,List.length_append,List.length_cons,List.length_nil,limit]<;>omega)):(0+p.length).ble (List.map I p).length=true) (ap ((by exact ble_of (by simp only [List.length_map,List.length_set,List.length_append,List.length_cons,List.length_nil,limit]<;>omega)):((List.map I p).length + [I (↑c:Int)].length).ble limit=true) (ap ((by exact beq_of (by simp<;>omega)):(0+p.length).beq (List.map I p).length=true) (ap ((by simp):PV.own 1 (List.map I p++[I (↑c:Int)])=PV.own 1 (List.map I (p++[(↑c:Int)]))) an)))) (S_go 2 (S_end (V_region (S_a [(1,.v (I (↑(c+1):Int)))] (ap ((wrapE (by omega) (by omega)):I (IntKind.i64.wrap ((↑c:Int)+1))=I (↑(c+1):Int)) an) (S_go 1 (S_end ?_))))))))))))))) (fun k2=>(S_go 1 (S_a [(6,.ret (PV.bool (decide (strokeN l a t (3-1)=0))) ([bellV l (ringA l a) (ringT l a t)]))] (ap (f28 (l) (a) (t) (3) (by omega) (by omega)) an) (S_go 2 (S_end (V_ndec (strokeN l a t (3-1)=0) (fun k3=>(V_region (S_go 1 (S_a [(1,.v (PV.bor 6 [(0,2)] 1 0 p.length))] (ap ((by simp):PV.bor 6 [(0,2)] 1 0 (List.map I p).length=PV.bor 6 [(0,2)] 1 0 p.length) an) (S_go 2 (S_a [(4,.ob),(0,.ob),(0,.ob),(2,.v (PV.own 1 (List.map I (p++[(↑c:Int)]))))] (ap ((by exact ble_of (by simp only [List.length_map,List.length_set,List.length_append,List.length_cons,List.length_nil,limit]<;>omega)):(0+p.length).ble (List.map I p).length=true) (ap ((by exact ble_of (by simp only [List.length_map,List.length_set,List.length_append,List.length_cons,List.length_nil,limit]<;>omega)):((List.map I p).length + [I (↑c:Int)].length).ble limit=true) (ap ((by exact beq_of (by simp<;>omega)):(0+p.length).beq (List.map I p).length=true) (ap ((by simp):PV.own 1 (List.map I p++[I (↑c:Int)])=PV.own 1 (List.map I (p++[(↑c:Int)]))) an)))) (S_go 2 (S_end (V_region (S_a [(1,.v (I (↑(c+1):Int)))] (ap ((wrapE (by omega) (by omega)):I (IntKind.i64.wrap ((↑c:Int)+1))=I (↑(c+1):Int)) an) (S_go 1 (S_end ?_)))))))))))) (fun k3=>(V_skip (V_region (S_a [(1,.v (I (↑(c+1):Int)))] (ap ((wrapE (by omega) (by omega)):I (IntKind.i64.wrap ((↑c:Int)+1))=I (↑(c+1):Int)) an) (S_go 1 (S_end ?_)))))))))))))))))))))))) (fun k1=>(V_exit 2 (V_region (S_go 1 (S_a [(1,.v (PV.bor 5 [(0,4)] 3 0 q.length))] (ap ((by simp):PV.bor 5 [(0,4)] 3 0 (List.map rndO q).length=PV.bor 5 [(0,4)] 3 0 q.length) an) (S_go 1 (S_a [(2,.yes)] (ap ((by exact beq_of (by simp<;>omega)):(Nat.beq 0 0&&(List.map I p).length.beq (List.map I p).length)=true) an) (S_a [(4,.ob),(0,.ob),(0,.ob),(2,.v (PV.own 3 (List.map rndO (q++[{w:=w1,s:=w2,may:=p}]))))] (ap ((by exact ble_of (by simp only [List.length_map,List.length_set,List.length_append,List.length_cons,List.length_nil,limit]<;>omega)):(0+q.length).ble (List.map rndO q).length=true) (ap ((by exact ble_of (by simp only [List.length_map,List.length_set,List.length_append,List.length_cons,List.length_nil,limit]<;>omega)):((List.map rndO q).length + [PV.agg [I w1,I w2,PV.own 1 (List.map I p)]].length).ble limit=true) (ap ((by exact beq_of (by simp<;>omega)):(0+q.length).beq (List.map rndO q).length=true) (ap ((by simp):PV.own 3 (List.map rndO q++[PV.agg [I w1,I w2,PV.own 1 (List.map I p)]])=PV.own 3 (List.map rndO (q++[{w:=w1,s:=w2,may:=p}]))) an)))) (S_go 2 (S_end (V_region (S_a [(1,.v (I (↑(i+1):Int)))] (ap ((wrapE (by omega) (by omega)):I (IntKind.i64.wrap ((↑i:Int)+1))=I (↑(i+1):Int)) an) (S_go 1 (S_end ?_)))))))))))))))))))
    · exact ⟨(c+1,p++[(c:Int)],a,t),⟨by omega,hap,hai,by omega,by omega,ha⟩,by simp only;omega,by kernel_rfl,by kernel_rfl⟩
    · exact ⟨(c+1,p++[(c:Int)],ringA l a,ringT l a t),⟨by omega,hap,hai,by omega,by omega,g1⟩,by simp only;omega,by kernel_rfl,by kernel_rfl⟩
    · exact ⟨(c+1,p,ringA l a,ringT l a t),⟨by omega,fun x hx=>by have:=hp1 x hx;omega,hp2,fun h=>hp3 (by omega),by omega,g1⟩,by simp only;omega,by kernel_rfl,by kernel_rfl⟩
    · refine ⟨(i+1,q++[⟨w1,w2,p⟩],a,t),⟨by omega,by simp [hq],fun r hr'=>?_,ha⟩,by simp only;omega,by kernel_rfl,by kernel_rfl⟩
      rcases List.mem_append.1 hr' with hr' | hr'
      · exact hr r hr'
      · rw [List.mem_singleton] at hr';subst hr'
        exact ⟨by simp only;omega,by simp only;omega,hp3 (by omega),fun x hx=>by have:=hp1 x hx;omega,hp2⟩
  · refine ⟨⟨cr,wd,st,fn,q⟩,a,t,rfl,rfl,⟨by simp only;omega,by simp only;omega,by simp only;omega,by simp only;omega,by simp only;omega,fun r h=>⟨(hr r h).w,(hr r h).s⟩,fun r h=>⟨(hr r h).n,(hr r h).may,(hr r h).inc⟩⟩,by simp only;omega,ha⟩
theorem f57 (b:Dk) (r:Nat) (hr:r<b.rs.length) (hg:Good b):FG 57 [boxV b,I r] (I (feeOf b (rnd b r))):=by
  refine gives_ofX Try.f57 ?_
  have h1:=hg.wd
  have h2:=hg.st
  have h3:=rnd_num hg hr
  have h4:0≤(b.rs.getD r default).w*b.wd∧(b.rs.getD r default).w*b.wd≤9*20:=⟨Int.mul_nonneg (by omega) (by omega),Int.mul_le_mul (by omega) (by omega) (by omega) (by omega)⟩
  have h5:0≤(b.rs.getD r default).s*(b.st+(b.rs.getD r default).w*b.wd)∧(b.rs.getD r default).s*(b.st+(b.rs.getD r default).w*b.wd)≤1000:=feeOf_bd hg h3
  refine V_seq (V_region (S_go 2 (S_end (V_seq (V_region (S_go 3 (S_a [(2,.v (PV.agg [I (b.rs.getD r default).w,I (b.rs.getD r default).s,PV.sl (List.map I (b.rs.getD r default).may)]))] (ap (getm (default) (by omega):(List.map rndV b.rs)[r]? = some (PV.agg [I (b.rs.getD r default).w,I (b.rs.getD r default).s,PV.sl (List.map I (b.rs.getD r default).may)])) an) (S_go 3 (S_end (V_seq (V_region (S_go 8 (S_a [(1,.v (I ((b.rs.getD r default).w*b.wd)))] (ap ((wrapE rfl (by omega)):I (IntKind.i64.wrap ((b.rs.getD r default).w*b.wd))=I ((b.rs.getD r default).w*b.wd)) an) (S_a [(1,.v (I (b.st+(b.rs.getD r default).w*b.wd)))] (ap ((wrapE rfl (by omega)):I (IntKind.i64.wrap (b.st+(b.rs.getD r default).w*b.wd))=I (b.st+(b.rs.getD r default).w*b.wd)) an) (S_a [(1,.v (I ((b.rs.getD r default).s*(b.st+(b.rs.getD r default).w*b.wd))))] (ap ((wrapE rfl (by omega)):I (IntKind.i64.wrap ((b.rs.getD r default).s*(b.st+(b.rs.getD r default).w*b.wd)))=I ((b.rs.getD r default).s*(b.st+(b.rs.getD r default).w*b.wd))) an) (S_go 1 (S_end (V_ret (E_a [] an (I ((b.rs.getD r default).s*(b.st+(b.rs.getD r default).w*b.wd))) ([]) rfl rfl)))))))))))))))))))
theorem f23_ex (l:List Int) (a:Nat) (t:Int) (b:Dk) (h:BellOk l a) (hg:Good b):∃ v h',Gives Try.prog feeH 23 [bellW,boxV b] [bellV l a t] v h'∧∃ s a' t',v = .own 1 (s.map I)∧h'=[bellV l a' t']∧ShareOk b s∧BellOk l a':=by
  refine gives_exX Try.f23 _ ?_
  have hlen:=hg.len
  have hcr:=hg.cr
  refine V_seq (V_region (S_go 2 (S_end (V_seq (V_region (S_go 1 (S_end (V_seq (V_seq (V_region (S_go 2 (S_a [(0,.n (b.rs.length))] (ap ((by simp):some (List.map rndV b.rs).length=some b.rs.length) an) (S_go 1 (S_end (V_block 0 ?_)))))))))))))))
  refine V_loopS (fun (i,s,a,t)=>i≤b.rs.length∧BellOk l a∧s.length=i∧(∀ r,r<i→has (rnd b r).may (s.getD r 0)=true∧0≤s.getD r 0∧s.getD r 0≤b.cr-1)) (fun (i,s,a,t)=>[(5,.own 1 (s.map I)),(11,I (i:Nat)),(50000000,bellV l a t)]) (fun (i,_,_,_)=>b.rs.length-i) ((0:Nat),([]:List Int),a,t) ⟨Nat.zero_le _,h,rfl,fun r hr=>absurd hr (Nat.not_lt_zero _)⟩ fun (i,s,a,t) ⟨hi,ha,hs,hm⟩=>?_
  have hma:i<b.rs.length→(b.rs.getD i default).may.length≠0∧(b.rs.getD i default).may.length≤4:=fun h=>⟨(good_may hg h).1,incr_len (good_may hg h).2.2 (good_may hg h).2.1 hcr⟩
  have hst:=strokeN_bd l a t ((((b.rs.getD i default).may.length-1:Nat):Int))
  have g1:=ringA_ok ha
  refine V_seq (V_region (S_go 1 (S_end (V_seq (V_dec ((↑i:Int)<(↑b.rs.length:Int)) (fun k0=>(V_skip (V_seq (V_block 1 (V_seq (V_region (S_a [(2,.v (PV.agg [I (b.rs.getD i default).w,I (b.rs.getD i default).s,PV.sl (List.map I (b.rs.getD i default).may)]))] (ap (getm (default) (by omega):(List.map rndV b.rs)[i]? = some (PV.agg [I (b.rs.getD i default).w,I (b.rs.getD i default).s,PV.sl (List.map I (b.rs.getD i default).may)])) an) (S_go 3 (S_end (V_region (S_go 6 (S_a [(0,.n ((b.rs.getD i default).may.length))] (ap ((by simp):some (List.map I (b.rs.getD i default).may).length=some (b.rs.getD i default).may.length) an) (S_a [(1,.v (I (↑((b.rs.getD i default).may.length-1):Int)))] (ap ((wrapE (by omega) (by omega)):I (IntKind.i64.wrap ((↑(b.rs.getD i default).may.length:Int)-1))=I (↑((b.rs.getD i default).may.length-1):Int)) an) (S_a [(6,.ret (I (strokeN l a t (↑((b.rs.getD i default).may.length-1):Int))) ([bellV l (ringA l a) (ringT l a t)]))] (ap (f24 (l) (a) (t) ((↑((b.rs.getD i default).may.length-1):Int)) (by omega) (by omega)) an) (S_a [(0,.ob),(1,.v (I ((b.rs.getD i default).may.getD (strokeN l a t (↑((b.rs.getD i default).may.length-1):Int)).toNat 0)))] (ap ((by exact dec_of (by omega)):decide (0≤strokeN l a t (↑((b.rs.getD i default).may.length-1):Int))=true) (ap (getm (0) (by omega):(List.map I (b.rs.getD i default).may)[(strokeN l a t (↑((b.rs.getD i default).may.length-1):Int)).toNat]? = some (I ((b.rs.getD i default).may.getD (strokeN l a t (↑((b.rs.getD i default).may.length-1):Int)).toNat 0))) an)) (S_go 2 (S_a [(4,.ob),(0,.ob),(0,.ob),(2,.v (PV.own 1 (List.map I (s++[(b.rs.getD i default).may.getD (strokeN l a t (↑((b.rs.getD i default).may.length-1):Int)).toNat 0]))))] (ap ((by exact ble_of (by simp only [List.length_map,List.length_set,List.length_append,List.length_cons,List.length_nil,limit]<;>omega)):(0+(List.map I s).length).ble (List.map I s).length=true) (ap ((by exact ble_of (by simp only [List.length_map,List.length_set,List.length_append,List.length_cons,List.length_nil,limit]<;>omega)):((List.map I s).length + [I ((b.rs.getD i default).may.getD (strokeN l a t (↑((b.rs.getD i default).may.length-1):Int)).toNat 0)].length).ble limit=true) (ap ((by exact beq_of (by simp<;>omega)):(0+(List.map I s).length).beq (List.map I s).length=true) (ap ((by simp):PV.own 1 (List.map I s++[I ((b.rs.getD i default).may.getD (strokeN l a t (↑((b.rs.getD i default).may.length-1):Int)).toNat 0)])=PV.own 1 (List.map I (s++[(b.rs.getD i default).may.getD (strokeN l a t (↑((b.rs.getD i default).may.length-1):Int)).toNat 0]))) an)))) (S_go 1 (S_end (V_region (S_a [(1,.v (I (↑(i+1):Int)))] (ap ((wrapE (by omega) (by omega)):I (IntKind.i64.wrap ((↑i:Int)+1))=I (↑(i+1):Int)) an) (S_go 1 (S_end ?_))))))))))))))))))))))) (fun k0=>(V_exit 0 (V_seq (V_region (S_go 1 (S_a [(2,.yes)] (ap ((by exact beq_of (by simp<;>omega)):(Nat.beq 0 0&&(List.map I s).length.beq (List.map I s).length)=true) an) (S_end (V_ret (E_q [(1,.yes),(1,.v (PV.own 1 (List.map I s)))] (ap ((by exact ble_of (by simp only [List.length_map,List.length_set,List.length_append,List.length_cons,List.length_nil,limit]<;>omega)):(0+(List.map I s).length).ble (List.map I s).length=true) (ap ((by simp [take_mapL]):PV.own 1 (List.take (List.map I s).length (List.drop 0 (List.map I s)))=PV.own 1 (List.map I s)) an)) (PV.own 1 (List.map I s)) ([(PV.agg [PV.sl (List.map u8 l),I (↑a:Int),PV.int IntKind.u32 t]).box]) ?_))))))))))))))
  · refine ⟨(i+1,s++[(b.rs.getD i default).may.getD (strokeN l a t (((b.rs.getD i default).may.length-1:Nat):Int)).toNat 0],ringA l a,ringT l a t),⟨by omega,g1,by simp [hs],fun r hr=>?_⟩,by simp only;omega,by kernel_rfl,by kernel_rfl⟩
    rcases Nat.lt_succ_iff_lt_or_eq.1 hr with hr | rfl
    · have:(s++[(b.rs.getD i default).may.getD (strokeN l a t (((b.rs.getD i default).may.length-1:Nat):Int)).toNat 0]).getD r 0=s.getD r 0:=by
        simp [List.getD_eq_getElem?_getD,List.getElem?_append_left (show r<s.length by omega)]
      rw [this];exact hm r hr
    · have hlt:(strokeN l a t (((b.rs.getD r default).may.length-1:Nat):Int)).toNat<(b.rs.getD r default).may.length:=by omega
      have:(s++[(b.rs.getD r default).may.getD (strokeN l a t (((b.rs.getD r default).may.length-1:Nat):Int)).toNat 0]).getD r 0=(b.rs.getD r default).may.getD (strokeN l a t (((b.rs.getD r default).may.length-1:Nat):Int)).toNat 0:=by
        simp [List.getD_eq_getElem?_getD,← hs]
      rw [this]
      exact ⟨has_t hlt rfl,getD_all (good_may hg (by omega)).2.1 _ hlt⟩
  · have hil:i=b.rs.length:=by omega
    refine ⟨s,a,t,rfl,rfl,⟨good_box hg,by omega,fun x hx=>?_,mayAll_t fun r hr=>(hm r (by omega)).1⟩,ha⟩
    obtain ⟨j,hj,rfl⟩:=List.getElem_of_mem hx
    have:=(hm j (by omega)).2
    rwa [getD_lt hj] at this
omit [Yo] in
theorem take_set' {l:List Int} {i n:Nat} {v:Int}:(l.take n).set i v=(l.set i v).take n:=by rw [List.take_set]
omit [Yo] in
theorem take_getD {l:List Int} {i n:Nat} (h:i<n):(l.take n).getD i 0=l.getD i 0:=by
  simp only [List.getD_eq_getElem?_getD,List.getElem?_take,h,if_true]
theorem f25_1 (b:Dk) (s:List Int) (h:ShareOk b s):FG 25 [boxV b,ints s] (.own 1 ((feesL b s).map I)):=by
  have hg:=box_good h.box
  have hcr:=hg.cr
  have hlen:=hg.len
  have hsl:=h.len
  have hs:shareErr b s=0:=by
    have h2:(!s.all (fun x=>decide (0≤x)&&decide (x≤b.cr-1)))=false:=by
      simp only [Bool.not_eq_false',List.all_eq_true]
      intro x hx;have:=h.rng x hx;simp;omega
    simp only [shareErr,h.box,h.len,h2,h.may,if_true];rfl
  have hf:feesL b s=(addF (feesOf b) s s.length).take b.cr.toNat:=by simp only [feesL,hs,if_true]
  rw [hf]
  have h0:List.replicate b.cr.toNat 0=(addF (feesOf b) s 0).take b.cr.toNat:=by
    obtain hc | hc | hc | hc:b.cr=1∨b.cr=2∨b.cr=3∨b.cr=4:=by omega
    all_goals rw [hc];rfl
  refine gives_ofX Try.f25 ?_
  refine V_seq (V_region (S_go 2 (S_end (V_seq (V_region (S_go 2 (S_a [(0,.ob),(1,.ob),(1,.ob),(0,.ob),(1,.v (PV.own 1 (List.map I (List.replicate b.cr.toNat 0))))] (ap ((by exact dec_of (by omega)):decide (0≤b.cr)=true) (ap ((by exact dec_of (by omega)):decide (0≤b.cr)=true) (ap ((by exact dec_of (by omega)):decide (b.cr.toNat≤b.cr.toNat)=true) (ap ((by exact dec_of (by simp [limit]<;>omega)):decide (b.cr.toNat≤limit)=true) (ap ((by simp):PV.own 1 (List.replicate b.cr.toNat (I 0))=PV.own 1 (List.map I (List.replicate b.cr.toNat 0))) an))))) (S_go 1 (S_end (V_seq (V_seq (V_region (S_go 1 (S_a [(0,.n (s.length))] (ap ((by simp):some (List.map I s).length=some s.length) an) (S_go 1 (S_end (V_block 0 ?_)))))))))))))))))
  refine V_loopS (fun (i,o)=>i≤s.length∧o=(addF (feesOf b) s i).take b.cr.toNat) (fun (i,o)=>[(5,.own 1 (o.map I)),(13,I (i:Nat))]) (fun (i,_)=>s.length-i) ((0:Nat),List.replicate b.cr.toNat 0) ⟨Nat.zero_le _,h0⟩ fun (i,o) ⟨hi,ho⟩=>?_
  have hol:o.length=b.cr.toNat:=by rw [ho,List.length_take,addF_len];omega
  have hx:i<s.length→0≤s.getD i 0∧s.getD i 0≤b.cr-1:=fun hi=>getD_all h.rng i hi
  have hmy:i<s.length→has (rnd b i).may (s.getD i 0)=true:=fun hi=>mayAll_get h.may hi
  have hbd:=addF_bd (share:=s) (feesOf_bd hg) i (s.getD i 0).toNat
  have hod:i<s.length→o.getD (s.getD i 0).toNat 0=(addF (feesOf b) s i).getD (s.getD i 0).toNat 0:=fun hi=>by rw [ho,take_getD (by have:=hx hi;omega)]
  have hfo:i<b.rs.length→0≤feeOf b (rnd b i)∧feeOf b (rnd b i)≤1000:=fun h=>feeOf_bd hg (rnd_num hg h)
  have hml:i<b.rs.length→(b.rs.getD i default).may.length≤4:=fun h=>incr_len (good_may hg h).2.2 (good_may hg h).2.1 hcr
  refine V_seq (V_region (S_go 1 (S_end (V_seq (V_dec ((↑i:Int)<(↑s.length:Int)) (fun k0=>(V_skip (V_seq (V_block 1 (V_seq (V_region (S_go 1 (S_a [(2,.v (I (s.getD i 0)))] (ap (getm (0) (by omega):(List.map I s)[i]? = some (I (s.getD i 0))) an) (S_go 3 (S_end (V_seq (V_seq (V_region (S_go 3 (S_a [(0,.n (b.rs.length))] (ap ((by simp):some (List.map rndV b.rs).length=some b.rs.length) an) (S_go 2 (S_decF 23 ((↑i:Int)≥(↑b.rs.length:Int)) (by omega) (S_go 3 (S_a [(2,.v (PV.agg [I (b.rs.getD i default).w,I (b.rs.getD i default).s,PV.sl (List.map I (b.rs.getD i default).may)]))] (ap (getm (default) (by omega):(List.map rndV b.rs)[i]? = some (PV.agg [I (b.rs.getD i default).w,I (b.rs.getD i default).s,PV.sl (List.map I (b.rs.getD i default).may)])) an) (S_go 3 (S_a [(8,.ret (PV.bool (has (b.rs.getD i default).may (s.getD i 0))) ([]))] (ap (f87 ((b.rs.getD i default).may) (s.getD i 0) (by omega)) an) (S_go 2 (S_end (V_if (!has (b.rs.getD i default).may (s.getD i 0)) (fun k1=>(V_seq (V_region (S_go 1 (S_end (V_ret (E_a [] an (PV.nils 1) ([]) ?_ rfl))))))) (fun k1=>(V_skip (V_region (S_go 2 (S_a [(0,.ob),(1,.ob),(1,.n ((s.getD i 0).toNat))] (ap ((by exact dec_of (by omega)):decide (0≤s.getD i 0)=true) (ap ((by exact dec_of (by simp only [List.length_map,List.length_set,List.length_append,List.length_cons,List.length_nil]<;>omega)):decide ((s.getD i 0).toNat<(List.map I o).length)=true) (ap ((by simp):some (0+(s.getD i 0).toNat)=some (s.getD i 0).toNat) an))) (S_a [(0,.cs false ([I (o.getD (s.getD i 0).toNat 0)]))] (ap (rc_at (q:=PV.own 1 (List.map I o)) (xs:=List.map I o) (x:=I (o.getD (s.getD i 0).toNat 0)) rfl (getm (0) (by omega)):readCells 5 (PV.own 1 (List.map I o)) [] (s.getD i 0).toNat 0 1=some (false,[I (o.getD (s.getD i 0).toNat 0)])) an) (S_go 2 (S_a [(8,.ret (I (feeOf b (rnd b i))) ([]))] (ap (f57 (b) (i) (by first | omega | (simp<;>omega)) (by omega)) an) (S_a [(1,.v (I (o.getD (s.getD i 0).toNat 0+feeOf b (rnd b i))))] (ap ((wrapE rfl (by omega)):I (IntKind.i64.wrap (o.getD (s.getD i 0).toNat 0+feeOf b (rnd b i)))=I (o.getD (s.getD i 0).toNat 0+feeOf b (rnd b i))) an) (S_a [(0,.ob),(1,.ob),(1,.n ((s.getD i 0).toNat))] (ap ((by exact dec_of (by omega)):decide (0≤s.getD i 0)=true) (ap ((by exact dec_of (by simp only [List.length_map,List.length_set,List.length_append,List.length_cons,List.length_nil]<;>omega)):decide ((s.getD i 0).toNat<(List.map I o).length)=true) (ap ((by simp):some (0+(s.getD i 0).toNat)=some (s.getD i 0).toNat) an))) (S_a [(8,.root (PV.own 1 (List.map I (o.set (s.getD i 0).toNat (o.getD (s.getD i 0).toNat 0+feeOf b (rnd b i))))) true)] (ap (wa_at (getm (0) (by omega)) map_set':writeAt (PV.own 1 (List.map I o)) [] (s.getD i 0).toNat 0 (I (o.getD (s.getD i 0).toNat 0+feeOf b (rnd b i))).cells=some (PV.own 1 (List.map I (o.set (s.getD i 0).toNat (o.getD (s.getD i 0).toNat 0+feeOf b (rnd b i)))))∧keptView (PV.own 1 (List.map I o)) (PV.own 1 (List.map I (o.set (s.getD i 0).toNat (o.getD (s.getD i 0).toNat 0+feeOf b (rnd b i))))) []=true) an) (S_end (V_region (S_a [(1,.v (I (↑(i+1):Int)))] (ap ((wrapE (by omega) (by omega)):I (IntKind.i64.wrap ((↑i:Int)+1))=I (↑(i+1):Int)) an) (S_go 1 (S_end ?_)))))))))))))))))))))))))))))))))))))))) (fun k0=>(V_exit 0 (V_seq (V_seq (V_region (S_go 1 (S_a [(0,.n (s.length))] (ap ((by simp):some (List.map I s).length=some s.length) an) (S_go 2 (S_a [(0,.n (b.rs.length))] (ap ((by simp):some (List.map rndV b.rs).length=some b.rs.length) an) (S_go 1 (S_end (V_ndecF ((↑s.length:Int)=(↑b.rs.length:Int)) (by omega) (V_skip (V_seq (V_region (S_go 1 (S_a [(2,.yes)] (ap ((by exact beq_of (by simp<;>omega)):(Nat.beq 0 0&&(List.map I o).length.beq (List.map I o).length)=true) an) (S_end (V_ret (E_a [(1,.yes),(1,.v (PV.own 1 (List.map I o)))] (ap ((by exact ble_of (by simp only [List.length_map,List.length_set,List.length_append,List.length_cons,List.length_nil,limit]<;>omega)):(0+(List.map I o).length).ble (List.map I o).length=true) (ap ((by simp [take_mapL]):PV.own 1 (List.take (List.map I o).length (List.drop 0 (List.map I o)))=PV.own 1 (List.map I o)) an)) (PV.own 1 (List.map I o)) ([]) ?_ rfl)))))))))))))))))))))))))
  · have:=hmy (by omega)
    unfold rnd at this
    rw [this] at k1;cases k1
  · refine ⟨(i+1,o.set (s.getD i 0).toNat (o.getD (s.getD i 0).toNat 0+feeOf b (rnd b i))),⟨by omega,?_⟩,by simp only;omega,by kernel_rfl,by kernel_rfl⟩
    rw [hod (by omega),ho,take_set',addF,feesOf_at (by omega)];rfl
  · rw [ho,show i=s.length by omega]
end
end Go.Eng
set_option maxRecDepth 10000
set_option maxHeartbeats 4000000
namespace Go.Eng
open Go Go.Proofs
def costL (b:Dk) (l:List Int):List Int:=l.map fun r=>(feesOf b).getD r.toNat 0
def menK (b:Dk) (l:List Int) (k:Nat):Nat:=((List.range k).filter (manB b l)).length
section
variable [Yo]
def dupL (l:List Int):Bool:=(List.range l.length).any fun i=>has (l.take i) (l.getD i 0)
def bndErr (b:Dk) (l:List Int):Int:=if boxErr b=0 then if !l.all (fun x=>decide (0≤x)&&decide (x≤(b.rs.length:Int)-1)) then 1 else if dupL l then 5 else 0 else boxErr b
def bndV (b:Dk) (l:List Int):Int:=if bndErr b l=0 then bndS b l else 0
end
end Go.Eng
set_option maxRecDepth 10000
set_option maxHeartbeats 4000000
namespace Go.Eng
open Go Go.Proofs
def cmpI (x y:Int):Int:=if x<y then -1 else if x>y then 1 else 0
def cmpL:List Int→List Int→Int
  | [],[]=>0
  | [],_::_=>-1
  | _::_,[]=>1
  | x::xs,y::ys=>if cmpI x y=0 then cmpL xs ys else cmpI x y
section
variable [Yo]
end
end Go.Eng
set_option maxRecDepth 10000
namespace Go.Eng
open Go Go.Proofs
abbrev four:Dk:=⟨2,1,2,2,[⟨4,2,[0,1]⟩,⟨3,1,[0,1]⟩,⟨8,1,[0,1]⟩,⟨1,1,[1]⟩]⟩
abbrev fee4:List Int:=[12,5,10,3]
section
variable [Yo]
theorem f88x:Gives Try.prog feeH 88 [boxV four,ints [0,0,0,1]] [] (.tup [.ref (deskV four fee4),I 0]) []:=Gives.closed 400
theorem f93x:Gives Try.prog feeH 93 [.ref (deskV four fee4),.bor 50000000 [(0,0)] 1 0 4] [.box (.own 1 [I 0,I 0,I 0,I 1])] (.func 130 [] (.ref (.bor 50000000 [(0,0)] 1 0 4)::(mvCaps four fee4 [27,3,0,0] []).tail)) [.box (.own 1 [I 0,I 0,I 0,I 1])]:=Gives.closed 400
theorem f93y:Gives Try.prog feeH 93 [.ref (deskV four fee4),.bor 50000000 [(0,0)] 1 0 4] [.box (.own 1 [I 1,I 0,I 0,I 1])] (.func 130 [] (.ref (.bor 50000000 [(0,0)] 1 0 4)::(mvCaps four fee4 [15,15,0,0] []).tail)) [.box (.own 1 [I 1,I 0,I 0,I 1])]:=Gives.closed 400
theorem f36w (hx:HandsAll 130 [] (mvCaps four fee4 [27,3,0,0] [0,0,0,1]) [[mvV (0,1)],[mvV (1,1)],[mvV (2,1)]]) (hy:HandsAll 130 [] (mvCaps four fee4 [15,15,0,0] [1,0,0,1]) []):Gives Try.prog feeH 36 [boxV four,ints [0,0,0,1]] [] (.tup [.own 1 [I 1,I 0,I 0,I 1],I 1,I 0]) []:=by
  refine gives_ofX Try.f36 ?_
  refine V_seq (V_region (S_go 4 (S_end (V_seq (V_region (S_go 2 (S_a [(8,.ret (PV.tup [(deskV four fee4).ref,I 0]) ([]))] (ap (f88x) an) (S_go 5 (S_end (V_seq (V_seq (V_region (S_go 2 (S_end (V_false (V_skip (V_seq (V_region (S_go 1 (S_go 1 (S_go 3 (S_end (V_seq (V_region (S_go 1 (S_go 1 ?_))))))))))))))))))))))))))
  refine S_go 1 (S_end ?_)
  refine V_seq (V_region (S_go 1 (S_end (V_block 0 ?_))))
  refine V_loopS (fun (n,sh)=>n=0∧sh=[0,0,0,1]∨n=1∧sh=[1,0,0,1]) (fun (n,sh)=>[(9,.box (.own 1 (sh.map I))),(10,I (n:Nat))]) (fun (n,_)=>2-n) ((0:Nat),([0,0,0,1]:List Int)) (.inl ⟨rfl,rfl⟩) fun (n,sh) h=>?_
  rcases h with ⟨rfl,rfl⟩ | ⟨rfl,rfl⟩
  · refine V_seq (V_block 1 (V_scope (V_seq (V_region (S_go 2 (S_end (V_seq (V_label (V_seq (V_seq (V_region (S_go 1 (S_go 1 (S_a [(5,.ret (PV.func 130 [] ((PV.bor 50000000 [(0,0)] 1 0 4).ref::(mvCaps four fee4 [27,3,0,0] []).tail)) ([(PV.own 1 [I 0,I 0,I 0,I 1]).box]))] (ap (f93x) an) (S_end (V_block 2 ?_))))))))))))))))
    refine V_rangeRg (t:=32) (R:=[9]) hx ?_
    simp only [Rg]
    refine Round_mk ?_
    refine V_region (S_go 2 (S_end ?_))
    refine ⟨rfl,by kernel_rfl,?_⟩
    refine V_block 3 (V_seq (V_region (S_go 1 (S_go 4 (S_go 1 (S_go 2 (S_end (V_exit 2 ?_))))))))
    refine ⟨by kernel_rfl,?_⟩
    refine V_seq (V_region (S_go 2 (S_end (V_false (V_skip (V_region (S_go 3 (S_end ?_))))))))
    exact ⟨(1,[1,0,0,1]),.inr ⟨rfl,rfl⟩,by decide,by kernel_rfl,by kernel_rfl⟩
  · refine V_seq (V_block 1 (V_scope (V_seq (V_region (S_go 2 (S_end (V_seq (V_label (V_seq (V_seq (V_region (S_go 1 (S_go 1 (S_a [(5,.ret (PV.func 130 [] ((PV.bor 50000000 [(0,0)] 1 0 4).ref::(mvCaps four fee4 [15,15,0,0] []).tail)) ([(PV.own 1 [I 1,I 0,I 0,I 1]).box]))] (ap (f93y) an) (S_end (V_block 2 ?_))))))))))))))))
    refine V_rangeRg (t:=32) (R:=[9]) hy ?_
    simp only [Rg]
    refine V_seq (V_region (S_go 2 (S_end (V_true (V_seq (V_region (S_go 1 (S_go 4 (S_end (V_ret (E_a [] an (PV.tup [PV.own 1 [I 1,I 0,I 0,I 1],I (↑1:Int),I 0]) ([]) rfl rfl)))))))))))
end
noncomputable instance feeYo:Yo:=yo1 Try.prog feeH
theorem four_ok {f share:List Int} (hf:f.length=4) (hs:share.length=4) (h1:share.all (fun x=>decide (0≤x∧x<4))=true) (h2:f.all (fun x=>decide (-1000000≤x∧x≤1000000))=true):MvOk four fee4 f share:=by
  refine ⟨⟨by decide,by decide⟩,by decide,hf,rfl,hs,fun x hx=>by simpa using List.all_eq_true.1 h1 x hx,fun i=>?_,fun i=>?_⟩
  · rcases Nat.lt_or_ge i f.length with h | h
    · rw [getD_lt h];simpa using List.all_eq_true.1 h2 _ (List.getElem_mem h)
    · rw [List.getD_eq_getElem?_getD,List.getElem?_eq_none h];simp
  · rcases Nat.lt_or_ge i 4 with h | h
    · match i,h with
      | 0,_=>decide
      | 1,_=>decide
      | 2,_=>decide
      | 3,_=>decide
    · rw [List.getD_eq_getElem?_getD,List.getElem?_eq_none h];simp
theorem f130a {b:Dk} {fee f share:List Int} (h:MvOk b fee f share):HandsAll 130 [] (mvCaps b fee f share) (mvLog b fee f share share.length):=by
  refine ⟨?_,fun j h1 h2=>?_⟩
  · have:=f130h h (-1) (.inl rfl)
    rwa [if_pos rfl] at this
  · have:=f130h h (j:Int) (.inr ⟨by omega,by simpa using h2⟩)
    rw [if_neg (by omega)] at this
    exact this
theorem f36x:Gives Try.prog feeH 36 [boxV four,ints [0,0,0,1]] [] (.tup [.own 1 [I 1,I 0,I 0,I 1],I 1,I 0]) []:=by
  refine f36w ?_ ?_
  · exact f130a (four_ok rfl rfl (by decide) (by decide))
  · exact f130a (four_ok rfl rfl (by decide) (by decide))
end Go.Eng
namespace Go.Eng
open Go Go.Proofs
def bal5:List Int:=[5,-2,-3,4,-4]
abbrev ad (j:Nat):PV := .addr (50000000+j) [] 0 0 none
abbrev putB:PV := .box (.func 135 [] [ad 0,ad 1,ad 2,ad 3])
abbrev oints (l:List Int):PV := .own 1 (l.map I)
abbrev rows (l:List (List Int)):PV := .own 1 (l.map oints)
abbrev putE (i:Nat) (now out out':List (List Int)):Entry:=⟨135,[I (i:Nat),ad 0,ad 1,ad 2,ad 3],[.box (ints bal5),putB,.box (rows now),.box (rows out)],.tup [],[.box (ints bal5),putB,.box (rows now),.box (rows out')]⟩
abbrev puts (i:Nat) (now out out':List (List Int)):Prop:=∀ [Yo],AllT Try.prog feeH [putE i now out out']
theorem g3_012x:puts 3 [[0,1,2]] [] [[0,1,2],[3,4]]:=⟨Gives.closed 400,trivial⟩
theorem g3_01x2x:puts 3 [[0,1],[2]] [[0,1,2],[3,4]] [[0,1,2],[3,4]]:=⟨Gives.closed 400,trivial⟩
theorem g3_02x1x:puts 3 [[0,2],[1]] [[0,1,2],[3,4]] [[0,1,2],[3,4]]:=⟨Gives.closed 400,trivial⟩
theorem g3_0x12x:puts 3 [[0],[1,2]] [[0,1,2],[3,4]] [[0,1,2],[3,4]]:=⟨Gives.closed 400,trivial⟩
theorem g3_0x1x2x:puts 3 [[0],[1],[2]] [[0,1,2],[3,4]] [[0,1,2],[3,4]]:=⟨Gives.closed 400,trivial⟩
theorem g0_:puts 0 [] [] [[0,1,2],[3,4]]:=⟨Gives.table ([putE 3 [[0,1,2]] [] [[0,1,2],[3,4]],putE 3 [[0,1],[2]] [[0,1,2],[3,4]] [[0,1,2],[3,4]],putE 3 [[0,2],[1]] [[0,1,2],[3,4]] [[0,1,2],[3,4]],putE 3 [[0],[1,2]] [[0,1,2],[3,4]] [[0,1,2],[3,4]],putE 3 [[0],[1],[2]] [[0,1,2],[3,4]] [[0,1,2],[3,4]]]) ⟨g3_012x.1,g3_01x2x.1,g3_02x1x.1,g3_0x12x.1,g3_0x1x2x.1,trivial⟩ 400,trivial⟩
theorem f49x [Yo]:Gives Try.prog feeH 49 [ints bal5] [] (.tup [rows [[0,1,2],[3,4]],I 0]) []:=Gives.table [putE 0 [] [] [[0,1,2],[3,4]]] ⟨g0_.1,trivial⟩ 400
end Go.Eng
set_option maxRecDepth 10000
namespace Go.Eng
open Go Go.Proofs
section
variable [Yo]
theorem f26x:Gives Try.prog feeH 26 [boxV four,ints [1,0,0,1],ints [4,10]] [] (.tup [.own 1 [I 7,I 0],I 23,I 0]) []:=Gives.closed 400
theorem f41x:Gives Try.prog feeH 41 [boxV four] [] (.tup [.own 1 [I 1,I 0,I 0,I 1],I 15,I 0]) []:=Gives.closed 400
theorem f34x:Gives Try.prog feeH 34 [boxV four,ints [0,0,1,1]] [] (.tup [.own 2 [.agg [I 0,I 2]],I 0]) []:=Gives.closed 400
theorem f69x:Gives Try.prog feeH 69 [boxV four,ints [3,0]] [] (.tup [I 8,I 0]) []:=Gives.closed 400
theorem f18x:Gives Try.prog feeH 18 [I 10,ints [5,3,1]] [] (.tup [.own 1 [I 6,I 3,I 1],I 0]) []:=Gives.closed 400
end
abbrev awakeT:List Entry:=[
  ⟨36,[boxV four,ints [0,0,0,1]],[],.tup [.own 1 [I 1,I 0,I 0,I 1],I 1,I 0],[]⟩,
  ⟨41,[boxV four],[],.tup [.own 1 [I 1,I 0,I 0,I 1],I 15,I 0],[]⟩,
  ⟨34,[boxV four,ints [0,0,1,1]],[],.tup [.own 2 [.agg [I 0,I 2]],I 0],[]⟩,
  ⟨26,[boxV four,ints [1,0,0,1],ints [4,10]],[],.tup [.own 1 [I 7,I 0],I 23,I 0],[]⟩,
  ⟨69,[boxV four,ints [3,0]],[],.tup [I 8,I 0],[]⟩,
  ⟨18,[I 10,ints [5,3,1]],[],.tup [.own 1 [I 6,I 3,I 1],I 0],[]⟩,
  ⟨49,[ints bal5],[],.tup [rows [[0,1,2],[3,4]],I 0],[]⟩]
theorem f16:Gives Try.prog feeH 16 [] [] (.bool true) []:=Gives.table awakeT ⟨f36x,f41x,f34x,f26x,f69x,f18x,f49x,trivial⟩ 400
end Go.Eng
set_option maxRecDepth 10000
set_option maxHeartbeats 4000000
namespace Go.Eng
open Go Go.Proofs
theorem great_f {b:Dk} (h:greatB b=false):b.rs.length≤12∧∀ r∈b.rs,r.may.length≤10:=by
  simp only [greatB,Bool.or_eq_false_iff,decide_eq_false_iff_not,List.any_eq_false,decide_eq_true_eq] at h
  exact ⟨by omega,fun r hr=>by have:=h.2 r hr;omega⟩
theorem great_small {b:Dk} (h:greatB b=false):Small b:=by
  obtain ⟨h1,h2⟩:=great_f h
  exact ⟨by omega,fun r hr=>by have:=h2 r hr;omega⟩
end Go.Eng
set_option maxRecDepth 10000
set_option maxHeartbeats 4000000
namespace Go.Eng
open Go Go.Proofs
abbrev lstO (l:List Int):PV := .own 1 (l.map I)
def gotG (b:Dk):List Int×Int:=if boxErr b=0 then goG (bndS b) (bitsAll b.rs.length) else ([],0)
def bitB (s r:Nat):Bool:=decide (((BitVec.ofInt IntKind.i64.bits ((s:Int).fdiv (2 ^ min (r:Int).toNat IntKind.i64.bits)) &&& BitVec.ofInt IntKind.i64.bits 1).toNat:Int)=((s >>> r % 2:Nat):Int))
section
variable [Yo]
end
end Go.Eng
