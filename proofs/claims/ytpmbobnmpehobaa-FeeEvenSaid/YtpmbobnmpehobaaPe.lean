/- Rounds are shared so that nobody earns more than somebody else by more than a single round which this one may cry, no share is better than the best one, no rounds have a greater bound, and to settle never makes the greatest fee greater, for all numbers. -/
import Derived.Test.YtpmbobnmpehobaaProg
import Derived.Test.YtpmbobnmpehobaaPa
import Derived.Test.YtpmbobnmpehobaaPd
set_option linter.unusedVariables false
set_option linter.unusedSimpArgs false
set_option linter.unusedSectionVars false
namespace Go.Eng
open Go Go.Proofs
theorem getD_lt {α:Type} {l:List α} {i:Nat} {d:α} (h:i<l.length):l.getD i d=l[i]:=by simp [List.getD,List.getElem?_eq_getElem h]
theorem foldl_take' {α β:Type} {f:β→α→β} {b:β} {l:List α} {i:Nat} {d:α} (h:i<l.length):(l.take (i+1)).foldl f b=f ((l.take i).foldl f b) (l.getD i d):=by
  rw [getD_lt h];exact foldl_take h
theorem take_next {α:Type} {l m:List α} {i:Nat} {d:α} (h:i<l.length) (h':i<m.length) (ha:l.take i=m.take i) (he:l.getD i d=m.getD i d):l.take (i+1)=m.take (i+1):=by
  rw [getD_lt h,getD_lt h'] at he
  rw [List.take_add_one,List.take_add_one,ha,List.getElem?_eq_getElem h,List.getElem?_eq_getElem h',he]
theorem sum_take {l:List Int} {i:Nat} (h:i<l.length):(l.take (i+1)).sum=(l.take i).sum+l.getD i 0:=by
  rw [List.take_add_one,List.getElem?_eq_getElem h,getD_lt h,List.sum_append];simp
theorem sum_bd {B:Int} {l:List Int} (hb:∀ x∈l,-B≤x∧x≤B) : -(B*l.length)≤l.sum∧l.sum≤B*l.length:=by
  induction l with
  | nil=>simp
  | cons x l ih =>
    have h1:=hb x (by simp)
    have h2:=ih fun y hy=>hb y (by simp [hy])
    simp only [List.sum_cons,List.length_cons,Int.natCast_add,Int.mul_add]
    omega
theorem sum_nn {l:List Int} (h:∀ x∈l,0≤x):0≤l.sum:=by
  induction l with
  | nil=>simp
  | cons x l ih =>
    have h1:=h x (by simp)
    have h2:=ih fun y hy=>h y (by simp [hy])
    simp only [List.sum_cons];omega
theorem all_in {l:List Int} {lo hi:Int} (h:(!l.all fun x=>decide (lo≤x)&&decide (x≤hi))=false):∀ x∈l,lo≤x∧x≤hi:=by
  simpa [List.all_eq_true] using h
theorem in_and {n lo hi:Int} (h:(!(decide (lo≤n)&&decide (n≤hi)))=false):lo≤n∧n≤hi:=by simpa using h
theorem getD_all {l:List Int} {p:Int→Prop} (h:∀ x∈l,p x) (i:Nat) (hi:i<l.length):p (l.getD i 0):=by
  rw [getD_lt hi];exact h _ (List.getElem_mem hi)
theorem getD_set {l:List Int} {i j:Nat} {v:Int}:(l.set i v).getD j 0=if i=j∧j<l.length then v else l.getD j 0:=by
  simp only [List.getD_eq_getElem?_getD,List.getElem?_set]
  by_cases h:i=j
  · subst h
    by_cases h2:i<l.length
    · simp [h2]
    · simp [h2]
  · simp [h]
def wsum (l:List Int):Int:=l.foldl (fun a x=>IntKind.i64.wrap (a+x)) 0
section
variable [Yo]
abbrev FG (f:FuncId) (args:List PV) (v:PV):Prop:=Gives Try.prog feeH f args [] v []
theorem f78 (n lo hi:Int):FG 78 [I n,I lo,I hi] (.bool (decide (lo≤n)&&decide (n≤hi))):=by
  refine gives_ofX Try.f78 ?_
  refine V_seq (V_region (S_go 1 (S_end (V_seq (V_region (S_go 4 (S_dec 10 (n≥lo) (fun k0=>(S_go 5 (S_end (V_ret (E_a [] an (PV.bool (decide (n≤hi))) ([]) (by simp [*]) rfl))))) (fun k0=>(S_go 5 (S_end (V_ret (E_a [] an (PV.bool false) ([]) (by simp [*]) rfl))))))))))))
theorem f81 (l:List Int) (hl:l.length<4294967296):FG 81 [ints l] (I (wsum l)):=by
  refine gives_ofX Try.f81 ?_
  refine V_seq (V_region (S_go 1 (S_end (V_seq (V_region (S_go 1 (S_end (V_seq (V_seq (V_region (S_go 1 (S_a [(0,.n (l.length))] (ap ((by simp):some (List.map I l).length=some l.length) an) (S_go 1 (S_end (V_block 0 ?_)))))))))))))))
  refine V_loopS (fun (i,a)=>i≤l.length∧a=wsum (l.take i)) (fun (i,a)=>[(3,I a),(8,I (i:Nat))]) (fun (i,_)=>l.length-i) ((0:Nat),(0:Int)) (by simp [wsum]) fun (i,a) ⟨hi,ha⟩=>?_
  refine V_seq (V_region (S_go 1 (S_end (V_seq (V_dec ((↑i:Int)<(↑l.length:Int)) (fun k0=>(V_skip (V_seq (V_block 1 (V_seq (V_region (S_a [(2,.v (I (l.getD i 0)))] (ap (getm (0) (by omega):(List.map I l)[i]? = some (I (l.getD i 0))) an) (S_go 2 (S_end (V_region (S_go 2 (S_go 1 (S_go 1 (S_end (V_region (S_a [(1,.v (I (↑(i+1):Int)))] (ap ((wrapE (by omega) (by omega)):I (IntKind.i64.wrap ((↑i:Int)+1))=I (↑(i+1):Int)) an) (S_go 1 (S_end ?_)))))))))))))))))) (fun k0=>(V_exit 0 (V_seq (V_region (S_go 2 (S_end (V_ret (E_a [] an (I a) ([]) ?_ rfl)))))))))))))
  · exact ⟨(i+1,IntKind.i64.wrap (a+l.getD i 0)),⟨by omega,by rw [ha];exact (foldl_take' (f:=fun a x=>IntKind.i64.wrap (a+x)) (by omega)).symm⟩,by simp only;omega,by kernel_rfl,by kernel_rfl⟩
  · rw [ha,List.take_of_length_le (by omega)]
theorem f85 (l m:List Int) (hl:l.length<4294967296):FG 85 [ints l,ints m] (.bool (decide (l=m))):=by
  refine gives_ofX Try.f85 ?_
  refine V_seq (V_region (S_go 1 (S_end (V_seq (V_seq (V_region (S_go 1 (S_a [(0,.n (l.length))] (ap ((by simp):some (List.map I l).length=some l.length) an) (S_go 1 (S_a [(0,.n (m.length))] (ap ((by simp):some (List.map I m).length=some m.length) an) (S_go 1 (S_end (V_ndec ((↑l.length:Int)=(↑m.length:Int)) (fun k0=>(V_seq (V_region (S_go 1 (S_end (V_ret (E_a [] an (PV.bool false) ([]) ?_ rfl))))))) (fun k0=>(V_skip (V_seq (V_seq (V_region (S_go 1 (S_a [(0,.n (l.length))] (ap ((by simp):some (List.map I l).length=some l.length) an) (S_go 1 (S_end (V_block 0 ?_)))))))))))))))))))))))
  · simp;intro h;subst h;simp at *
  refine V_loopS (fun i=>i≤l.length∧l.take i=m.take i) (fun i=>[(13,I (i:Nat))]) (fun i=>l.length-i) (0:Nat) (by simp) fun i ⟨hi,ha⟩=>?_
  refine V_seq (V_region (S_go 1 (S_end (V_seq (V_dec ((↑i:Int)<(↑l.length:Int)) (fun k1=>(V_skip (V_seq (V_block 1 (V_seq (V_region (S_go 2 (S_end (V_seq (V_region (S_go 2 (S_a [(2,.v (I (l.getD i 0)))] (ap (getm (0) (by omega):(List.map I l)[i]? = some (I (l.getD i 0))) an) (S_go 3 (S_a [(2,.v (I (m.getD i 0)))] (ap (getm (0) (by omega):(List.map I m)[i]? = some (I (m.getD i 0))) an) (S_go 2 (S_end (V_ndec (l.getD i 0=m.getD i 0) (fun k2=>(V_seq (V_region (S_go 1 (S_end (V_ret (E_a [] an (PV.bool false) ([]) ?_ rfl))))))) (fun k2=>(V_skip (V_region (S_a [(1,.v (I (↑(i+1):Int)))] (ap ((wrapE (by omega) (by omega)):I (IntKind.i64.wrap ((↑i:Int)+1))=I (↑(i+1):Int)) an) (S_go 1 (S_end ?_))))))))))))))))))))))) (fun k1=>(V_exit 0 (V_seq (V_region (S_go 1 (S_end (V_ret (E_a [] an (PV.bool true) ([]) ?_ rfl)))))))))))))
  · simp;intro h;subst h;omega
  · refine ⟨i+1,⟨by omega,?_⟩,by omega,by kernel_rfl,by kernel_rfl⟩
    exact take_next (d:=0) (by omega) (by omega) ha (by assumption)
  · rw [List.take_of_length_le (by omega),List.take_of_length_le (by omega)] at ha
    simp [ha]
theorem f20 (l m:List Int) (hl:l.length<4294967296):FG 20 [ints l,ints m] (.bool (decide (l=m))):=by
  refine gives_ofX Try.f20 ?_
  refine V_seq (V_region (S_go 1 (S_end (V_seq (V_region (S_go 2 (S_a [(8,.ret (PV.bool (decide (l=m))) ([]))] (ap (f85 (l) (m) (by omega)) an) (S_go 1 (S_end (V_ret (E_a [] an (PV.bool (decide (l=m))) ([]) rfl rfl)))))))))))
end
end Go.Eng
namespace Go.Eng
open Go Go.Proofs
def idxF {α:Type} (φ:α→Bool) (l:List α):Int:=if l.findIdx φ<l.length then (l.findIdx φ:Int) else -1
theorem idxF_found {α : Type} {φ : α → Bool} {l : List α} {i : Nat} (h : i < l.length) (h0 : ∀ j (hj : j < i), φ (l[j]'(by omega)) = false) (hi : φ l[i] = true) : idxF φ l = i := by
  have:l.findIdx φ=i:=by
    rw [List.findIdx_eq h]
    exact ⟨hi,fun j hj=>by simpa using h0 j hj⟩
  simp [idxF,this,h]
theorem idxF_none {α : Type} {φ : α → Bool} {l : List α} (h0 : ∀ j (hj : j < l.length), φ (l[j]'hj) = false) : idxF φ l = -1 := by
  have:¬ l.findIdx φ<l.length:=by
    intro h
    have:=List.findIdx_getElem (w:=h)
    rw [h0 _ h] at this;cases this
  simp [idxF,this]
theorem idxF_ge {α:Type} (φ:α→Bool) (l:List α):decide (idxF φ l≥0)=l.any φ:=by
  unfold idxF
  split
  · rename_i h
    have:=List.findIdx_getElem (w:=h)
    have h2:l.any φ=true:=List.any_eq_true.2 ⟨_,List.getElem_mem h,this⟩
    rw [h2];simp
  · rename_i h
    have h2:l.any φ=false:=by
      rw [List.any_eq_false]
      intro x hx hp
      exact h (List.findIdx_lt_length_of_exists ⟨x,hx,hp⟩)
    rw [h2];simp
section
variable [Yo]
end
end Go.Eng
namespace Go.Eng
open Go Go.Proofs
structure Rnd where
  w:Int
  s:Int
  may:List Int
  deriving Inhabited
abbrev rndV (r:Rnd):PV := .agg [I r.w,I r.s,ints r.may]
structure Dk where
  cr:Int
  wd:Int
  st:Int
  fn:Int
  rs:List Rnd
abbrev boxV (b:Dk):PV := .agg [I b.cr,I b.wd,I b.st,I b.fn,.sl (b.rs.map rndV)]
abbrev deskV (b:Dk) (fee:List Int):PV := .agg [I b.cr,I b.wd,I b.st,I b.fn,.sl (b.rs.map rndV),ints fee]
def has (l:List Int) (v:Int):Bool:=l.any fun x=>decide (v=x)
def rnd (b:Dk) (r:Nat):Rnd:=b.rs.getD r default
def Small (b:Dk):Prop:=b.rs.length<4294967296∧∀ r∈b.rs,r.may.length<4294967296
section
variable [Yo]
theorem f128 (l:List Int) (v:Int) (hl:l.length<4294967296):FG 128 [ints l,I v] (I (idxF (fun x=>decide (v=x)) l)):=by
  refine gives_ofX Try.f128 ?_
  refine V_seq (V_region (S_go 1 (S_end (V_seq (V_seq (V_region (S_go 1 (S_a [(0,.n (l.length))] (ap ((by simp):some (List.map I l).length=some l.length) an) (S_go 1 (S_end (V_block 0 ?_)))))))))))
  refine V_loopS (fun i=>i≤l.length∧∀ j,j<i→(fun x=>decide (v=x)) (l.getD j 0)=false) (fun i=>[(8,I (i:Nat))]) (fun i=>l.length-i) (0:Nat) (by simp) fun i ⟨hi,ha⟩=>?_
  refine V_seq (V_region (S_go 1 (S_end (V_seq (V_dec ((↑i:Int)<(↑l.length:Int)) (fun k0=>(V_skip (V_seq (V_block 1 (V_seq (V_region (S_go 2 (S_end (V_seq (V_region (S_go 3 (S_a [(2,.v (I (l.getD i 0)))] (ap (getm (0) (by omega):(List.map I l)[i]? = some (I (l.getD i 0))) an) (S_go 2 (S_end (V_dec (v=l.getD i 0) (fun k1=>(V_seq (V_region (S_go 2 (S_end (V_ret (E_a [] an (I (↑i:Int)) ([]) ?_ rfl))))))) (fun k1=>(V_skip (V_region (S_a [(1,.v (I (↑(i+1):Int)))] (ap ((wrapE (by omega) (by omega)):I (IntKind.i64.wrap ((↑i:Int)+1))=I (↑(i+1):Int)) an) (S_go 1 (S_end ?_))))))))))))))))))))) (fun k0=>(V_exit 0 (V_seq (V_region (S_go 1 (S_end (V_ret (E_a [] an (I (-1)) ([]) ?_ rfl)))))))))))))
  · rw [idxF_found (i:=i) (by omega) (fun j hj=>by rw [← getD_lt (d:=0)];exact ha j hj) (by rw [← getD_lt (d:=0)];exact decide_eq_true (by assumption))]
  · refine ⟨i+1,⟨by omega,fun j hj=>?_⟩,by omega,by kernel_rfl,by kernel_rfl⟩
    rcases Nat.lt_succ_iff_lt_or_eq.1 hj with h | rfl
    · exact ha j h
    · exact decide_eq_false (by assumption)
  · rw [idxF_none fun j hj=>by rw [← getD_lt (d:=0)];exact ha j (by omega)]
theorem f87 (l:List Int) (v:Int) (hl:l.length<4294967296):FG 87 [ints l,I v] (.bool (has l v)):=by
  refine gives_ofX Try.f87 ?_
  refine V_seq (V_region (S_go 1 (S_end (V_seq (V_region (S_go 2 (S_a [(8,.ret (I (idxF (fun x=>decide (v=x)) l)) ([]))] (ap (f128 (l) (v) (by omega)) an) (S_go 2 (S_end (V_ret (E_a [] an (PV.bool (decide (idxF (fun x=>decide (v=x)) l≥0))) ([]) ?_ rfl)))))))))))
  rw [idxF_ge];rfl
theorem f98 (b:Dk) (fee:List Int) (c:Int) (r:Nat) (hr:r<b.rs.length) (hb:Small b):FG 98 [.ref (deskV b fee),I c,I r] (.bool (has (rnd b r).may c)):=by
  refine gives_ofX Try.f98 ?_
  have hm:(b.rs.getD r default).may.length<4294967296:=hb.2 _ (by rw [getD_lt hr];exact List.getElem_mem _)
  refine V_seq (V_region (S_go 1 (S_end (V_seq (V_region (S_go 6 (S_a [(2,.v (PV.agg [I (b.rs.getD r default).w,I (b.rs.getD r default).s,PV.sl (List.map I (b.rs.getD r default).may)]))] (ap (getm (default) (by omega):(List.map rndV b.rs)[r]? = some (PV.agg [I (b.rs.getD r default).w,I (b.rs.getD r default).s,PV.sl (List.map I (b.rs.getD r default).may)])) an) (S_go 3 (S_a [(8,.ret (PV.bool (has (b.rs.getD r default).may c)) ([]))] (ap (f87 ((b.rs.getD r default).may) (c) (by omega)) an) (S_go 1 (S_end (V_ret (E_a [] an (PV.bool (has (b.rs.getD r default).may c)) ([]) rfl rfl)))))))))))))
end
def mvOk (b:Dk) (fee f share:List Int) (r t:Nat):Bool:=decide ((t:Int)≠share.getD r 0)&&(has (rnd b r).may t&&decide (f.getD t 0+fee.getD r 0<f.getD (share.getD r 0).toNat 0))
def mvRow (b:Dk) (fee f share:List Int) (r n:Nat):List (Nat×Nat):=((List.range n).filter (mvOk b fee f share r)).map fun t=>(r,t)
def mvs (b:Dk) (fee f share:List Int) (n:Nat):List (Nat×Nat):=(List.range n).flatMap fun r=>mvRow b fee f share r b.cr.toNat
abbrev mvV (m:Nat×Nat):PV := .agg [I m.1,I m.2]
abbrev mvCaps (b:Dk) (fee f share:List Int):List PV:=[.ref (ints share),.ref (.ref (deskV b fee)),.ref (.func 98 [.ref (deskV b fee)] []),.ref (.agg (f.map I))]
structure MvOk (b:Dk) (fee f share:List Int):Prop where
  hsm:Small b
  hcr:0≤b.cr∧b.cr≤4
  hf:f.length=4
  hfee:fee.length=b.rs.length
  hshare:share.length=b.rs.length
  hsh:∀ x∈share,0≤x∧x<4
  hfb:∀ i,-1000000≤f.getD i 0∧f.getD i 0≤1000000
  hfeeb:∀ i,-1000000≤fee.getD i 0∧fee.getD i 0≤1000000
abbrev mvLog (b:Dk) (fee f share:List Int) (n:Nat):List (List PV):=(mvs b fee f share n).map fun m=>[mvV m]
theorem mvRow_succ {b:Dk} {fee f share:List Int} {r t:Nat}:mvRow b fee f share r (t+1)=mvRow b fee f share r t++if mvOk b fee f share r t then [(r,t)] else []:=by
  simp only [mvRow,List.range_succ,List.filter_append,List.map_append]
  congr 1
  cases h:mvOk b fee f share r t<;>simp [h]
theorem mvs_succ {b:Dk} {fee f share:List Int} {r:Nat}:mvs b fee f share (r+1)=mvs b fee f share r++mvRow b fee f share r b.cr.toNat:=by
  simp only [mvs,List.range_succ,List.flatMap_append];simp
theorem mvRow_pre {b:Dk} {fee f share:List Int} {r t n:Nat} (h:t≤n):mvRow b fee f share r t <+: mvRow b fee f share r n:=by
  induction h with
  | refl=>exact List.prefix_refl _
  | step _ ih=>rw [mvRow_succ];exact ih.trans (List.prefix_append _ _)
theorem mvs_pre {b:Dk} {fee f share:List Int} {t n:Nat} (h:t≤n):mvs b fee f share t <+: mvs b fee f share n:=by
  induction h with
  | refl=>exact List.prefix_refl _
  | step _ ih=>rw [mvs_succ];exact ih.trans (List.prefix_append _ _)
theorem mv_pre {b:Dk} {fee f share:List Int} {r t n:Nat} (hr:r<n) (ht:t≤b.cr.toNat):mvs b fee f share r++mvRow b fee f share r t <+: mvs b fee f share n:=by
  refine List.IsPrefix.trans ?_ (mvs_pre (Nat.succ_le_of_lt hr))
  rw [Nat.succ_eq_add_one,mvs_succ]
  exact (List.prefix_append_right_inj _).2 (mvRow_pre ht)
theorem pre_take {α:Type} {x y:List α} (h:x <+: y) {k:Int} (hk:k=x.length):x=y.take k.toNat:=by
  rw [hk,Int.toNat_natCast];exact List.prefix_iff_eq_take.1 h
set_option maxRecDepth 10000 in
set_option maxHeartbeats 4000000 in
theorem f130w [Yo] {b:Dk} {fee f share:List Int} (h:MvOk b fee f share) (k:Int) (hk:k = -1∨1≤k∧k≤(mvs b fee f share share.length).length) (i:Nat):W Try.prog feeH 130 Try.f130.ntmps (Try.f130.body.getD .ret) (enterEnv ([]++PV.yld i::mvCaps b fee f share) []) (some ⟨[],k,i⟩) fun x _ lg=>(x = .norm∨x = .ret)∧lg.map (·.xs)=some (if k = -1 then mvLog b fee f share share.length else (mvLog b fee f share share.length).take k.toNat):=by
  obtain ⟨h1,h2,h3,h4,h5,h6,h7,h8⟩:=h
  have h1a:=h1.1
  refine V_seq (V_region (S_go 1 (S_a [(0,.n (share.length))] (ap ((by simp):some (List.map I share).length=some share.length) an) (S_go 1 (S_end (V_block 0 ?_))))))
  refine V_loopL (fun (r,xs,kc)=>r≤share.length∧xs=mvLog b fee f share r∧kc=k-xs.length∧(k = -1∨1≤kc)) (fun (r,_,_)=>[(11,I (r:Nat))]) (fun (_,xs,kc)=>some ⟨xs,kc,i⟩) (fun (r,_,_)=>share.length-r) ((0:Nat),([]:List (List PV)),k) ⟨Nat.zero_le _,rfl,by simp,by omega⟩ fun (r,xs,kc) ⟨hr,hxs,hkc,hk1⟩=>?_
  refine V_seq (V_region (S_go 1 (S_end (V_seq (V_dec ((↑r:Int)<(↑share.length:Int)) (fun k2=>(V_skip (V_seq (V_block 1 (V_seq (V_region (S_go 1 (S_a [(2,.v (I (share.getD r 0)))] (ap (getm (0) (by omega):(List.map I share)[r]? = some (I (share.getD r 0))) an) (S_go 3 (S_end (V_seq (V_region (S_go 6 (S_end (V_block 2 ?_))))))))))))))) (fun k2=>(V_exit 0 ?_)))))))
  · refine V_loopL (fun (t,ys,kd)=>t≤b.cr.toNat∧ys=xs++(mvRow b fee f share r t).map (fun m=>[mvV m])∧kd=k-ys.length∧(k = -1∨1≤kd)) (fun (t,_,_)=>[(21,I (t:Nat))]) (fun (_,ys,kd)=>some ⟨ys,kd,i⟩) (fun (t,_,_)=>b.cr.toNat-t) ((0:Nat),xs,kc) ⟨Nat.zero_le _,by simp [mvRow],hkc,hk1⟩ fun (t,ys,kd) ⟨ht,hys,hkd,hk2⟩=>?_
    have hshr:=h6 (share.getD r 0) (by rw [getD_lt (by omega)];exact List.getElem_mem _)
    have hf1:=h7 t
    have hf2:=h8 r
    have hpre:=mv_pre (b:=b) (fee:=fee) (f:=f) (share:=share) (r:=r) (t:=t+1) (n:=share.length)
    have hno:mvOk b fee f share r t=false→ys=xs++(mvRow b fee f share r (t+1)).map (fun m=>[mvV m]):=fun h=>by rw [mvRow_succ,h,hys];simp
    refine V_seq (V_region (S_go 1 (S_end (V_seq (V_dec ((↑t:Int)<b.cr) (fun k4=>(V_skip (V_seq (V_block 3 (V_seq (V_region (S_go 2 (S_end (V_seq (V_region (S_go 4 (S_ndec 27 ((↑t:Int)=share.getD r 0) (fun k5=>(S_go 3 (S_a [(9,.ret (PV.bool (has (rnd b r).may (↑t:Int))) ([]))] (ap (f98 (b) (fee) ((↑t:Int)) (r) (by first | omega | (simp<;>omega)) (by omega)) an) (S_go 2 (S_case 33 (has (rnd b r).may (↑t:Int)) (fun k6=>(S_go 1 (S_a [(2,.ob),(0,.v ((I (f.getD t 0)).ref))] (ap ((by exact dec_of (by omega)):decide (t<4)=true) (ap (sa_arrM (i:=t) (by omega) (0):stepAddr (PV.agg (List.map I f)).ref (t*(fun x=>x.size) Try.prog.types[3]) none=some (I (f.getD t 0)).ref) an)) (S_go 6 (S_a [(2,.v (I (fee.getD r 0)))] (ap (getm (0) (by omega):(List.map I fee)[r]? = some (I (fee.getD r 0))) an) (S_go 1 (S_a [(1,.v (I (f.getD t 0+fee.getD r 0)))] (ap ((wrapE rfl (by omega)):I (IntKind.i64.wrap (f.getD t 0+fee.getD r 0))=I (f.getD t 0+fee.getD r 0)) an) (S_go 1 (S_a [(0,.ob),(1,.ob),(0,.v ((I (f.getD (share.getD r 0).toNat 0)).ref))] (ap ((by exact dec_of (by omega)):decide (0≤share.getD r 0)=true) (ap ((by exact dec_of (by omega)):decide ((share.getD r 0).toNat<4)=true) (ap (sa_arrM (i:=(share.getD r 0).toNat) (by omega) (0):stepAddr (PV.agg (List.map I f)).ref ((share.getD r 0).toNat*(fun x=>x.size) Try.prog.types[3]) none=some (I (f.getD (share.getD r 0).toNat 0)).ref) an))) (S_go 4 (S_dec 50 (f.getD t 0+fee.getD r 0<f.getD (share.getD r 0).toNat 0) (fun k7=>(S_go 4 ?_)) (fun k7=>(S_go 7 (S_end (V_false (V_skip (V_region (S_a [(1,.v (I (↑(t+1):Int)))] (ap ((wrapE (by omega) (by omega)):I (IntKind.i64.wrap ((↑t:Int)+1))=I (↑(t+1):Int)) an) (S_go 1 (S_end ?_)))))))))))))))))))) (fun k6=>(S_go 24 (S_end (V_false (V_skip (V_region (S_a [(1,.v (I (↑(t+1):Int)))] (ap ((wrapE (by omega) (by omega)):I (IntKind.i64.wrap ((↑t:Int)+1))=I (↑(t+1):Int)) an) (S_go 1 (S_end ?_)))))))))))))) (fun k5=>(S_go 30 (S_end (V_false (V_skip (V_region (S_a [(1,.v (I (↑(t+1):Int)))] (ap ((wrapE (by omega) (by omega)):I (IntKind.i64.wrap ((↑t:Int)+1))=I (↑(t+1):Int)) an) (S_go 1 (S_end ?_))))))))))))))))))))) (fun k4=>(V_exit 2 (V_region (S_a [(1,.v (I (↑(r+1):Int)))] (ap ((wrapE (by omega) (by omega)):I (IntKind.i64.wrap ((↑r:Int)+1))=I (↑(r+1):Int)) an) (S_go 1 (S_end ?_)))))))))))
    · have hok:mvOk b fee f share r t=true:=by simp only [mvOk,k6,decide_eq_true k5,decide_eq_true k7];rfl
      have hys':ys++[[mvV (r,t)]]=xs++(mvRow b fee f share r (t+1)).map (fun m=>[mvV m]):=by rw [mvRow_succ,hok,hys];simp
      have hpre':ys++[[mvV (r,t)]] <+: mvLog b fee f share share.length:=by
        have:=(hpre (by omega) (by omega)).map (fun m=>[mvV m])
        rw [List.map_append] at this
        rw [hys',hxs];exact this
      refine S_yield kd ys [mvV (r,t)] i (fun hk3=>?_) (fun hk3=>?_) (by omega)
      · refine S_go 2 (S_end (V_true (V_ret ?_)))
        refine ⟨.inr rfl,?_⟩
        have hkk:k=(ys++[[mvV (r,t)]]).length:=by simp;omega
        have hk1:¬ k = -1:=by omega
        rw [if_neg hk1,← pre_take hpre' hkk];show Option.map _ _=_;kernel_rfl
      · refine S_go 2 (S_end (V_false (V_skip (V_region (S_a [(1,.v (I (↑(t+1):Int)))] (ap ((wrapE (by omega) (by omega)):I (IntKind.i64.wrap ((↑t:Int)+1))=I (↑(t+1):Int)) an) (S_go 1 (S_end ?_)))))))
        exact ⟨(t+1,ys++[[mvV (r,t)]],kd-1),⟨by omega,hys',by simp;omega,by omega⟩,by simp only;omega,by kernel_rfl,by kernel_rfl⟩
    · refine ⟨(t+1,ys,kd),⟨by omega,hno (by simp only [mvOk,k6,decide_eq_false k7];simp),hkd,hk2⟩,by simp only;omega,by kernel_rfl,by kernel_rfl⟩
    · refine ⟨(t+1,ys,kd),⟨by omega,hno (by simp only [mvOk,k6];simp),hkd,hk2⟩,by simp only;omega,by kernel_rfl,by kernel_rfl⟩
    · refine ⟨(t+1,ys,kd),⟨by omega,hno (by simp only [mvOk,k5];simp),hkd,hk2⟩,by simp only;omega,by kernel_rfl,by kernel_rfl⟩
    · have htc:t=b.cr.toNat:=by omega
      refine ⟨(r+1,ys,kd),⟨by omega,?_,hkd,hk2⟩,by simp only;omega,by kernel_rfl,by kernel_rfl⟩
      rw [hys,hxs,mvLog,mvLog,mvs_succ,htc,List.map_append]
  have hrl:r=share.length:=by omega
  refine ⟨.inl rfl,?_⟩
  subst hrl
  have hlen:xs.length=(mvs b fee f share share.length).length:=by rw [hxs];simp
  have hk1:k = -1:=by omega
  rw [if_pos hk1,← hxs];show Option.map _ _=_;kernel_rfl
theorem f130h {b:Dk} {fee f share:List Int} (h:MvOk b fee f share) (k:Int) (hk:k = -1∨1≤k∧k≤(mvs b fee f share share.length).length):@Hands (yo1 Try.prog feeH) 130 [] (mvCaps b fee f share) k (if k = -1 then mvLog b fee f share share.length else (mvLog b fee f share share.length).take k.toNat) :=
  hands_of Try.f130 (fun i=>@f130w yo0 _ _ _ _ h k hk i) (by omega)
end Go.Eng
set_option maxRecDepth 10000
set_option maxHeartbeats 2000000
namespace Go.Eng
open Go Go.Proofs
def inB (n lo hi:Int):Bool:=decide (lo≤n)&&decide (n≤hi)
def incr (l:List Int):Bool:=(List.range (l.length-1)).all fun j=>decide (l.getD j 0<l.getD (j+1) 0)
theorem incr_t {l:List Int} (h:∀ j,j+1<l.length→l.getD j 0<l.getD (j+1) 0):incr l=true:=by
  simp only [incr,List.all_eq_true,List.mem_range,decide_eq_true_eq]
  exact fun j hj=>h j (by omega)
theorem incr_f {l:List Int} {j:Nat} (hj:j+1<l.length) (h:l.getD j 0≥l.getD (j+1) 0):incr l=false:=by
  simp only [incr,List.all_eq_false]
  exact ⟨j,List.mem_range.2 (by omega),by simp only [decide_eq_true_eq];omega⟩
theorem incr_get {l:List Int} (h:incr l=true) {j:Nat} (hj:j+1<l.length):l.getD j 0<l.getD (j+1) 0:=by
  simp only [incr,List.all_eq_true,List.mem_range,decide_eq_true_eq] at h
  exact h j (by omega)
def rndErr (cr:Int) (r:Rnd):Int:=if r.may.length=0 then 6 else if !r.may.all (fun x=>decide (0≤x)&&decide (x≤cr-1)) then 1 else if !incr r.may then 4 else 0
def rndsErr (cr:Int):List Rnd→Int
  | []=>0
  | r::rs=>if rndErr cr r=0 then rndsErr cr rs else rndErr cr r
def rndNum (r:Rnd):Bool:=(decide (1≤r.w)&&decide (r.w≤9))&&(decide (1≤r.s)&&decide (r.s≤5))
def boxErr (b:Dk):Int :=
  if !(decide (1≤b.cr)&&decide (b.cr≤4)) then 2
  else if (b.rs.length:Int)>7 then 2
  else if !(decide (0≤b.wd)&&decide (b.wd≤20)) then 3
  else if !(decide (0≤b.st)&&decide (b.st≤20)) then 3
  else if !(decide (0≤b.fn)&&decide (b.fn≤20)) then 3
  else if !b.rs.all rndNum then 3
  else rndsErr b.cr b.rs
abbrev rnds (l:List Rnd):PV := .sl (l.map rndV)
theorem rndsErr_at {cr:Int} {l:List Rnd} {i:Nat} (h:i<l.length):rndsErr cr (l.drop i)=if rndErr cr (l.getD i default)=0 then rndsErr cr (l.drop (i+1)) else rndErr cr (l.getD i default):=by
  rw [List.drop_eq_getElem_cons h,getD_lt h];rfl
section
variable [Yo]
theorem f114 (r:Rnd):FG 114 [rndV r] (.bool (rndNum r)):=by
  refine gives_ofX Try.f114 ?_
  refine V_seq (V_region (S_go 2 (S_end (V_seq (V_region (S_go 2 (S_a [(10,.ret (PV.bool (decide (1≤r.w)&&decide (r.w≤9))) ([]))] (ap (f78 (r.w) (1) (9)) an) (S_go 1 (S_case 6 (decide (1≤r.w)&&decide (r.w≤9)) (fun k0=>(S_go 2 (S_a [(10,.ret (PV.bool (decide (1≤r.s)&&decide (r.s≤5))) ([]))] (ap (f78 (r.s) (1) (5)) an) (S_go 2 (S_end (V_ret (E_a [] an (PV.bool (decide (1≤r.s)&&decide (r.s≤5))) ([]) ?_ rfl))))))) (fun k0=>(S_go 5 (S_end (V_ret (E_a [] an (PV.bool false) ([]) ?_ rfl))))))))))))))
  · simp only [rndNum,k0,Bool.true_and]
  · simp only [rndNum,k0,Bool.false_and]
theorem f115 (b:Dk) (n:Int) (hb:1≤b.cr∧b.cr≤4):FG 115 [boxV b,I n] (.bool (decide (0≤n)&&decide (n≤b.cr-1))):=by
  refine gives_ofX Try.f115 ?_
  refine V_seq (V_region (S_go 2 (S_end (V_seq (V_region (S_go 3 (S_a [(1,.v (I (b.cr-1)))] (ap ((wrapE rfl (by omega)):I (IntKind.i64.wrap (b.cr-1))=I (b.cr-1)) an) (S_a [(10,.ret (PV.bool (decide (0≤n)&&decide (n≤b.cr-1))) ([]))] (ap (f78 (n) (0) (b.cr-1)) an) (S_go 1 (S_end (V_ret (E_a [] an (PV.bool (decide (0≤n)&&decide (n≤b.cr-1))) ([]) rfl rfl))))))))))))
theorem f139_3  (x:Rnd):FG 139 [rndV x,.ref (.func 114 [] [])] (.bool (!(rndNum x))):=by
  refine gives_ofX Try.f139 ?_
  refine V_seq (V_region (S_go 2 (S_end (V_seq (V_region (S_go 2 (S_a [(6,.ret (PV.bool (rndNum x)) ([]))] (ap (f114 (x)) an) (S_go 2 (S_end (V_ret (E_a [] an (PV.bool !rndNum x) ([]) rfl rfl)))))))))))
theorem f146_3n  (l:List Rnd) (hl:l.length<4294967296):FG 146 [rnds l,.func 139 [] [.ref (.func 114 [] [])]] (I (idxF (fun x => !(rndNum x)) l)):=by
  refine gives_ofX Try.f146 ?_
  refine V_seq (V_region (S_go 1 (S_end (V_seq (V_seq (V_region (S_go 1 (S_a [(0,.n (l.length))] (ap ((by simp):some (List.map rndV l).length=some l.length) an) (S_go 1 (S_end (V_block 0 ?_)))))))))))
  refine V_loopS (fun i=>i≤l.length∧∀ j,j<i→(fun x => !(rndNum x)) (l.getD j default)=false) (fun i=>[(8,I (i:Nat))]) (fun i=>l.length-i) (0:Nat) (by simp) fun i ⟨hi,ha⟩=>?_
  refine V_seq (V_region (S_go 1 (S_end (V_seq (V_dec ((↑i:Int)<(↑l.length:Int)) (fun k0=>(V_skip (V_seq (V_block 1 (V_seq (V_region (S_go 2 (S_end (V_seq (V_region (S_go 3 (S_a [(2,.v (PV.agg [I (l.getD i default).w,I (l.getD i default).s,PV.sl (List.map I (l.getD i default).may)]))] (ap (getm (default) (by omega):(List.map rndV l)[i]? = some (PV.agg [I (l.getD i default).w,I (l.getD i default).s,PV.sl (List.map I (l.getD i default).may)])) an) (S_go 1 (S_a [(7,.ret (PV.bool !rndNum (l.getD i default)) ([]))] (ap (f139_3 (l.getD i default)) an) (S_end (V_if (!rndNum (l.getD i default)) (fun k1=>(V_seq (V_region (S_go 2 (S_end (V_ret (E_a [] an (I (↑i:Int)) ([]) ?_ rfl))))))) (fun k1=>(V_skip (V_region (S_a [(1,.v (I (↑(i+1):Int)))] (ap ((wrapE (by omega) (by omega)):I (IntKind.i64.wrap ((↑i:Int)+1))=I (↑(i+1):Int)) an) (S_go 1 (S_end ?_)))))))))))))))))))))) (fun k0=>(V_exit 0 (V_seq (V_region (S_go 1 (S_end (V_ret (E_a [] an (I (-1)) ([]) ?_ rfl)))))))))))))
  · rw [idxF_found (i:=i) (by omega) (fun j hj=>by rw [← getD_lt (d:=default)];exact ha j hj) (by rw [← getD_lt (d:=default)];assumption)]
  · refine ⟨i+1,⟨by omega,fun j hj=>?_⟩,by omega,by kernel_rfl,by kernel_rfl⟩
    rcases Nat.lt_succ_iff_lt_or_eq.1 hj with h | rfl
    · exact ha j h
    · assumption
  · rw [idxF_none fun j hj=>by rw [← getD_lt (d:=default)];exact ha j (by omega)]
theorem f138_3n  (l:List Rnd) (hl:l.length<4294967296):FG 138 [rnds l,.func 139 [] [.ref (.func 114 [] [])]] (.bool (l.any (fun x => !(rndNum x)))):=by
  refine gives_ofX Try.f138 ?_
  refine V_seq (V_region (S_go 1 (S_end (V_seq (V_region (S_go 2 (S_a [(7,.ret (I (idxF (fun x => !rndNum x) l)) ([]))] (ap (f146_3n (l) (by omega)) an) (S_go 2 (S_end (V_ret (E_a [] an (PV.bool (decide (idxF (fun x => !rndNum x) l≥0))) ([]) ?_ rfl)))))))))))
  rw [idxF_ge]
theorem f113_3  (l:List Rnd) (hl:l.length<4294967296):FG 113 [rnds l,.func 114 [] []] (.bool (l.all (fun x=>rndNum x))):=by
  refine gives_ofX Try.f113 ?_
  refine V_seq (V_region (S_go 2 (S_end (V_seq (V_region (S_go 2 (S_a [(12,.ret (PV.bool (l.any fun x => !rndNum x)) ([]))] (ap (f138_3n (l) (by omega)) an) (S_go 2 (S_end (V_ret (E_a [] an (PV.bool !l.any fun x => !rndNum x) ([]) ?_ rfl)))))))))))
  simp [List.not_any_eq_all_not]
theorem f126_2 (b:Dk) (hb:1≤b.cr∧b.cr≤4) (x:Int):FG 126 [I x,.ref (.func 115 [boxV b] [])] (.bool (!(decide (0≤x)&&decide (x≤b.cr-1)))):=by
  refine gives_ofX Try.f126 ?_
  refine V_seq (V_region (S_go 1 (S_end (V_seq (V_region (S_go 2 (S_a [(8,.ret (PV.bool (decide (0≤x)&&decide (x≤b.cr-1))) ([]))] (ap (f115 (b) (x) (by omega)) an) (S_go 2 (S_end (V_ret (E_a [] an (PV.bool !(decide (0≤x)&&decide (x≤b.cr-1))) ([]) rfl rfl)))))))))))
theorem f118_2n (b:Dk) (hb:1≤b.cr∧b.cr≤4) (l:List Int) (hl:l.length<4294967296):FG 118 [ints l,.func 126 [] [.ref (.func 115 [boxV b] [])]] (I (idxF (fun x => !(decide (0≤x)&&decide (x≤b.cr-1))) l)):=by
  refine gives_ofX Try.f118 ?_
  refine V_seq (V_region (S_go 1 (S_end (V_seq (V_seq (V_region (S_go 1 (S_a [(0,.n (l.length))] (ap ((by simp):some (List.map I l).length=some l.length) an) (S_go 1 (S_end (V_block 0 ?_)))))))))))
  refine V_loopS (fun i=>i≤l.length∧∀ j,j<i→(fun x => !(decide (0≤x)&&decide (x≤b.cr-1))) (l.getD j 0)=false) (fun i=>[(8,I (i:Nat))]) (fun i=>l.length-i) (0:Nat) (by simp) fun i ⟨hi,ha⟩=>?_
  refine V_seq (V_region (S_go 1 (S_end (V_seq (V_dec ((↑i:Int)<(↑l.length:Int)) (fun k0=>(V_skip (V_seq (V_block 1 (V_seq (V_region (S_go 2 (S_end (V_seq (V_region (S_go 3 (S_a [(2,.v (I (l.getD i 0)))] (ap (getm (0) (by omega):(List.map I l)[i]? = some (I (l.getD i 0))) an) (S_go 1 (S_a [(7,.ret (PV.bool !(decide (0≤l.getD i 0)&&decide (l.getD i 0≤b.cr-1))) ([]))] (ap (f126_2 (b) (by omega) (l.getD i 0)) an) (S_end (V_if (!(decide (0≤l.getD i 0)&&decide (l.getD i 0≤b.cr-1))) (fun k1=>(V_seq (V_region (S_go 2 (S_end (V_ret (E_a [] an (I (↑i:Int)) ([]) ?_ rfl))))))) (fun k1=>(V_skip (V_region (S_a [(1,.v (I (↑(i+1):Int)))] (ap ((wrapE (by omega) (by omega)):I (IntKind.i64.wrap ((↑i:Int)+1))=I (↑(i+1):Int)) an) (S_go 1 (S_end ?_)))))))))))))))))))))) (fun k0=>(V_exit 0 (V_seq (V_region (S_go 1 (S_end (V_ret (E_a [] an (I (-1)) ([]) ?_ rfl)))))))))))))
  · rw [idxF_found (i:=i) (by omega) (fun j hj=>by rw [← getD_lt (d:=0)];exact ha j hj) (by rw [← getD_lt (d:=0)];assumption)]
  · refine ⟨i+1,⟨by omega,fun j hj=>?_⟩,by omega,by kernel_rfl,by kernel_rfl⟩
    rcases Nat.lt_succ_iff_lt_or_eq.1 hj with h | rfl
    · exact ha j h
    · assumption
  · rw [idxF_none fun j hj=>by rw [← getD_lt (d:=0)];exact ha j (by omega)]
theorem f65_2n (b:Dk) (hb:1≤b.cr∧b.cr≤4) (l:List Int) (hl:l.length<4294967296):FG 65 [ints l,.func 126 [] [.ref (.func 115 [boxV b] [])]] (.bool (l.any (fun x => !(decide (0≤x)&&decide (x≤b.cr-1))))):=by
  refine gives_ofX Try.f65 ?_
  refine V_seq (V_region (S_go 1 (S_end (V_seq (V_region (S_go 2 (S_a [(6,.ret (I (idxF (fun x => !(decide (0≤x)&&decide (x≤b.cr-1))) l)) ([]))] (ap (f118_2n (b) (by omega) (l) (by omega)) an) (S_go 2 (S_end (V_ret (E_a [] an (PV.bool (decide (idxF (fun x => !(decide (0≤x)&&decide (x≤b.cr-1))) l≥0))) ([]) ?_ rfl)))))))))))
  rw [idxF_ge]
theorem f79_2 (b:Dk) (hb:1≤b.cr∧b.cr≤4) (l:List Int) (hl:l.length<4294967296):FG 79 [ints l,.func 115 [boxV b] []] (.bool (l.all (fun x=>decide (0≤x)&&decide (x≤b.cr-1)))):=by
  refine gives_ofX Try.f79 ?_
  refine V_seq (V_region (S_go 2 (S_end (V_seq (V_region (S_go 2 (S_a [(12,.ret (PV.bool (l.any fun x => !(decide (0≤x)&&decide (x≤b.cr-1)))) ([]))] (ap (f65_2n (b) (by omega) (l) (by omega)) an) (S_go 2 (S_end (V_ret (E_a [] an (PV.bool !l.any fun x => !(decide (0≤x)&&decide (x≤b.cr-1))) ([]) ?_ rfl)))))))))))
  simp [List.not_any_eq_all_not]
theorem f58 (b:Dk) (hb:Small b):FG 58 [boxV b] (I (boxErr b)):=by
  refine gives_ofX Try.f58 ?_
  have hb1:=hb.1
  refine V_seq (V_region (S_go 2 (S_end (V_seq (V_block 0 (V_seq (V_region (S_go 2 (S_a [(10,.ret (PV.bool (decide (1≤b.cr)&&decide (b.cr≤4))) ([]))] (ap (f78 (b.cr) (1) (4)) an) (S_go 2 (S_case 11 (!(decide (1≤b.cr)&&decide (b.cr≤4))) (fun k0=>(S_go 6 (S_end (V_true (V_seq (V_region (S_go 1 (S_end (V_ret (E_a [] an (I 2) ([]) ?_ rfl)))))))))) (fun k0=>(S_go 2 (S_a [(0,.n (b.rs.length))] (ap ((by simp):some (List.map rndV b.rs).length=some b.rs.length) an) (S_go 3 (S_end (V_dec ((↑b.rs.length:Int)>7) (fun k1=>(V_seq (V_region (S_go 1 (S_end (V_ret (E_a [] an (I 2) ([]) ?_ rfl))))))) (fun k1=>(V_seq (V_region (S_go 2 (S_a [(10,.ret (PV.bool (decide (0≤b.wd)&&decide (b.wd≤20))) ([]))] (ap (f78 (b.wd) (0) (20)) an) (S_go 2 (S_case 22 (!(decide (0≤b.wd)&&decide (b.wd≤20))) (fun k2=>(S_go 12 (S_end (V_true (V_seq (V_region (S_go 1 (S_end (V_ret (E_a [] an (I 3) ([]) ?_ rfl)))))))))) (fun k2=>(S_go 2 (S_a [(10,.ret (PV.bool (decide (0≤b.st)&&decide (b.st≤20))) ([]))] (ap (f78 (b.st) (0) (20)) an) (S_go 3 (S_case 28 (!(decide (0≤b.st)&&decide (b.st≤20))) (fun k3=>(S_go 6 (S_end (V_true (V_seq (V_region (S_go 1 (S_end (V_ret (E_a [] an (I 3) ([]) ?_ rfl)))))))))) (fun k3=>(S_go 2 (S_a [(10,.ret (PV.bool (decide (0≤b.fn)&&decide (b.fn≤20))) ([]))] (ap (f78 (b.fn) (0) (20)) an) (S_go 3 (S_end (V_if (!(decide (0≤b.fn)&&decide (b.fn≤20))) (fun k4=>(V_seq (V_region (S_go 1 (S_end (V_ret (E_a [] an (I 3) ([]) ?_ rfl))))))) (fun k4=>(V_seq (V_region (S_go 2 (S_a [(7,.ret (PV.bool (b.rs.all fun x=>rndNum x)) ([]))] (ap (f113_3 (b.rs) (by omega)) an) (S_go 2 (S_end (V_if (!b.rs.all fun x=>rndNum x) (fun k5=>(V_seq (V_region (S_go 1 (S_end (V_ret (E_a [] an (I 3) ([]) ?_ rfl))))))) (fun k5=>(V_skip (V_seq (V_seq (V_region (S_go 2 (S_a [(0,.n (b.rs.length))] (ap ((by simp):some (List.map rndV b.rs).length=some b.rs.length) an) (S_go 1 (S_end (V_block 1 ?_)))))))))))))))))))))))))))))))))))))))))))))))))))))
  · simp only [boxErr,k0,if_true]
  · simp only [boxErr,k0,k1,if_true];rfl
  · simp only [boxErr,k0,k1,k2,if_true,if_false];rfl
  · simp only [boxErr,k0,k1,k2,k3,if_true,if_false];rfl
  · simp only [boxErr,k0,k1,k2,k3,k4,if_true,if_false];rfl
  · simp only [boxErr,k0,k1,k2,k3,k4,k5,if_true,if_false];rfl
  have e:boxErr b=rndsErr b.cr b.rs:=by simp only [boxErr,k0,k1,k2,k3,k4,k5,if_false];rfl
  have hcr:=in_and k0
  rw [e]
  refine V_loopS (fun i=>i≤b.rs.length∧rndsErr b.cr b.rs=rndsErr b.cr (b.rs.drop i)) (fun i=>[(42,I (i:Nat))]) (fun i=>b.rs.length-i) (0:Nat) ⟨Nat.zero_le _,rfl⟩ fun i ⟨hi,hr⟩=>?_
  have hm:i<b.rs.length→(b.rs.getD i default).may.length<4294967296:=fun h=>hb.2 _ (by rw [getD_lt h];exact List.getElem_mem _)
  have hra:i<b.rs.length→rndsErr b.cr b.rs=if rndErr b.cr (b.rs.getD i default)=0 then rndsErr b.cr (b.rs.drop (i+1)) else rndErr b.cr (b.rs.getD i default):=fun h=>by rw [hr,rndsErr_at h]
  refine V_seq (V_region (S_go 1 (S_end (V_seq (V_dec ((↑i:Int)<(↑b.rs.length:Int)) (fun k6=>(V_skip (V_seq (V_block 2 (V_seq (V_region (S_a [(2,.v (PV.agg [I (b.rs.getD i default).w,I (b.rs.getD i default).s,PV.sl (List.map I (b.rs.getD i default).may)]))] (ap (getm (default) (by omega):(List.map rndV b.rs)[i]? = some (PV.agg [I (b.rs.getD i default).w,I (b.rs.getD i default).s,PV.sl (List.map I (b.rs.getD i default).may)])) an) (S_go 3 (S_end (V_seq (V_block 3 (V_seq (V_region (S_go 2 (S_a [(0,.n ((b.rs.getD i default).may.length))] (ap ((by simp):some (List.map I (b.rs.getD i default).may).length=some (b.rs.getD i default).may.length) an) (S_go 2 (S_end (V_dec ((↑(b.rs.getD i default).may.length:Int)=0) (fun k7=>(V_seq (V_region (S_go 1 (S_end (V_ret (E_a [] an (I 6) ([]) ?_ rfl))))))) (fun k7=>(V_seq (V_region (S_go 4 (S_a [(7,.ret (PV.bool ((b.rs.getD i default).may.all fun x=>decide (0≤x)&&decide (x≤b.cr-1))) ([]))] (ap (f79_2 (b) (by omega) ((b.rs.getD i default).may) (by omega)) an) (S_go 2 (S_end (V_if (!(b.rs.getD i default).may.all fun x=>decide (0≤x)&&decide (x≤b.cr-1)) (fun k8=>(V_seq (V_region (S_go 1 (S_end (V_ret (E_a [] an (I 1) ([]) ?_ rfl))))))) (fun k8=>(V_skip (V_seq (V_region (S_go 2 (S_a [(2,.ob),(0,.ob),(0,.ob),(0,.v (PV.sl (List.map I (List.take ((b.rs.getD i default).may.length-1) (List.drop 1 (b.rs.getD i default).may)))))] (ap ((by exact ble_of (by simp only [List.length_map,List.length_set,List.length_append,List.length_cons,List.length_nil,limit]<;>omega)):Nat.ble 1 (List.map I (b.rs.getD i default).may).length=true) (ap ((by exact ble_of (by simp only [List.length_map,List.length_set,List.length_append,List.length_cons,List.length_nil,limit]<;>omega)):(List.map I (b.rs.getD i default).may).length.ble (List.map I (b.rs.getD i default).may).length=true) (ap (?_:((List.map I (b.rs.getD i default).may).all fun x=>x.cells.length.beq ((fun x=>x.size) Try.prog.types[3]))=true) (ap ((by simp):PV.sl (List.take ((List.map I (b.rs.getD i default).may).length-1) (List.drop 1 (List.map I (b.rs.getD i default).may)))=PV.sl (List.map I (List.take ((b.rs.getD i default).may.length-1) (List.drop 1 (b.rs.getD i default).may)))) an)))) (S_a [(0,.n ((List.take ((b.rs.getD i default).may.length-1) (List.drop 1 (b.rs.getD i default).may)).length))] (ap ((by simp):some (List.map I (List.take ((b.rs.getD i default).may.length-1) (List.drop 1 (b.rs.getD i default).may))).length=some (List.take ((b.rs.getD i default).may.length-1) (List.drop 1 (b.rs.getD i default).may)).length) an) (S_go 1 (S_end (V_block 4 ?_)))))))))))))))))))))))))))))))))))) (fun k6=>(V_exit 1 (V_seq (V_region (S_go 1 (S_end (V_ret (E_a [] an (I 0) ([]) ?_ rfl)))))))))))))
  · have e1:(b.rs.getD i default).may.length=0:=by omega
    have e2:rndErr b.cr (b.rs.getD i default)=6:=by simp only [rndErr,e1,if_true]
    rw [hra (by omega),e2];rfl
  · have e1:¬ (b.rs.getD i default).may.length=0:=by omega
    have e2:rndErr b.cr (b.rs.getD i default)=1:=by simp only [rndErr,e1,k8,if_true,if_false]
    rw [hra (by omega),e2];rfl
  · exact all_map _ (fun _=>by kernel_rfl)
  · refine V_loopS (fun j=>j+1≤(b.rs.getD i default).may.length∧∀ t,t<j→(b.rs.getD i default).may.getD t 0<(b.rs.getD i default).may.getD (t+1) 0) (fun j=>[(62,I (j:Nat))]) (fun j=>(b.rs.getD i default).may.length-j) (0:Nat) ⟨by omega,by simp⟩ fun j ⟨hj,hja⟩=>?_
    have e1:¬ (b.rs.getD i default).may.length=0:=by omega
    have e2:(List.take ((b.rs.getD i default).may.length-1) (List.drop 1 (b.rs.getD i default).may)).length=(b.rs.getD i default).may.length-1:=by simp
    refine V_seq (V_region (S_go 1 (S_end (V_seq (V_dec ((↑j:Int)<(↑(List.take ((b.rs.getD i default).may.length-1) (List.drop 1 (b.rs.getD i default).may)).length:Int)) (fun k9=>(V_skip (V_seq (V_block 5 (V_seq (V_region (S_go 2 (S_end (V_seq (V_region (S_go 3 (S_a [(2,.v (I ((b.rs.getD i default).may.getD j 0)))] (ap (getm (0) (by omega):(List.map I (b.rs.getD i default).may)[j]? = some (I ((b.rs.getD i default).may.getD j 0))) an) (S_go 4 (S_a [(1,.v (I (↑(j+1):Int)))] (ap ((wrapE (by omega) (by omega)):I (IntKind.i64.wrap ((↑j:Int)+1))=I (↑(j+1):Int)) an) (S_a [(2,.v (I ((b.rs.getD i default).may.getD (j+1) 0)))] (ap (getm (0) (by omega):(List.map I (b.rs.getD i default).may)[j+1]? = some (I ((b.rs.getD i default).may.getD (j+1) 0))) an) (S_go 2 (S_end (V_dec ((b.rs.getD i default).may.getD j 0≥(b.rs.getD i default).may.getD (j+1) 0) (fun k10=>(V_seq (V_region (S_go 1 (S_end (V_ret (E_a [] an (I 4) ([]) ?_ rfl))))))) (fun k10=>(V_skip (V_region (S_a [(1,.v (I (↑(j+1):Int)))] (ap ((wrapE (by omega) (by omega)):I (IntKind.i64.wrap ((↑j:Int)+1))=I (↑(j+1):Int)) an) (S_go 1 (S_end ?_)))))))))))))))))))))))) (fun k9=>(V_exit 4 (V_region (S_a [(1,.v (I (↑(i+1):Int)))] (ap ((wrapE (by omega) (by omega)):I (IntKind.i64.wrap ((↑i:Int)+1))=I (↑(i+1):Int)) an) (S_go 1 (S_end ?_)))))))))))
    · have e3:rndErr b.cr (b.rs.getD i default)=4:=by
        simp only [rndErr,e1,k8,incr_f (l:=(b.rs.getD i default).may) (j:=j) (by omega) k10];rfl
      rw [hra (by omega),e3];rfl
    · refine ⟨j+1,⟨by omega,fun t ht=>?_⟩,by omega,by kernel_rfl,by kernel_rfl⟩
      rcases Nat.lt_succ_iff_lt_or_eq.1 ht with h | rfl
      · exact hja t h
      · omega
    · have e3:rndErr b.cr (b.rs.getD i default)=0:=by
        simp only [rndErr,e1,k8,incr_t (l:=(b.rs.getD i default).may) fun t ht=>hja t (by omega)];rfl
      refine ⟨i+1,⟨by omega,?_⟩,by omega,by kernel_rfl,by kernel_rfl⟩
      rw [hra (by omega),e3];rfl
  · have:i=b.rs.length:=by omega
    rw [hr,this];simp [rndsErr]
end
end Go.Eng
set_option maxRecDepth 10000
set_option maxHeartbeats 2000000
namespace Go.Eng
open Go Go.Proofs
structure Good (b:Dk):Prop where
  cr:1≤b.cr∧b.cr≤4
  len:b.rs.length≤7
  wd:0≤b.wd∧b.wd≤20
  st:0≤b.st∧b.st≤20
  fn:0≤b.fn∧b.fn≤20
  num:∀ r∈b.rs,(1≤r.w∧r.w≤9)∧1≤r.s∧r.s≤5
  may:∀ r∈b.rs,r.may.length≠0∧(∀ x∈r.may,0≤x∧x≤b.cr-1)∧incr r.may=true
theorem rnds_ok {cr:Int}:∀ {l:List Rnd},rndsErr cr l=0→∀ r∈l,r.may.length≠0∧(∀ x∈r.may,0≤x∧x≤cr-1)∧incr r.may=true
  | [],_,r,hr=>by cases hr
  | q :: l, h,r,hr=>by
    simp only [rndsErr] at h
    by_cases h0:rndErr cr q=0
    · rw [if_pos h0] at h
      rcases List.mem_cons.1 hr with rfl | hr
      · simp only [rndErr] at h0
        split at h0
        · cases h0
        · rename_i h1
          split at h0
          · cases h0
          · rename_i h2
            split at h0
            · cases h0
            · rename_i h3
              exact ⟨h1,all_in (by simpa using h2),by simpa using h3⟩
      · exact rnds_ok h r hr
    · rw [if_neg h0] at h;exact absurd h h0
theorem box_good {b:Dk} (h:boxErr b=0):Good b:=by
  simp only [boxErr] at h
  split at h
  · cases h
  rename_i h1
  split at h
  · cases h
  rename_i h2
  split at h
  · cases h
  rename_i h3
  split at h
  · cases h
  rename_i h4
  split at h
  · cases h
  rename_i h5
  split at h
  · cases h
  rename_i h6
  refine ⟨in_and (by simpa using h1),by omega,in_and (by simpa using h3),in_and (by simpa using h4),in_and (by simpa using h5),fun r hr=>?_,rnds_ok h⟩
  have:b.rs.all rndNum=true:=by simpa using h6
  have:=List.all_eq_true.1 this r hr
  simp only [rndNum,Bool.and_eq_true,decide_eq_true_eq] at this
  exact this
def feeOf (b:Dk) (r:Rnd):Int:=r.s*(b.st+r.w*b.wd)
def feesOf (b:Dk):List Int:=b.rs.map (feeOf b)
theorem feeOf_bd {b:Dk} {r:Rnd} (h:Good b) (hr:(1≤r.w∧r.w≤9)∧1≤r.s∧r.s≤5):0≤feeOf b r∧feeOf b r≤1000:=by
  have h1:=h.wd
  have h2:=h.st
  have h3:0≤r.w*b.wd:=Int.mul_nonneg (by omega) (by omega)
  have h4:r.w*b.wd≤9*20:=Int.mul_le_mul (by omega) (by omega) (by omega) (by omega)
  refine ⟨Int.mul_nonneg (by omega) (by omega),?_⟩
  have h5:r.s*(b.st+r.w*b.wd)≤5*(20+9*20):=Int.mul_le_mul (by omega) (by omega) (by omega) (by omega)
  unfold feeOf;omega
theorem feesOf_at {b:Dk} {i:Nat} (h:i<b.rs.length):(feesOf b).getD i 0=feeOf b (b.rs.getD i default):=by
  rw [getD_lt (by simpa [feesOf] using h),getD_lt h];simp [feesOf]
theorem feesOf_len {b:Dk}:(feesOf b).length=b.rs.length:=by simp [feesOf]
theorem rnd_num {b:Dk} (h:Good b) {i:Nat} (hi:i<b.rs.length):(1≤(b.rs.getD i default).w∧(b.rs.getD i default).w≤9)∧1≤(b.rs.getD i default).s∧(b.rs.getD i default).s≤5:=by
  rw [getD_lt hi];exact h.num _ (List.getElem_mem hi)
theorem feesOf_bd {b:Dk} (h:Good b) (i:Nat):0≤(feesOf b).getD i 0∧(feesOf b).getD i 0≤1000:=by
  rcases Nat.lt_or_ge i b.rs.length with hi | hi
  · rw [feesOf_at hi];exact feeOf_bd h (rnd_num h hi)
  · rw [List.getD_eq_getElem?_getD,List.getElem?_eq_none (by rw [feesOf_len];exact hi)];simp
theorem good_may {b:Dk} (h:Good b) {i:Nat} (hi:i<b.rs.length):(b.rs.getD i default).may.length≠0∧(∀ x∈(b.rs.getD i default).may,0≤x∧x≤b.cr-1)∧incr (b.rs.getD i default).may=true:=by
  rw [getD_lt hi];exact h.may _ (List.getElem_mem hi)
section
variable [Yo]
theorem f101_1 (b:Dk) (hb:Small b) (h:boxErr b=0):FG 101 [boxV b] (.tup [.ref (deskV b (feesOf b)),I 0]):=by
  refine gives_ofX Try.f101 ?_
  have hg:=box_good h
  have hlen:=hg.len
  refine V_seq (V_region (S_go 3 (S_end (V_seq (V_seq (V_region (S_go 1 (S_a [(6,.ret (I (boxErr b)) ([]))] (ap (f58 (b) (by omega)) an) (S_go 1 (S_end (V_seq (V_region (S_go 2 (S_end (V_ndecF (boxErr b=0) (by omega) (V_skip (V_seq (V_region (S_go 4 (S_end (V_seq (V_seq (V_region (S_go 2 (S_a [(0,.n (b.rs.length))] (ap ((by simp):some (List.map rndV b.rs).length=some b.rs.length) an) (S_go 1 (S_end (V_block 0 ?_))))))))))))))))))))))))))))
  refine V_loopS (fun (i,f)=>i≤b.rs.length∧f=(feesOf b).take i) (fun (i,f)=>[(5,.box (.agg [I b.cr,I b.wd,I b.st,I b.fn,.sl (b.rs.map rndV),.own 1 (f.map I)])),(19,I (i:Nat))]) (fun (i,_)=>b.rs.length-i) ((0:Nat),([]:List Int)) ⟨Nat.zero_le _,rfl⟩ fun (i,f) ⟨hi,hf⟩=>?_
  have h1:=hg.wd
  have h2:=hg.st
  have h3:i<b.rs.length→_:=fun h=>rnd_num hg h
  have h4:i<b.rs.length→0≤(b.rs.getD i default).w*b.wd∧(b.rs.getD i default).w*b.wd≤9*20:=fun h=>⟨Int.mul_nonneg (by have:=h3 h;omega) (by omega),Int.mul_le_mul (by have:=h3 h;omega) (by omega) (by omega) (by omega)⟩
  have h5:i<b.rs.length→0≤(b.rs.getD i default).s*(b.st+(b.rs.getD i default).w*b.wd)∧(b.rs.getD i default).s*(b.st+(b.rs.getD i default).w*b.wd)≤1000:=fun h=>feeOf_bd hg (h3 h)
  have hl:f.length=i:=by rw [hf];simp [feesOf];omega
  refine V_seq (V_region (S_go 1 (S_end (V_seq (V_dec ((↑i:Int)<(↑b.rs.length:Int)) (fun k0=>(V_skip (V_seq (V_block 1 (V_seq (V_region (S_a [(2,.v (PV.agg [I (b.rs.getD i default).w,I (b.rs.getD i default).s,PV.sl (List.map I (b.rs.getD i default).may)]))] (ap (getm (default) (by omega):(List.map rndV b.rs)[i]? = some (PV.agg [I (b.rs.getD i default).w,I (b.rs.getD i default).s,PV.sl (List.map I (b.rs.getD i default).may)])) an) (S_go 3 (S_end (V_region (S_go 4 (S_a [(1,.v (PV.bor 5 [(0,5)] 1 0 f.length))] (ap ((by simp):PV.bor 5 [(0,5)] 1 0 (List.map I f).length=PV.bor 5 [(0,5)] 1 0 f.length) an) (S_go 8 (S_a [(1,.v (I ((b.rs.getD i default).w*b.wd)))] (ap ((wrapE rfl (by omega)):I (IntKind.i64.wrap ((b.rs.getD i default).w*b.wd))=I ((b.rs.getD i default).w*b.wd)) an) (S_a [(1,.v (I (b.st+(b.rs.getD i default).w*b.wd)))] (ap ((wrapE rfl (by omega)):I (IntKind.i64.wrap (b.st+(b.rs.getD i default).w*b.wd))=I (b.st+(b.rs.getD i default).w*b.wd)) an) (S_a [(1,.v (I ((b.rs.getD i default).s*(b.st+(b.rs.getD i default).w*b.wd))))] (ap ((wrapE rfl (by omega)):I (IntKind.i64.wrap ((b.rs.getD i default).s*(b.st+(b.rs.getD i default).w*b.wd)))=I ((b.rs.getD i default).s*(b.st+(b.rs.getD i default).w*b.wd))) an) (S_go 1 (S_a [(4,.ob),(0,.ob),(0,.ob),(2,.v (PV.own 1 (List.map I (f++[(b.rs.getD i default).s*(b.st+(b.rs.getD i default).w*b.wd)]))))] (ap ((by exact ble_of (by simp only [List.length_map,List.length_set,List.length_append,List.length_cons,List.length_nil,limit]<;>omega)):(0+f.length).ble (List.map I f).length=true) (ap ((by exact ble_of (by simp only [List.length_map,List.length_set,List.length_append,List.length_cons,List.length_nil,limit]<;>omega)):((List.map I f).length + [I ((b.rs.getD i default).s*(b.st+(b.rs.getD i default).w*b.wd))].length).ble limit=true) (ap ((by exact beq_of (by simp<;>omega)):(0+f.length).beq (List.map I f).length=true) (ap ((by simp):PV.own 1 (List.map I f++[I ((b.rs.getD i default).s*(b.st+(b.rs.getD i default).w*b.wd))])=PV.own 1 (List.map I (f++[(b.rs.getD i default).s*(b.st+(b.rs.getD i default).w*b.wd)]))) an)))) (S_go 3 (S_end (V_region (S_a [(1,.v (I (↑(i+1):Int)))] (ap ((wrapE (by omega) (by omega)):I (IntKind.i64.wrap ((↑i:Int)+1))=I (↑(i+1):Int)) an) (S_go 1 (S_end ?_)))))))))))))))))))))))) (fun k0=>(V_exit 0 (V_seq (V_region (S_go 1 (S_go 1 (S_go 1 (S_end (V_ret (E_a [(1,.env ([(1,(PV.agg [I b.cr,I b.wd,I b.st,I b.fn,PV.sl (List.map rndV b.rs)]).box),(2,(PV.agg [I b.cr,I b.wd,I b.st,I b.fn,PV.sl (List.map rndV b.rs),PV.sl (List.map I f)]).ref),(3,I 0),(4,I (boxErr b)),(5,(PV.agg [I b.cr,I b.wd,I b.st,I b.fn,PV.sl (List.map rndV b.rs),PV.sl (List.map I f)]).ref),(11,PV.bool (boxErr b != 0)),(16,PV.addr 1 [] 0 4 none),(17,PV.sl (List.map rndV b.rs)),(18,I (↑b.rs.length:Int)),(19,I (↑i:Int)),(20,PV.bool (decide ((↑i:Int)<(↑b.rs.length:Int)))),(44,(PV.agg [I b.cr,I b.wd,I b.st,I b.fn,PV.sl (List.map rndV b.rs),PV.sl (List.map I f)]).ref)])),(0,.v ((PV.agg [I b.cr,I b.wd,I b.st,I b.fn,PV.sl (List.map rndV b.rs),PV.sl (List.map I f)]).ref))] (ap (Eq.trans (by kernel_rfl:Env.frz [(1,(PV.agg [I b.cr,I b.wd,I b.st,I b.fn,PV.sl (List.map rndV b.rs)]).box),(2,PV.addr 5 [] 0 0 (some 6)),(3,I 0),(4,I (boxErr b)),(5,(PV.agg [I b.cr,I b.wd,I b.st,I b.fn,PV.sl (List.map rndV b.rs),PV.own 1 (List.map I f)]).box),(11,PV.bool (boxErr b != 0)),(16,PV.addr 1 [] 0 4 none),(17,PV.sl (List.map rndV b.rs)),(18,I (↑b.rs.length:Int)),(19,I (↑i:Int)),(20,PV.bool (decide ((↑i:Int)<(↑b.rs.length:Int)))),(44,PV.addr 5 [] 0 0 (some 6))] 5 []=some [(1,(PV.agg [I b.cr,I b.wd,I b.st,I b.fn,PV.sl (List.map rndV b.rs)]).box),(2,(PV.agg [I b.cr,I b.wd,I b.st,I b.fn,PV.sl (List.map rndV b.rs),PV.sl (freezes (List.map I f))]).ref),(3,I 0),(4,I (boxErr b)),(5,(PV.agg [I b.cr,I b.wd,I b.st,I b.fn,PV.sl (List.map rndV b.rs),PV.sl (freezes (List.map I f))]).ref),(11,PV.bool (boxErr b != 0)),(16,PV.addr 1 [] 0 4 none),(17,PV.sl (List.map rndV b.rs)),(18,I (↑b.rs.length:Int)),(19,I (↑i:Int)),(20,PV.bool (decide ((↑i:Int)<(↑b.rs.length:Int)))),(44,(PV.agg [I b.cr,I b.wd,I b.st,I b.fn,PV.sl (List.map rndV b.rs),PV.sl (freezes (List.map I f))]).ref)]) ((by simp only [show freezes (List.map I f)=List.map I f from (by first | exact freezes_mapI _ | exact freezes_mapG _ | exact freezes_to (by simp [take_mapL]) (freezes_mapI _))]):some [(1,(PV.agg [I b.cr,I b.wd,I b.st,I b.fn,PV.sl (List.map rndV b.rs)]).box),(2,(PV.agg [I b.cr,I b.wd,I b.st,I b.fn,PV.sl (List.map rndV b.rs),PV.sl (freezes (List.map I f))]).ref),(3,I 0),(4,I (boxErr b)),(5,(PV.agg [I b.cr,I b.wd,I b.st,I b.fn,PV.sl (List.map rndV b.rs),PV.sl (freezes (List.map I f))]).ref),(11,PV.bool (boxErr b != 0)),(16,PV.addr 1 [] 0 4 none),(17,PV.sl (List.map rndV b.rs)),(18,I (↑b.rs.length:Int)),(19,I (↑i:Int)),(20,PV.bool (decide ((↑i:Int)<(↑b.rs.length:Int)))),(44,(PV.agg [I b.cr,I b.wd,I b.st,I b.fn,PV.sl (List.map rndV b.rs),PV.sl (freezes (List.map I f))]).ref)]=some [(1,(PV.agg [I b.cr,I b.wd,I b.st,I b.fn,PV.sl (List.map rndV b.rs)]).box),(2,(PV.agg [I b.cr,I b.wd,I b.st,I b.fn,PV.sl (List.map rndV b.rs),PV.sl (List.map I f)]).ref),(3,I 0),(4,I (boxErr b)),(5,(PV.agg [I b.cr,I b.wd,I b.st,I b.fn,PV.sl (List.map rndV b.rs),PV.sl (List.map I f)]).ref),(11,PV.bool (boxErr b != 0)),(16,PV.addr 1 [] 0 4 none),(17,PV.sl (List.map rndV b.rs)),(18,I (↑b.rs.length:Int)),(19,I (↑i:Int)),(20,PV.bool (decide ((↑i:Int)<(↑b.rs.length:Int)))),(44,(PV.agg [I b.cr,I b.wd,I b.st,I b.fn,PV.sl (List.map rndV b.rs),PV.sl (List.map I f)]).ref)])) (ap ((by simp only [show freezes (List.map I f)=List.map I f from (by first | exact freezes_mapI _ | exact freezes_mapG _ | exact freezes_to (by simp [take_mapL]) (freezes_mapI _))]):(PV.agg [I b.cr,I b.wd,I b.st,I b.fn,PV.sl (List.map rndV b.rs),PV.sl (freezes (List.map I f))]).ref=(PV.agg [I b.cr,I b.wd,I b.st,I b.fn,PV.sl (List.map rndV b.rs),PV.sl (List.map I f)]).ref) an)) (PV.tup [(PV.agg [I b.cr,I b.wd,I b.st,I b.fn,PV.sl (List.map rndV b.rs),PV.sl (List.map I f)]).ref,I 0]) ([]) ?_ rfl)))))))))))))))
  · refine ⟨(i+1,f++[(b.rs.getD i default).s*(b.st+(b.rs.getD i default).w*b.wd)]),⟨by omega,?_⟩,by simp only;omega,by kernel_rfl,by kernel_rfl⟩
    rw [hf,List.take_add_one,List.getElem?_eq_getElem (by rw [feesOf_len];omega)]
    have:=feesOf_at (b:=b) (i:=i) (by omega)
    rw [getD_lt (by rw [feesOf_len];omega)] at this
    rw [this];rfl
  · rw [hf,List.take_of_length_le (by rw [feesOf_len];omega)]
theorem f101_2 (b:Dk) (hb:Small b) (h:¬ boxErr b=0):FG 101 [boxV b] (.tup [.nilp,I (boxErr b)]):=by
  refine gives_ofX Try.f101 ?_
  refine V_seq (V_region (S_go 3 (S_end (V_seq (V_seq (V_region (S_go 1 (S_a [(6,.ret (I (boxErr b)) ([]))] (ap (f58 (b) (by omega)) an) (S_go 1 (S_end (V_seq (V_region (S_go 2 (S_end (V_ndecT (boxErr b=0) (by omega) (V_seq (V_region (S_go 3 (S_end (V_ret (E_a [] an (PV.tup [PV.nilp,I (boxErr b)]) ([]) rfl rfl)))))))))))))))))))))
def feeErr (b:Dk) (n:Int):Int:=if boxErr b=0 then if !(decide (0≤n)&&decide (n≤(b.rs.length:Int)-1)) then 1 else 0 else boxErr b
def feeVal (b:Dk) (n:Int):Int:=if feeErr b n=0 then (feesOf b).getD n.toNat 0 else 0
def mayAll (b:Dk) (l:List Int):Bool:=(List.range l.length).all fun r=>has (rnd b r).may (l.getD r 0)
def shareErr (b:Dk) (l:List Int):Int :=
  if boxErr b=0 then if l.length=b.rs.length then if !l.all (fun x=>decide (0≤x)&&decide (x≤b.cr-1)) then 1 else if mayAll b l then 0 else 8 else 2 else boxErr b
omit [Yo] in
theorem mayAll_t {b:Dk} {l:List Int} (h:∀ r,r<l.length→has (rnd b r).may (l.getD r 0)=true):mayAll b l=true:=by
  simp only [mayAll,List.all_eq_true,List.mem_range];exact h
omit [Yo] in
theorem mayAll_f {b:Dk} {l:List Int} {r:Nat} (hr:r<l.length) (h:(!has (rnd b r).may (l.getD r 0))=true):mayAll b l=false:=by
  simp only [mayAll,List.all_eq_false]
  exact ⟨r,List.mem_range.2 hr,by simpa using h⟩
omit [Yo] in
theorem mayAll_get {b:Dk} {l:List Int} (h:mayAll b l=true) {r:Nat} (hr:r<l.length):has (rnd b r).may (l.getD r 0)=true:=by
  simp only [mayAll,List.all_eq_true,List.mem_range] at h;exact h r hr
structure ShareOk (b:Dk) (l:List Int):Prop where
  box:boxErr b=0
  len:l.length=b.rs.length
  rng:∀ x∈l,0≤x∧x≤b.cr-1
  may:mayAll b l=true
omit [Yo] in
theorem shr_ok {b:Dk} {l:List Int} (h:shareErr b l=0):ShareOk b l:=by
  simp only [shareErr] at h
  split at h
  · split at h
    · split at h
      · cases h
      · rename_i h3
        split at h
        · exact ⟨by assumption,by assumption,all_in (by simpa using h3),by assumption⟩
        · cases h
    · cases h
  · exact absurd h (by assumption)
theorem f88_1 (b:Dk) (l:List Int) (hb:Small b) (h:shareErr b l=0):FG 88 [boxV b,ints l] (.tup [.ref (deskV b (feesOf b)),I 0]):=by
  obtain ⟨h0,h1,h2,h3⟩:=shr_ok h
  have hg:=box_good h0
  have hcr:=hg.cr
  have hbl:=hg.len
  have h2':l.all (fun x=>decide (0≤x)&&decide (x≤b.cr-1))=true:=by
    simp only [List.all_eq_true];intro x hx;have:=h2 x hx;simp;omega
  refine gives_ofX Try.f88 ?_
  refine V_seq (V_region (S_go 3 (S_end (V_seq (V_region (S_go 1 (S_a [(6,.ret (PV.tup [(deskV b (feesOf b)).ref,I 0]) ([]))] (ap (f101_1 (b) (by omega) (by omega)) an) (S_go 5 (S_end (V_seq (V_block 0 (V_seq (V_region (S_go 3 (S_end (V_false (V_seq (V_region (S_go 1 (S_a [(0,.n (l.length))] (ap ((by simp):some (List.map I l).length=some l.length) an) (S_go 2 (S_a [(0,.n (b.rs.length))] (ap ((by simp):some (List.map rndV b.rs).length=some b.rs.length) an) (S_go 2 (S_end (V_ndecF ((↑l.length:Int)=(↑b.rs.length:Int)) (by omega) (V_seq (V_region (S_go 3 (S_a [(7,.ret (PV.bool (l.all fun x=>decide (0≤x)&&decide (x≤b.cr-1))) ([]))] (ap (f79_2 (b) (by omega) (l) (by omega)) an) (S_go 2 (S_end (V_if (!l.all fun x=>decide (0≤x)&&decide (x≤b.cr-1)) (fun k0=>(V_seq (V_region (S_go 2 (S_end (V_ret (E_a [] an (PV.tup [PV.nilp,I 1]) ([]) ?_ rfl))))))) (fun k0=>(V_skip (V_seq (V_seq (V_region (S_go 1 (S_a [(0,.n (l.length))] (ap ((by simp):some (List.map I l).length=some l.length) an) (S_go 1 (S_end (V_block 1 ?_))))))))))))))))))))))))))))))))))))))))))
  · rw [h2'] at k0;cases k0
  refine V_loopS (fun i=>i≤l.length) (fun i=>[(34,I (i:Nat))]) (fun i=>l.length-i) (0:Nat) (Nat.zero_le _) fun i hi=>?_
  have h4:i<l.length→has (rnd b i).may (l.getD i 0)=true:=fun h=>mayAll_get h3 h
  refine V_seq (V_region (S_go 1 (S_end (V_seq (V_dec ((↑i:Int)<(↑l.length:Int)) (fun k1=>(V_skip (V_seq (V_block 2 (V_seq (V_region (S_go 1 (S_a [(2,.v (I (l.getD i 0)))] (ap (getm (0) (by omega):(List.map I l)[i]? = some (I (l.getD i 0))) an) (S_go 3 (S_end (V_seq (V_region (S_go 3 (S_a [(9,.ret (PV.bool (has (rnd b i).may (l.getD i 0))) ([]))] (ap (f98 (b) (feesOf b) (l.getD i 0) (i) (by first | omega | (simp<;>omega)) (by omega)) an) (S_go 1 (S_end (V_if (!has (rnd b i).may (l.getD i 0)) (fun k2=>(V_seq (V_region (S_go 2 (S_end (V_ret (E_a [] an (PV.tup [PV.nilp,I 8]) ([]) ?_ rfl))))))) (fun k2=>(V_skip (V_region (S_a [(1,.v (I (↑(i+1):Int)))] (ap ((wrapE (by omega) (by omega)):I (IntKind.i64.wrap ((↑i:Int)+1))=I (↑(i+1):Int)) an) (S_go 1 (S_end ?_))))))))))))))))))))))) (fun k1=>(V_exit 1 (V_seq (V_region (S_go 3 (S_end (V_ret (E_a [] an (PV.tup [(PV.agg [I b.cr,I b.wd,I b.st,I b.fn,PV.sl (List.map rndV b.rs),PV.sl (List.map I (feesOf b))]).ref,I 0]) ([]) rfl rfl)))))))))))))
  · rw [h4 (by omega)] at k2;cases k2
  · exact ⟨i+1,by omega,by omega,by kernel_rfl,by kernel_rfl⟩
theorem f88_2 (b:Dk) (l:List Int) (hb:Small b) (hl:l.length<4294967296) (h:¬ shareErr b l=0):FG 88 [boxV b,ints l] (.tup [.nilp,I (shareErr b l)]):=by
  by_cases h0:boxErr b=0
  · have hg:=box_good h0
    have hcr:=hg.cr
    have hbl:=hg.len
    refine gives_ofX Try.f88 ?_
    refine V_seq (V_region (S_go 3 (S_end (V_seq (V_region (S_go 1 (S_a [(6,.ret (PV.tup [(deskV b (feesOf b)).ref,I 0]) ([]))] (ap (f101_1 (b) (by omega) (by omega)) an) (S_go 5 (S_end (V_seq (V_block 0 (V_seq (V_region (S_go 3 (S_end (V_false (V_seq (V_region (S_go 1 (S_a [(0,.n (l.length))] (ap ((by simp):some (List.map I l).length=some l.length) an) (S_go 2 (S_a [(0,.n (b.rs.length))] (ap ((by simp):some (List.map rndV b.rs).length=some b.rs.length) an) (S_go 2 (S_end (V_ndec ((↑l.length:Int)=(↑b.rs.length:Int)) (fun k0=>(V_seq (V_region (S_go 2 (S_end (V_ret (E_a [] an (PV.tup [PV.nilp,I 2]) ([]) ?_ rfl))))))) (fun k0=>(V_seq (V_region (S_go 3 (S_a [(7,.ret (PV.bool (l.all fun x=>decide (0≤x)&&decide (x≤b.cr-1))) ([]))] (ap (f79_2 (b) (by omega) (l) (by omega)) an) (S_go 2 (S_end (V_if (!l.all fun x=>decide (0≤x)&&decide (x≤b.cr-1)) (fun k1=>(V_seq (V_region (S_go 2 (S_end (V_ret (E_a [] an (PV.tup [PV.nilp,I 1]) ([]) ?_ rfl))))))) (fun k1=>(V_skip (V_seq (V_seq (V_region (S_go 1 (S_a [(0,.n (l.length))] (ap ((by simp):some (List.map I l).length=some l.length) an) (S_go 1 (S_end (V_block 1 ?_)))))))))))))))))))))))))))))))))))))))))))
    · have e:¬ l.length=b.rs.length:=by omega
      simp only [shareErr,h0,e,if_true,if_false]
    · have e:l.length=b.rs.length:=by omega
      simp only [shareErr,h0,e,k1,if_true]
    have e:l.length=b.rs.length:=by omega
    refine V_loopS (fun i=>i≤l.length∧∀ r,r<i→has (rnd b r).may (l.getD r 0)=true) (fun i=>[(34,I (i:Nat))]) (fun i=>l.length-i) (0:Nat) ⟨Nat.zero_le _,by simp⟩ fun i ⟨hi,ha⟩=>?_
    refine V_seq (V_region (S_go 1 (S_end (V_seq (V_dec ((↑i:Int)<(↑l.length:Int)) (fun k2=>(V_skip (V_seq (V_block 2 (V_seq (V_region (S_go 1 (S_a [(2,.v (I (l.getD i 0)))] (ap (getm (0) (by omega):(List.map I l)[i]? = some (I (l.getD i 0))) an) (S_go 3 (S_end (V_seq (V_region (S_go 3 (S_a [(9,.ret (PV.bool (has (rnd b i).may (l.getD i 0))) ([]))] (ap (f98 (b) (feesOf b) (l.getD i 0) (i) (by first | omega | (simp<;>omega)) (by omega)) an) (S_go 1 (S_end (V_if (!has (rnd b i).may (l.getD i 0)) (fun k3=>(V_seq (V_region (S_go 2 (S_end (V_ret (E_a [] an (PV.tup [PV.nilp,I 8]) ([]) ?_ rfl))))))) (fun k3=>(V_skip (V_region (S_a [(1,.v (I (↑(i+1):Int)))] (ap ((wrapE (by omega) (by omega)):I (IntKind.i64.wrap ((↑i:Int)+1))=I (↑(i+1):Int)) an) (S_go 1 (S_end ?_))))))))))))))))))))))) (fun k2=>(V_exit 1 (V_seq (V_region (S_go 3 (S_end (V_ret (E_a [] an (PV.tup [(PV.agg [I b.cr,I b.wd,I b.st,I b.fn,PV.sl (List.map rndV b.rs),PV.sl (List.map I (feesOf b))]).ref,I 0]) ([]) ?_ rfl)))))))))))))
    · simp only [shareErr,h0,e,k1,if_true,mayAll_f (b:=b) (l:=l) (r:=i) (by omega) k3];rfl
    · refine ⟨i+1,⟨by omega,fun r hr=>?_⟩,by omega,by kernel_rfl,by kernel_rfl⟩
      rcases Nat.lt_succ_iff_lt_or_eq.1 hr with hr | rfl
      · exact ha r hr
      · simpa using k3
    · have:shareErr b l=0:=by simp only [shareErr,h0,e,k1,if_true,mayAll_t (b:=b) (l:=l) fun r hr=>ha r (by omega)];rfl
      exact absurd this h
  · have e:shareErr b l=boxErr b:=by simp only [shareErr,h0,if_false]
    rw [e]
    refine gives_ofX Try.f88 ?_
    refine V_seq (V_region (S_go 3 (S_end (V_seq (V_region (S_go 1 (S_a [(6,.ret (PV.tup [PV.nilp,I (boxErr b)]) ([]))] (ap (f101_2 (b) (by omega) (by omega)) an) (S_go 5 (S_end (V_seq (V_block 0 (V_seq (V_region (S_go 3 (S_end (V_ndecT (boxErr b=0) (by omega) (V_seq (V_region (S_go 3 (S_end (V_ret (E_a [] an (PV.tup [PV.nilp,I (boxErr b)]) ([]) rfl rfl))))))))))))))))))))))
def addF (fee share:List Int):Nat→List Int
  | 0=>[0,0,0,0]
  | n+1=>(addF fee share n).set (share.getD n 0).toNat ((addF fee share n).getD (share.getD n 0).toNat 0+fee.getD n 0)
omit [Yo] in
theorem addF_len {fee share:List Int}:∀ n,(addF fee share n).length=4
  | 0=>rfl
  | n+1=>by simp [addF,addF_len n]
omit [Yo] in
theorem addF_bd {fee share:List Int} (h:∀ i,0≤fee.getD i 0∧fee.getD i 0≤1000):∀ (n i:Nat),0≤(addF fee share n).getD i 0∧(addF fee share n).getD i 0≤1000*n
  | 0,i=>by
    match i with
    | 0=>simp [addF]
    | 1=>simp [addF]
    | 2=>simp [addF]
    | 3=>simp [addF]
    | _+4=>simp [addF]
  | n+1,i=>by
    have h1:=addF_bd (share:=share) h n i
    have h2:=addF_bd (share:=share) h n (share.getD n 0).toNat
    have h3:=h n
    rw [addF,getD_set]
    split<;>omega
omit [Yo] in
theorem four_of {l:List Int} (h:l.length=4):∃ a b c d,l=[a,b,c,d]:=by
  match l,h with
  | [a,b,c,d],_=>exact ⟨a,b,c,d,rfl⟩
theorem f90 (b:Dk) (fee share:List Int) (h1:∀ x∈share,0≤x∧x<4) (h2:∀ i,0≤fee.getD i 0∧fee.getD i 0≤1000) (h3:share.length≤1000) (h4:share.length=fee.length):FG 90 [.ref (deskV b fee),ints share] (.agg ((addF fee share share.length).map I)):=by
  refine gives_ofX Try.f90 ?_
  refine V_seq (V_region (S_go 1 (S_end (V_seq (V_region (S_go 1 (S_end (V_seq (V_seq (V_region (S_go 1 (S_a [(0,.n (share.length))] (ap ((by simp):some (List.map I share).length=some share.length) an) (S_go 1 (S_end (V_block 0 ?_)))))))))))))))
  refine V_loopS (fun (i,f)=>i≤share.length∧f=addF fee share i) (fun (i,f)=>[(5,.box (.agg (f.map I))),(10,I (i:Nat))]) (fun (i,_)=>share.length-i) ((0:Nat),addF fee share 0) ⟨Nat.zero_le _,rfl⟩ fun (i,f) ⟨hi,hf⟩=>?_
  have hfl:f.length=4:=by rw [hf];exact addF_len i
  have hx:i<share.length→0≤share.getD i 0∧share.getD i 0<4:=fun h=>getD_all h1 i h
  have hb1:=addF_bd (share:=share) h2 i (share.getD i 0).toNat
  rw [← hf] at hb1
  have hb2:=h2 i
  refine V_seq (V_region (S_go 1 (S_end (V_seq (V_dec ((↑i:Int)<(↑share.length:Int)) (fun k0=>(V_skip (V_seq (V_block 1 (V_seq (V_region (S_go 1 (S_a [(2,.v (I (share.getD i 0)))] (ap (getm (0) (by omega):(List.map I share)[i]? = some (I (share.getD i 0))) an) (S_go 3 (S_end (V_region (S_go 1 (S_a [(0,.ob),(1,.ob)] (ap ((by exact dec_of (by omega)):decide (0≤share.getD i 0)=true) (ap ((by exact dec_of (by omega)):decide ((share.getD i 0).toNat<4)=true) an)) (S_a [(0,.cs true ([I (f.getD (share.getD i 0).toNat 0)]))] (ap (rc_at (q:=(PV.agg (List.map I f)).box) (xs:=[PV.agg (List.map I f)]) (x:=PV.agg (List.map I f)) rfl rfl (re_arr (c:=(share.getD i 0).toNat) (0) (by first | rfl | exact off_c1 (by kernel_rfl) | exact off_c2 (by kernel_rfl) | (simp;done)) (by omega)):readCells 5 (PV.agg (List.map I f)).box [] 0 (0+(share.getD i 0).toNat*(fun x=>x.size) Try.prog.types[3]) 1=some (true,[I (f.getD (share.getD i 0).toNat 0)])) an) (S_go 5 (S_a [(2,.v (I (fee.getD i 0)))] (ap (getm (0) (by omega):(List.map I fee)[i]? = some (I (fee.getD i 0))) an) (S_go 1 (S_a [(1,.v (I (f.getD (share.getD i 0).toNat 0+fee.getD i 0)))] (ap ((wrapE rfl (by omega)):I (IntKind.i64.wrap (f.getD (share.getD i 0).toNat 0+fee.getD i 0))=I (f.getD (share.getD i 0).toNat 0+fee.getD i 0)) an) (S_a [(0,.ob),(1,.ob)] (ap ((by exact dec_of (by omega)):decide (0≤share.getD i 0)=true) (ap ((by exact dec_of (by omega)):decide ((share.getD i 0).toNat<4)=true) an)) (S_a [(8,.root ((PV.agg (List.map I (f.set (share.getD i 0).toNat (f.getD (share.getD i 0).toNat 0+fee.getD i 0)))).box) true)] (ap (wa_box (c:=(share.getD i 0).toNat) (by first | rfl | exact off_c1 (by kernel_rfl) | exact off_c2 (by kernel_rfl) | (simp;done)) (by omega):writeAt (PV.agg (List.map I f)).box [] 0 (0+(share.getD i 0).toNat*(fun x=>x.size) Try.prog.types[3]) (I (f.getD (share.getD i 0).toNat 0+fee.getD i 0)).cells=some (PV.agg (List.map I (f.set (share.getD i 0).toNat (f.getD (share.getD i 0).toNat 0+fee.getD i 0)))).box∧keptView (PV.agg (List.map I f)).box (PV.agg (List.map I (f.set (share.getD i 0).toNat (f.getD (share.getD i 0).toNat 0+fee.getD i 0)))).box []=true) an) (S_end (V_region (S_a [(1,.v (I (↑(i+1):Int)))] (ap ((wrapE (by omega) (by omega)):I (IntKind.i64.wrap ((↑i:Int)+1))=I (↑(i+1):Int)) an) (S_go 1 (S_end ?_))))))))))))))))))))))))) (fun k0=>(V_exit 0 (V_seq (V_region ?_)))))))))
  · exact ⟨(i+1,f.set (share.getD i 0).toNat (f.getD (share.getD i 0).toNat 0+fee.getD i 0)),⟨by omega,by rw [hf];rfl⟩,by simp only;omega,by kernel_rfl,by kernel_rfl⟩
  · have:i=share.length:=by omega
    rw [this] at hf
    rw [← hf]
    obtain ⟨x0,x1,x2,x3,rfl⟩:=four_of hfl
    refine S_go 2 (S_end (V_ret (E_a [] an (PV.agg [I x0,I x1,I x2,I x3]) ([]) rfl rfl)))
end
end Go.Eng
namespace Go.Eng
open Go
def ltL:List Int→List Int→Bool
  | [],[]=>false
  | [],_::_=>true
  | _::_,[]=>false
  | x::xs,y::ys=>decide (x<y)||decide (x=y)&&ltL xs ys
theorem ltL_trans:∀ {a b c:List Int},ltL a b=true→ltL b c=true→ltL a c=true
  | [],[],_,h,_=>by cases h
  | [],_::_,[],_,h=>by cases h
  | [],_::_,_::_,_,_=>rfl
  | _::_,[],_,h,_=>by cases h
  | _::_,_::_,[],_,h=>by cases h
  | x :: a,y::b,z::c,h1,h2=>by
    simp only [ltL,Bool.or_eq_true,Bool.and_eq_true,decide_eq_true_eq] at h1 h2 ⊢
    rcases h1 with h1 | ⟨h1,h3⟩
    · rcases h2 with h2 | ⟨h2,h4⟩
      · exact .inl (by omega)
      · exact .inl (by omega)
    · rcases h2 with h2 | ⟨h2,h4⟩
      · exact .inl (by omega)
      · exact .inr ⟨by omega,ltL_trans h3 h4⟩
theorem ltL_total:∀ {a b:List Int},ltL a b=false→a=b∨ltL b a=true
  | [],[],_ => .inl rfl
  | [],_::_,h=>by cases h
  | _::_,[],_ => .inr rfl
  | x :: a,y::b,h=>by
    simp only [ltL,Bool.or_eq_false_iff,Bool.and_eq_false_iff,decide_eq_false_iff_not] at h
    obtain ⟨h1,h2⟩:=h
    by_cases e:x=y
    · subst e
      rcases ltL_total (h2.resolve_left fun h=>h rfl) with rfl | h3
      · exact .inl rfl
      · exact .inr (by simp [ltL,h3])
    · refine .inr ?_
      simp only [ltL,Bool.or_eq_true,decide_eq_true_eq]
      exact .inl (by omega)
def worse (w:List Int→Int) (m l:List Int):Prop:=w l<w m∨w l=w m∧(m.length<l.length∨m.length=l.length∧ltL m l=true)
theorem worse_trans {w:List Int→Int} {a b c:List Int} (h1:worse w a b) (h2:worse w b c):worse w a c:=by
  unfold worse at *
  rcases h1 with h1 | ⟨h1,h3⟩
  · rcases h2 with h2 | ⟨h2,_⟩
    · exact .inl (by omega)
    · exact .inl (by omega)
  · rcases h2 with h2 | ⟨h2,h4⟩
    · exact .inl (by omega)
    · refine .inr ⟨by omega,?_⟩
      rcases h3 with h3 | ⟨h3,h5⟩
      · rcases h4 with h4 | ⟨h4,_⟩
        · exact .inl (by omega)
        · exact .inl (by omega)
      · rcases h4 with h4 | ⟨h4,h6⟩
        · exact .inl (by omega)
        · exact .inr ⟨by omega,ltL_trans h5 h6⟩
structure BestOf (w:List Int→Int) (L:List (List Int)) (m:List Int×Int):Prop where
  mem:m.1∈L
  val:m.2=w m.1
  all:∀ l∈L,l=m.1∨worse w m.1 l
def bstG (w:List Int→Int) (m:List Int×Int) (l:List Int):List Int×Int :=
  if decide (w l>m.2)||decide (w l=m.2)&&(decide (l.length<m.1.length)||decide (l.length=m.1.length)&&ltL l m.1) then (l,w l) else m
def bstR (w:List Int→Int) (m:List Int×Int) (l:List Int):List Int×Int :=
  if decide (w l>m.2)||decide (w l=m.2)&&decide (l.length<m.1.length) then (l,w l) else m
theorem stepG_best {w:List Int→Int} {L:List (List Int)} {m:List Int×Int} (h:BestOf w L m) (l:List Int):BestOf w (L++[l]) (bstG w m l):=by
  have hv:=h.val
  unfold bstG
  split
  · rename_i hc
    simp only [Bool.or_eq_true,Bool.and_eq_true,decide_eq_true_eq] at hc
    have hw:worse w l m.1:=by
      unfold worse
      rcases hc with hc | ⟨hc,hc2 | ⟨hc2,hc3⟩⟩
      · exact .inl (by omega)
      · exact .inr ⟨by omega,.inl hc2⟩
      · exact .inr ⟨by omega,.inr ⟨hc2,hc3⟩⟩
    refine ⟨by simp,rfl,fun q hq=>?_⟩
    rcases List.mem_append.1 hq with hq | hq
    · rcases h.all q hq with rfl | h2
      · exact .inr hw
      · exact .inr (worse_trans hw h2)
    · rw [List.mem_singleton] at hq;exact .inl hq
  · rename_i hc
    refine ⟨List.mem_append_left _ h.mem,hv,fun q hq=>?_⟩
    rcases List.mem_append.1 hq with hq | hq
    · exact h.all q hq
    · rw [List.mem_singleton] at hq;subst hq
      simp only [Bool.or_eq_true,Bool.and_eq_true,decide_eq_true_eq,not_or,not_and] at hc
      obtain ⟨h1,h2⟩:=hc
      by_cases e:w q=m.2
      · obtain ⟨h3,h4⟩:=h2 e
        by_cases e2:q.length=m.1.length
        · have h5:ltL q m.1=false:=by simpa using h4 e2
          rcases ltL_total h5 with e3 | h6
          · exact .inl e3
          · exact .inr (.inr ⟨by omega,.inr ⟨e2.symm,h6⟩⟩)
        · exact .inr (.inr ⟨by omega,.inl (by omega)⟩)
      · exact .inr (.inl (by omega))
def goG (w:List Int→Int) (L:List (List Int)):List Int×Int:=L.foldl (bstG w) ([],0)
def goR (w:List Int→Int) (L:List (List Int)):List Int×Int:=L.foldl (bstR w) ([],0)
theorem goG_best {w:List Int→Int} (h0:w []=0) {T:List (List Int)}:BestOf w ([]::T) (goG w ([]::T)):=by
  have key:∀ (T L:List (List Int)) m,BestOf w L m→BestOf w (L++T) (T.foldl (bstG w) m):=by
    intro T
    induction T with
    | nil=>intro L m h;simpa using h
    | cons l T ih =>
      intro L m h
      have:=ih _ _ (stepG_best h l)
      rwa [List.append_assoc] at this
  have e:bstG w ([],0) []=([],0):=by simp [bstG,h0,ltL]
  unfold goG
  rw [List.foldl_cons,e]
  exact key T [[]] _ ⟨by simp,by simp [h0],fun l hl => .inl (by simpa using hl)⟩
def bitsL (n s:Nat):List Int:=((List.range n).filter fun r=>Nat.beq ((s >>> r) % 2) 1).map Int.ofNat
def bitsAll (n:Nat):List (List Int):=(List.range (2 ^ n)).map (bitsL n)
def subsF:Nat→Nat→List (List Int)
  | 0,_=>[[]]
  | k+1,f=>[]::((subsF k (f+1)).map ((f:Int)::·)++(subsF k (f+1)).tail)
def subsP (k f j:Nat):List (List Int):=[]::(List.range j).flatMap fun i=>(subsF (k-i-1) (f+i+1)).map (((f+i:Nat):Int)::·)
def sortedB:List (List Int)→Bool
  | []=>true
  | l::L=>L.all (ltL l)&&sortedB L
def sameB (n:Nat):Bool:=(bitsAll n).all (fun l=>(subsF n 0).any fun q=>decide (l=q))&&(subsF n 0).all fun l=>(bitsAll n).any fun q=>decide (l=q)
theorem bits_head {n:Nat}:∃ T,bitsAll n=[]::T:=by
  refine ⟨((List.range (2 ^ n-1)).map Nat.succ).map (bitsL n),?_⟩
  have e:2 ^ n=2 ^ n-1+1:=by have:=Nat.one_le_two_pow (n:=n);omega
  unfold bitsAll
  rw [e,List.range_succ_eq_map,List.map_cons,← e]
  congr 1
  simp [bitsL]
theorem go_best {w:List Int→Int} (h0:w []=0) (n:Nat):BestOf w (bitsAll n) (goG w (bitsAll n)):=by
  obtain ⟨T,hT⟩:=bits_head (n:=n)
  rw [hT];exact goG_best h0
def costs (b:Dk) (l:List Int):Int:=(l.map fun r=>(feesOf b).getD r.toNat 0).sum
def manB (b:Dk) (l:List Int) (c:Nat):Bool:=l.any fun r=>has (rnd b r.toNat).may (c:Int)
def menN (b:Dk) (l:List Int):Nat:=((List.range 4).filter (manB b l)).length
def bndS (b:Dk) (l:List Int):Int:=if menN b l=0 then 0 else (costs b l+(menN b l:Nat)-1).tdiv (menN b l:Nat)
theorem bnd_nil (b:Dk):bndS b []=0:=by
  have:menN b []=0:=rfl
  simp [bndS,this]
theorem menN_le (b:Dk) (l:List Int):menN b l≤4:=by
  have:=List.length_filter_le (manB b l) (List.range 4)
  simpa [menN] using this
end Go.Eng
set_option maxRecDepth 10000
set_option maxHeartbeats 2000000
namespace Go.Eng
open Go Go.Proofs
def maxL (l:List Int):Int:=l.tail.foldl (fun m x=>if x>m then x else m) (l.getD 0 0)
def minL (l:List Int):Int:=l.tail.foldl (fun m x=>if x<m then x else m) (l.getD 0 0)
theorem maxL_next {l:List Int} {i:Nat} (h1:1≤i) (h:i<l.length):maxL (l.take (i+1))=if l.getD i 0>maxL (l.take i) then l.getD i 0 else maxL (l.take i):=by
  match l,h with
  | x::l,h =>
    obtain ⟨j,rfl⟩:∃ j,i=j+1:=⟨i-1,by omega⟩
    have hj:j<l.length:=by simpa using h
    simp only [maxL,List.take_succ_cons,List.tail_cons,List.getD_cons_zero,List.getD_cons_succ]
    exact foldl_take' hj
theorem maxL_one {l:List Int} (h:0<l.length):l.getD 0 0=maxL (l.take 1):=by
  match l,h with
  | x::l,_=>simp [maxL]
section
variable [Yo]
theorem f53 (l:List Int) (h0:0<l.length) (hl:l.length<4294967296):FG 53 [ints l] (I (maxL l)):=by
  refine gives_ofX Try.f53 ?_
  refine V_seq (V_region (S_go 1 (S_end (V_seq (V_seq (V_region (S_go 1 (S_a [(0,.n (l.length))] (ap ((by simp):some (List.map I l).length=some l.length) an) (S_go 1 (S_end (V_decF ((↑l.length:Int)<1) (by omega) (V_skip (V_seq (V_region (S_go 1 (S_a [(2,.v (I (l.getD 0 0)))] (ap (getm (0) (by omega):(List.map I l)[0]? = some (I (l.getD 0 0))) an) (S_go 2 (S_end (V_seq (V_seq (V_region (S_go 1 (S_end (V_block 0 ?_))))))))))))))))))))))))
  refine V_loopS (fun (i,m)=>1≤i∧i≤l.length∧m=maxL (l.take i)) (fun (i,m)=>[(3,I m),(4,I (i:Nat))]) (fun (i,_)=>l.length-i) ((1:Nat),l.getD 0 0) ⟨Nat.le_refl _,h0,maxL_one h0⟩ fun (i,m) ⟨hi1,hi,hm⟩=>?_
  refine V_seq (V_seq (V_region (S_go 2 (S_a [(0,.n (l.length))] (ap ((by simp):some (List.map I l).length=some l.length) an) (S_go 1 (S_end (V_dec ((↑i:Int)<(↑l.length:Int)) (fun k0=>(V_skip (V_seq (V_block 1 (V_region (S_go 3 (S_a [(2,.v (I (l.getD i 0)))] (ap (getm (0) (by omega):(List.map I l)[i]? = some (I (l.getD i 0))) an) (S_go 3 (S_end (V_region (S_go 1 (S_a [(1,.v (I (↑(i+1):Int)))] (ap ((wrapE (by omega) (by omega)):I (IntKind.i64.wrap ((↑i:Int)+1))=I (↑(i+1):Int)) an) (S_go 1 (S_end ?_)))))))))))))) (fun k0=>(V_exit 0 (V_seq (V_region (S_go 2 (S_end (V_ret (E_a [] an (I m) ([]) ?_ rfl)))))))))))))))
  · exact ⟨(i+1,if l.getD i 0>m then l.getD i 0 else m),⟨by omega,by omega,by rw [maxL_next hi1 (by omega),← hm]⟩,by simp only;omega,by kernel_rfl,by kernel_rfl⟩
  · rw [hm,List.take_of_length_le (by omega)]
theorem f103 (b:Dk) (fee f:List Int) (hf:f.length=4) (hc:1≤b.cr∧b.cr≤4):FG 103 [.ref (deskV b fee),.agg (f.map I)] (I (maxL (f.take b.cr.toNat))):=by
  obtain ⟨x0,x1,x2,x3,rfl⟩:=four_of hf
  obtain ⟨cr,wd,st,fn,rs⟩:=b
  obtain rfl | rfl | rfl | rfl:cr=1∨cr=2∨cr=3∨cr=4:=by simp only at hc;omega
  · have h:=f53 [x0] (by simp) (by simp)
    refine gives_ofX Try.f103 ?_
    refine V_seq (V_region (S_go 2 (S_end (V_seq (V_region (S_go 6 (S_a [(9,.ret (I (maxL [x0])) ([]))] (ap (h) an) (S_go 1 (S_end (V_ret (E_a [] an (I (maxL [x0])) ([]) rfl rfl)))))))))))
  · have h:=f53 [x0,x1] (by simp) (by simp)
    refine gives_ofX Try.f103 ?_
    refine V_seq (V_region (S_go 2 (S_end (V_seq (V_region (S_go 6 (S_a [(9,.ret (I (maxL [x0,x1])) ([]))] (ap (h) an) (S_go 1 (S_end (V_ret (E_a [] an (I (maxL [x0,x1])) ([]) rfl rfl)))))))))))
  · have h:=f53 [x0,x1,x2] (by simp) (by simp)
    refine gives_ofX Try.f103 ?_
    refine V_seq (V_region (S_go 2 (S_end (V_seq (V_region (S_go 6 (S_a [(9,.ret (I (maxL [x0,x1,x2])) ([]))] (ap (h) an) (S_go 1 (S_end (V_ret (E_a [] an (I (maxL [x0,x1,x2])) ([]) rfl rfl)))))))))))
  · have h:=f53 [x0,x1,x2,x3] (by simp) (by simp)
    refine gives_ofX Try.f103 ?_
    refine V_seq (V_region (S_go 2 (S_end (V_seq (V_region (S_go 6 (S_a [(9,.ret (I (maxL [x0,x1,x2,x3])) ([]))] (ap (h) an) (S_go 1 (S_end (V_ret (E_a [] an (I (maxL [x0,x1,x2,x3])) ([]) rfl rfl)))))))))))
def feesL (b:Dk) (l:List Int):List Int:=if shareErr b l=0 then (addF (feesOf b) l l.length).take b.cr.toNat else []
def spreadV (b:Dk) (l:List Int):Int:=if shareErr b l=0 then maxL (feesL b l)-minL (feesL b l) else 0
omit [Yo] in
theorem addF_in {fee share:List Int} (h:∀ i,0≤fee.getD i 0∧fee.getD i 0≤1000) {n:Nat} (hn:n≤7):∀ x∈addF fee share n,0≤x∧x≤1000000:=by
  intro x hx
  obtain ⟨k,hk,rfl⟩:=List.getElem_of_mem hx
  have:=addF_bd (share:=share) h n k
  rw [getD_lt hk] at this;omega
theorem f89 (n:Int):FG 89 [I n] (.bool (decide (0≤n)&&decide (n≤60))):=by
  refine gives_ofX Try.f89 ?_
  refine V_seq (V_region (S_go 1 (S_end (V_seq (V_region (S_go 1 (S_a [(10,.ret (PV.bool (decide (0≤n)&&decide (n≤60))) ([]))] (ap (f78 (n) (0) (60)) an) (S_go 1 (S_end (V_ret (E_a [] an (PV.bool (decide (0≤n)&&decide (n≤60))) ([]) rfl rfl)))))))))))
theorem f126_4  (x:Int):FG 126 [I x,.ref (.func 89 [] [])] (.bool (!(decide (0≤x)&&decide (x≤60)))):=by
  refine gives_ofX Try.f126 ?_
  refine V_seq (V_region (S_go 1 (S_end (V_seq (V_region (S_go 2 (S_a [(6,.ret (PV.bool (decide (0≤x)&&decide (x≤60))) ([]))] (ap (f89 (x)) an) (S_go 2 (S_end (V_ret (E_a [] an (PV.bool !(decide (0≤x)&&decide (x≤60))) ([]) rfl rfl)))))))))))
theorem f118_4n  (l:List Int) (hl:l.length<4294967296):FG 118 [ints l,.func 126 [] [.ref (.func 89 [] [])]] (I (idxF (fun x => !(decide (0≤x)&&decide (x≤60))) l)):=by
  refine gives_ofX Try.f118 ?_
  refine V_seq (V_region (S_go 1 (S_end (V_seq (V_seq (V_region (S_go 1 (S_a [(0,.n (l.length))] (ap ((by simp):some (List.map I l).length=some l.length) an) (S_go 1 (S_end (V_block 0 ?_)))))))))))
  refine V_loopS (fun i=>i≤l.length∧∀ j,j<i→(fun x => !(decide (0≤x)&&decide (x≤60))) (l.getD j 0)=false) (fun i=>[(8,I (i:Nat))]) (fun i=>l.length-i) (0:Nat) (by simp) fun i ⟨hi,ha⟩=>?_
  refine V_seq (V_region (S_go 1 (S_end (V_seq (V_dec ((↑i:Int)<(↑l.length:Int)) (fun k0=>(V_skip (V_seq (V_block 1 (V_seq (V_region (S_go 2 (S_end (V_seq (V_region (S_go 3 (S_a [(2,.v (I (l.getD i 0)))] (ap (getm (0) (by omega):(List.map I l)[i]? = some (I (l.getD i 0))) an) (S_go 1 (S_a [(7,.ret (PV.bool !(decide (0≤l.getD i 0)&&decide (l.getD i 0≤60))) ([]))] (ap (f126_4 (l.getD i 0)) an) (S_end (V_if (!(decide (0≤l.getD i 0)&&decide (l.getD i 0≤60))) (fun k1=>(V_seq (V_region (S_go 2 (S_end (V_ret (E_a [] an (I (↑i:Int)) ([]) ?_ rfl))))))) (fun k1=>(V_skip (V_region (S_a [(1,.v (I (↑(i+1):Int)))] (ap ((wrapE (by omega) (by omega)):I (IntKind.i64.wrap ((↑i:Int)+1))=I (↑(i+1):Int)) an) (S_go 1 (S_end ?_)))))))))))))))))))))) (fun k0=>(V_exit 0 (V_seq (V_region (S_go 1 (S_end (V_ret (E_a [] an (I (-1)) ([]) ?_ rfl)))))))))))))
  · rw [idxF_found (i:=i) (by omega) (fun j hj=>by rw [← getD_lt (d:=0)];exact ha j hj) (by rw [← getD_lt (d:=0)];assumption)]
  · refine ⟨i+1,⟨by omega,fun j hj=>?_⟩,by omega,by kernel_rfl,by kernel_rfl⟩
    rcases Nat.lt_succ_iff_lt_or_eq.1 hj with h | rfl
    · exact ha j h
    · assumption
  · rw [idxF_none fun j hj=>by rw [← getD_lt (d:=0)];exact ha j (by omega)]
theorem f65_4n  (l:List Int) (hl:l.length<4294967296):FG 65 [ints l,.func 126 [] [.ref (.func 89 [] [])]] (.bool (l.any (fun x => !(decide (0≤x)&&decide (x≤60))))):=by
  refine gives_ofX Try.f65 ?_
  refine V_seq (V_region (S_go 1 (S_end (V_seq (V_region (S_go 2 (S_a [(6,.ret (I (idxF (fun x => !(decide (0≤x)&&decide (x≤60))) l)) ([]))] (ap (f118_4n (l) (by omega)) an) (S_go 2 (S_end (V_ret (E_a [] an (PV.bool (decide (idxF (fun x => !(decide (0≤x)&&decide (x≤60))) l≥0))) ([]) ?_ rfl)))))))))))
  rw [idxF_ge]
theorem f79_4  (l:List Int) (hl:l.length<4294967296):FG 79 [ints l,.func 89 [] []] (.bool (l.all (fun x=>decide (0≤x)&&decide (x≤60)))):=by
  refine gives_ofX Try.f79 ?_
  refine V_seq (V_region (S_go 2 (S_end (V_seq (V_region (S_go 2 (S_a [(12,.ret (PV.bool (l.any fun x => !(decide (0≤x)&&decide (x≤60)))) ([]))] (ap (f65_4n (l) (by omega)) an) (S_go 2 (S_end (V_ret (E_a [] an (PV.bool !l.any fun x => !(decide (0≤x)&&decide (x≤60))) ([]) ?_ rfl)))))))))))
  simp [List.not_any_eq_all_not]
end
end Go.Eng
namespace Go.Eng
open Go Go.Proofs
section
variable [Yo]
theorem f81a (l:List Int) (hl:l.length<1000) (hb:∀ x∈l,-1000000000000≤x∧x≤1000000000000):FG 81 [ints l] (I l.sum):=by
  refine gives_ofX Try.f81 ?_
  refine V_seq (V_region (S_go 1 (S_end (V_seq (V_region (S_go 1 (S_end (V_seq (V_seq (V_region (S_go 1 (S_a [(0,.n (l.length))] (ap ((by simp):some (List.map I l).length=some l.length) an) (S_go 1 (S_end (V_block 0 ?_)))))))))))))))
  refine V_loopS (fun (i,a)=>i≤l.length∧a=(l.take i).sum) (fun (i,a)=>[(3,I a),(8,I (i:Nat))]) (fun (i,_)=>l.length-i) ((0:Nat),(0:Int)) (by simp) fun (i,a) ⟨hi,ha⟩=>?_
  have h1:=sum_bd (l:=l.take i) (B:=1000000000000) fun x hx=>hb x (List.mem_of_mem_take hx)
  have h2:(l.take i).length=i:=by simp;omega
  rw [h2] at h1
  have h3:i<l.length→-1000000000000≤l.getD i 0∧l.getD i 0≤1000000000000:=fun h=>by rw [getD_lt h];exact hb _ (List.getElem_mem _)
  refine V_seq (V_region (S_go 1 (S_end (V_seq (V_dec ((↑i:Int)<(↑l.length:Int)) (fun k0=>(V_skip (V_seq (V_block 1 (V_seq (V_region (S_a [(2,.v (I (l.getD i 0)))] (ap (getm (0) (by omega):(List.map I l)[i]? = some (I (l.getD i 0))) an) (S_go 2 (S_end (V_region (S_go 2 (S_a [(1,.v (I (a+l.getD i 0)))] (ap ((wrapE rfl (by omega)):I (IntKind.i64.wrap (a+l.getD i 0))=I (a+l.getD i 0)) an) (S_go 1 (S_end (V_region (S_a [(1,.v (I (↑(i+1):Int)))] (ap ((wrapE (by omega) (by omega)):I (IntKind.i64.wrap ((↑i:Int)+1))=I (↑(i+1):Int)) an) (S_go 1 (S_end ?_)))))))))))))))))) (fun k0=>(V_exit 0 (V_seq (V_region (S_go 2 (S_end (V_ret (E_a [] an (I a) ([]) ?_ rfl)))))))))))))
  · exact ⟨(i+1,a+l.getD i 0),⟨by omega,by rw [ha,sum_take (by omega)]⟩,by simp only;omega,by kernel_rfl,by kernel_rfl⟩
  · rw [ha,List.take_of_length_le (by omega)]
end
end Go.Eng
set_option maxRecDepth 10000
set_option maxHeartbeats 4000000
namespace Go.Eng
open Go Go.Proofs
def minI (a b:Int):Int:=if b<a then b else a
theorem minI_bd {a b hi:Int} (ha:0≤a∧a≤hi) (hb:0≤b):0≤minI a b∧minI a b≤a∧minI a b≤hi:=by unfold minI;split<;>omega
def fineC (b:Dk) (f late:List Int) (c:Nat):Int:=minI (f.getD c 0) (b.fn*late.getD c 0)
def gotL (b:Dk) (f late:List Int) (n:Nat):List Int:=(List.range n).map fun c=>f.getD c 0-fineC b f late c
def lessL (b:Dk) (f late:List Int) (n:Nat):List Int:=(List.range n).map (fineC b f late)
theorem gotL_succ {b:Dk} {f late:List Int} {n:Nat}:gotL b f late (n+1)=gotL b f late n++[f.getD n 0-fineC b f late n]:=by simp [gotL,List.range_succ]
theorem lessL_succ {b:Dk} {f late:List Int} {n:Nat}:lessL b f late (n+1)=lessL b f late n++[fineC b f late n]:=by simp [lessL,List.range_succ]
def fineErr (b:Dk) (l late:List Int):Int:=if shareErr b l=0 then if (late.length:Int)=b.cr then if !late.all (fun x=>decide (0≤x)&&decide (x≤60)) then 3 else 0 else 2 else shareErr b l
def fineGot (b:Dk) (l late:List Int):List Int:=if fineErr b l late=0 then gotL b (addF (feesOf b) l l.length) late b.cr.toNat else []
def fineLess (b:Dk) (l late:List Int):Int:=if fineErr b l late=0 then (lessL b (addF (feesOf b) l l.length) late b.cr.toNat).sum else 0
section
variable [Yo]
theorem f26 (b:Dk) (l late:List Int) (hb:Small b) (hl:l.length<4294967296) (hll:late.length<4294967296):FG 26 [boxV b,ints l,ints late] (.tup [.own 1 ((fineGot b l late).map I),I (fineLess b l late),I (fineErr b l late)]):=by
  by_cases h:shareErr b l=0
  · obtain ⟨h0,h1,h2,h3⟩:=shr_ok h
    have hg:=box_good h0
    have hcr:=hg.cr
    have hfn:=hg.fn
    have hbl:=hg.len
    have hfl:l.length=(feesOf b).length:=by rw [feesOf_len];exact h1
    have ha:=addF_len (fee:=feesOf b) (share:=l) l.length
    have hin:=addF_in (fee:=feesOf b) (share:=l) (feesOf_bd hg) (n:=l.length) (by omega)
    have h2':∀ x∈l,0≤x∧x<4:=fun x hx=>by have:=h2 x hx;omega
    obtain ⟨y0,y1,y2,y3,hy⟩:=four_of ha
    have h90:FG 90 [.ref (deskV b (feesOf b)),ints l] (.agg [I y0,I y1,I y2,I y3]):=by
      have:=f90 b (feesOf b) l h2' (feesOf_bd hg) (by omega) hfl
      rw [hy] at this;exact this
    rw [hy] at hin
    refine gives_ofX Try.f26 ?_
    refine V_seq (V_region (S_go 4 (S_end (V_seq (V_region (S_go 2 (S_a [(8,.ret (PV.tup [(deskV b (feesOf b)).ref,I 0]) ([]))] (ap (f88_1 (b) (l) (by omega) (by omega)) an) (S_go 5 (S_end (V_seq (V_block 0 (V_seq (V_region (S_go 3 (S_end (V_false (V_seq (V_region (S_go 1 (S_a [(0,.n (late.length))] (ap ((by simp):some (List.map I late).length=some late.length) an) (S_go 4 (S_end (V_ndec ((↑late.length:Int)=b.cr) (fun k0=>(V_seq (V_region (S_go 3 (S_end (V_ret (E_a [] an (PV.tup [PV.own 1 [],I 0,I 2]) ([]) ?_ rfl))))))) (fun k0=>(V_seq (V_region (S_go 1 (S_a [(7,.ret (PV.bool (late.all fun x=>decide (0≤x)&&decide (x≤60))) ([]))] (ap (f79_4 (late) (by omega)) an) (S_go 2 (S_end (V_if (!late.all fun x=>decide (0≤x)&&decide (x≤60)) (fun k1=>(V_seq (V_region (S_go 3 (S_end (V_ret (E_a [] an (PV.tup [PV.own 1 [],I 0,I 3]) ([]) ?_ rfl))))))) (fun k1=>(V_skip (V_seq (V_region (S_go 2 (S_end (V_seq (V_seq (V_region (S_go 2 (S_a [(7,.ret (PV.agg [I y0,I y1,I y2,I y3]) ([]))] (ap (h90) an) (S_go 1 (S_end (V_block 1 ?_)))))))))))))))))))))))))))))))))))))))))))))
    · have e:¬ (late.length:Int)=b.cr:=by omega
      have e2:fineErr b l late=2:=by simp only [fineErr,h,e,if_true,if_false]
      simp only [fineGot,fineLess,e2];rfl
    · have e:(late.length:Int)=b.cr:=by omega
      have e2:fineErr b l late=3:=by simp only [fineErr,h,e,k1,if_true]
      simp only [fineGot,fineLess,e2];rfl
    have e:(late.length:Int)=b.cr:=by omega
    have e2:fineErr b l late=0:=by simp only [fineErr,h,e,k1,if_true];rfl
    have hlate:=all_in k1
    have hd:∀ c,0≤late.getD c 0∧late.getD c 0≤60:=by
      intro c
      rcases Nat.lt_or_ge c late.length with h | h
      · exact getD_all hlate c h
      · rw [List.getD_eq_getElem?_getD,List.getElem?_eq_none h];simp
    have hm:∀ c,0≤b.fn*late.getD c 0∧b.fn*late.getD c 0≤20*60:=fun c=>⟨Int.mul_nonneg hfn.1 (hd c).1,Int.mul_le_mul (by omega) (hd c).2 (hd c).1 (by omega)⟩
    have hyb:∀ c,0≤[y0,y1,y2,y3].getD c 0∧[y0,y1,y2,y3].getD c 0≤1000000:=by
      intro c
      rcases Nat.lt_or_ge c 4 with h | h
      · exact getD_all hin c h
      · rw [List.getD_eq_getElem?_getD,List.getElem?_eq_none h];simp
    have hfb:∀ c,0≤fineC b [y0,y1,y2,y3] late c∧fineC b [y0,y1,y2,y3] late c≤[y0,y1,y2,y3].getD c 0∧fineC b [y0,y1,y2,y3] late c≤1000000:=fun c=>minI_bd (hyb c) (hm c).1
    refine V_loopS (fun (i,o,s)=>i≤4∧o=gotL b [y0,y1,y2,y3] late (min i b.cr.toNat)∧s=lessL b [y0,y1,y2,y3] late (min i b.cr.toNat)) (fun (i,o,s)=>[(11,.own 1 (o.map I)),(12,.own 1 (s.map I)),(39,I (i:Nat))]) (fun (i,_,_)=>4-i) ((0:Nat),([]:List Int),([]:List Int)) ⟨by omega,by simp [gotL],by simp [lessL]⟩ fun (i,o,s) ⟨hi,ho,hs⟩=>?_
    have hsb:∀ x∈s,-1000000000000≤x∧x≤1000000000000:=by
      rw [hs];intro x hx
      obtain ⟨c,_,rfl⟩:=List.mem_map.1 hx
      have:=hfb c;omega
    have hsl:s.length≤4:=by rw [hs];simp [lessL];omega
    have hol:o.length≤4:=by rw [ho];simp [gotL];omega
    obtain rfl | rfl | rfl | rfl | rfl:i=0∨i=1∨i=2∨i=3∨i=4:=by omega
    · have hk:0≤(if b.fn*late.getD 0 0<y0 then b.fn*late.getD 0 0 else y0)∧(if b.fn*late.getD 0 0<y0 then b.fn*late.getD 0 0 else y0)≤y0∧(if b.fn*late.getD 0 0<y0 then b.fn*late.getD 0 0 else y0)≤1000000:=hfb 0
      have hyk:0≤y0∧y0≤1000000:=hyb 0
      have hmk:=hm 0
      refine V_seq (V_region (S_go 1 (S_end (V_seq (V_true (V_skip (V_seq (V_block 2 (V_seq (V_region (S_go 4 (S_end (V_seq (V_region (S_go 4 (S_end (V_decT ((↑0:Int)<b.cr) (by omega) (V_seq (V_region (S_go 5 (S_a [(2,.v (I (late.getD 0 0)))] (ap (getm (0) (by omega):(List.map I late)[0]? = some (I (late.getD 0 0))) an) (S_go 1 (S_a [(1,.v (I (b.fn*late.getD 0 0)))] (ap ((wrapE rfl (by omega)):I (IntKind.i64.wrap (b.fn*late.getD 0 0))=I (b.fn*late.getD 0 0)) an) (S_go 2 (S_end (V_region (S_go 3 (S_a [(1,.v (I (y0-if b.fn*late.getD 0 0<y0 then b.fn*late.getD 0 0 else y0)))] (ap ((wrapE rfl (by omega)):I (IntKind.i64.wrap (y0-if b.fn*late.getD 0 0<y0 then b.fn*late.getD 0 0 else y0))=I (y0-if b.fn*late.getD 0 0<y0 then b.fn*late.getD 0 0 else y0)) an) (S_go 1 (S_a [(4,.ob),(0,.ob),(0,.ob),(2,.v (PV.own 1 (List.map I (o++[y0-if b.fn*late.getD 0 0<y0 then b.fn*late.getD 0 0 else y0]))))] (ap ((by exact ble_of (by simp only [List.length_map,List.length_set,List.length_append,List.length_cons,List.length_nil,limit]<;>omega)):(0+(List.map I o).length).ble (List.map I o).length=true) (ap ((by exact ble_of (by simp only [List.length_map,List.length_set,List.length_append,List.length_cons,List.length_nil,limit]<;>omega)):((List.map I o).length + [I (y0-if b.fn*late.getD 0 0<y0 then b.fn*late.getD 0 0 else y0)].length).ble limit=true) (ap ((by exact beq_of (by simp<;>omega)):(0+(List.map I o).length).beq (List.map I o).length=true) (ap ((by simp):PV.own 1 (List.map I o++[I (y0-if b.fn*late.getD 0 0<y0 then b.fn*late.getD 0 0 else y0)])=PV.own 1 (List.map I (o++[y0-if b.fn*late.getD 0 0<y0 then b.fn*late.getD 0 0 else y0]))) an)))) (S_go 3 (S_a [(4,.ob),(0,.ob),(0,.ob),(2,.v (PV.own 1 (List.map I (s++[if b.fn*late.getD 0 0<y0 then b.fn*late.getD 0 0 else y0]))))] (ap ((by exact ble_of (by simp only [List.length_map,List.length_set,List.length_append,List.length_cons,List.length_nil,limit]<;>omega)):(0+(List.map I s).length).ble (List.map I s).length=true) (ap ((by exact ble_of (by simp only [List.length_map,List.length_set,List.length_append,List.length_cons,List.length_nil,limit]<;>omega)):((List.map I s).length + [I (if b.fn*late.getD 0 0<y0 then b.fn*late.getD 0 0 else y0)].length).ble limit=true) (ap ((by exact beq_of (by simp<;>omega)):(0+(List.map I s).length).beq (List.map I s).length=true) (ap ((by simp):PV.own 1 (List.map I s++[I (if b.fn*late.getD 0 0<y0 then b.fn*late.getD 0 0 else y0)])=PV.own 1 (List.map I (s++[if b.fn*late.getD 0 0<y0 then b.fn*late.getD 0 0 else y0]))) an)))) (S_go 2 (S_end (V_region (S_go 2 (S_end ?_)))))))))))))))))))))))))))))))))))))
      · exact ⟨(1,o++[y0-(if b.fn*late.getD 0 0<y0 then b.fn*late.getD 0 0 else y0)],s++[(if b.fn*late.getD 0 0<y0 then b.fn*late.getD 0 0 else y0)]),⟨by omega,by rw [ho,show min 1 b.cr.toNat=0+1 by omega,show min 0 b.cr.toNat=0 by omega,gotL_succ];rfl,by rw [hs,show min 1 b.cr.toNat=0+1 by omega,show min 0 b.cr.toNat=0 by omega,lessL_succ];rfl⟩,by simp,by kernel_rfl,by kernel_rfl⟩
    · have hk:0≤(if b.fn*late.getD 1 0<y1 then b.fn*late.getD 1 0 else y1)∧(if b.fn*late.getD 1 0<y1 then b.fn*late.getD 1 0 else y1)≤y1∧(if b.fn*late.getD 1 0<y1 then b.fn*late.getD 1 0 else y1)≤1000000:=hfb 1
      have hyk:0≤y1∧y1≤1000000:=hyb 1
      have hmk:=hm 1
      refine V_seq (V_region (S_go 1 (S_end (V_seq (V_true (V_skip (V_seq (V_block 2 (V_seq (V_region (S_go 4 (S_end (V_seq (V_region (S_go 4 (S_end (V_dec ((↑1:Int)<b.cr) (fun k2=>(V_seq (V_region (S_go 5 (S_a [(2,.v (I (late.getD 1 0)))] (ap (getm (0) (by omega):(List.map I late)[1]? = some (I (late.getD 1 0))) an) (S_go 1 (S_a [(1,.v (I (b.fn*late.getD 1 0)))] (ap ((wrapE rfl (by omega)):I (IntKind.i64.wrap (b.fn*late.getD 1 0))=I (b.fn*late.getD 1 0)) an) (S_go 2 (S_end (V_region (S_go 3 (S_a [(1,.v (I (y1-if b.fn*late.getD 1 0<y1 then b.fn*late.getD 1 0 else y1)))] (ap ((wrapE rfl (by omega)):I (IntKind.i64.wrap (y1-if b.fn*late.getD 1 0<y1 then b.fn*late.getD 1 0 else y1))=I (y1-if b.fn*late.getD 1 0<y1 then b.fn*late.getD 1 0 else y1)) an) (S_go 1 (S_a [(4,.ob),(0,.ob),(0,.ob),(2,.v (PV.own 1 (List.map I (o++[y1-if b.fn*late.getD 1 0<y1 then b.fn*late.getD 1 0 else y1]))))] (ap ((by exact ble_of (by simp only [List.length_map,List.length_set,List.length_append,List.length_cons,List.length_nil,limit]<;>omega)):(0+(List.map I o).length).ble (List.map I o).length=true) (ap ((by exact ble_of (by simp only [List.length_map,List.length_set,List.length_append,List.length_cons,List.length_nil,limit]<;>omega)):((List.map I o).length + [I (y1-if b.fn*late.getD 1 0<y1 then b.fn*late.getD 1 0 else y1)].length).ble limit=true) (ap ((by exact beq_of (by simp<;>omega)):(0+(List.map I o).length).beq (List.map I o).length=true) (ap ((by simp):PV.own 1 (List.map I o++[I (y1-if b.fn*late.getD 1 0<y1 then b.fn*late.getD 1 0 else y1)])=PV.own 1 (List.map I (o++[y1-if b.fn*late.getD 1 0<y1 then b.fn*late.getD 1 0 else y1]))) an)))) (S_go 3 (S_a [(4,.ob),(0,.ob),(0,.ob),(2,.v (PV.own 1 (List.map I (s++[if b.fn*late.getD 1 0<y1 then b.fn*late.getD 1 0 else y1]))))] (ap ((by exact ble_of (by simp only [List.length_map,List.length_set,List.length_append,List.length_cons,List.length_nil,limit]<;>omega)):(0+(List.map I s).length).ble (List.map I s).length=true) (ap ((by exact ble_of (by simp only [List.length_map,List.length_set,List.length_append,List.length_cons,List.length_nil,limit]<;>omega)):((List.map I s).length + [I (if b.fn*late.getD 1 0<y1 then b.fn*late.getD 1 0 else y1)].length).ble limit=true) (ap ((by exact beq_of (by simp<;>omega)):(0+(List.map I s).length).beq (List.map I s).length=true) (ap ((by simp):PV.own 1 (List.map I s++[I (if b.fn*late.getD 1 0<y1 then b.fn*late.getD 1 0 else y1)])=PV.own 1 (List.map I (s++[if b.fn*late.getD 1 0<y1 then b.fn*late.getD 1 0 else y1]))) an)))) (S_go 2 (S_end (V_region (S_go 2 (S_end ?_))))))))))))))))))))) (fun k2=>(V_skip (V_region (S_go 2 (S_end ?_))))))))))))))))))))))
      · exact ⟨(2,o++[y1-(if b.fn*late.getD 1 0<y1 then b.fn*late.getD 1 0 else y1)],s++[(if b.fn*late.getD 1 0<y1 then b.fn*late.getD 1 0 else y1)]),⟨by omega,by rw [ho,show min 2 b.cr.toNat=1+1 by omega,show min 1 b.cr.toNat=1 by omega,gotL_succ];rfl,by rw [hs,show min 2 b.cr.toNat=1+1 by omega,show min 1 b.cr.toNat=1 by omega,lessL_succ];rfl⟩,by simp,by kernel_rfl,by kernel_rfl⟩
      · exact ⟨(2,o,s),⟨by omega,by rw [ho,show min 2 b.cr.toNat=min 1 b.cr.toNat by omega],by rw [hs,show min 2 b.cr.toNat=min 1 b.cr.toNat by omega]⟩,by simp,by kernel_rfl,by kernel_rfl⟩
    · have hk:0≤(if b.fn*late.getD 2 0<y2 then b.fn*late.getD 2 0 else y2)∧(if b.fn*late.getD 2 0<y2 then b.fn*late.getD 2 0 else y2)≤y2∧(if b.fn*late.getD 2 0<y2 then b.fn*late.getD 2 0 else y2)≤1000000:=hfb 2
      have hyk:0≤y2∧y2≤1000000:=hyb 2
      have hmk:=hm 2
      refine V_seq (V_region (S_go 1 (S_end (V_seq (V_true (V_skip (V_seq (V_block 2 (V_seq (V_region (S_go 4 (S_end (V_seq (V_region (S_go 4 (S_end (V_dec ((↑2:Int)<b.cr) (fun k2=>(V_seq (V_region (S_go 5 (S_a [(2,.v (I (late.getD 2 0)))] (ap (getm (0) (by omega):(List.map I late)[2]? = some (I (late.getD 2 0))) an) (S_go 1 (S_a [(1,.v (I (b.fn*late.getD 2 0)))] (ap ((wrapE rfl (by omega)):I (IntKind.i64.wrap (b.fn*late.getD 2 0))=I (b.fn*late.getD 2 0)) an) (S_go 2 (S_end (V_region (S_go 3 (S_a [(1,.v (I (y2-if b.fn*late.getD 2 0<y2 then b.fn*late.getD 2 0 else y2)))] (ap ((wrapE rfl (by omega)):I (IntKind.i64.wrap (y2-if b.fn*late.getD 2 0<y2 then b.fn*late.getD 2 0 else y2))=I (y2-if b.fn*late.getD 2 0<y2 then b.fn*late.getD 2 0 else y2)) an) (S_go 1 (S_a [(4,.ob),(0,.ob),(0,.ob),(2,.v (PV.own 1 (List.map I (o++[y2-if b.fn*late.getD 2 0<y2 then b.fn*late.getD 2 0 else y2]))))] (ap ((by exact ble_of (by simp only [List.length_map,List.length_set,List.length_append,List.length_cons,List.length_nil,limit]<;>omega)):(0+(List.map I o).length).ble (List.map I o).length=true) (ap ((by exact ble_of (by simp only [List.length_map,List.length_set,List.length_append,List.length_cons,List.length_nil,limit]<;>omega)):((List.map I o).length + [I (y2-if b.fn*late.getD 2 0<y2 then b.fn*late.getD 2 0 else y2)].length).ble limit=true) (ap ((by exact beq_of (by simp<;>omega)):(0+(List.map I o).length).beq (List.map I o).length=true) (ap ((by simp):PV.own 1 (List.map I o++[I (y2-if b.fn*late.getD 2 0<y2 then b.fn*late.getD 2 0 else y2)])=PV.own 1 (List.map I (o++[y2-if b.fn*late.getD 2 0<y2 then b.fn*late.getD 2 0 else y2]))) an)))) (S_go 3 (S_a [(4,.ob),(0,.ob),(0,.ob),(2,.v (PV.own 1 (List.map I (s++[if b.fn*late.getD 2 0<y2 then b.fn*late.getD 2 0 else y2]))))] (ap ((by exact ble_of (by simp only [List.length_map,List.length_set,List.length_append,List.length_cons,List.length_nil,limit]<;>omega)):(0+(List.map I s).length).ble (List.map I s).length=true) (ap ((by exact ble_of (by simp only [List.length_map,List.length_set,List.length_append,List.length_cons,List.length_nil,limit]<;>omega)):((List.map I s).length + [I (if b.fn*late.getD 2 0<y2 then b.fn*late.getD 2 0 else y2)].length).ble limit=true) (ap ((by exact beq_of (by simp<;>omega)):(0+(List.map I s).length).beq (List.map I s).length=true) (ap ((by simp):PV.own 1 (List.map I s++[I (if b.fn*late.getD 2 0<y2 then b.fn*late.getD 2 0 else y2)])=PV.own 1 (List.map I (s++[if b.fn*late.getD 2 0<y2 then b.fn*late.getD 2 0 else y2]))) an)))) (S_go 2 (S_end (V_region (S_go 2 (S_end ?_))))))))))))))))))))) (fun k2=>(V_skip (V_region (S_go 2 (S_end ?_))))))))))))))))))))))
      · exact ⟨(3,o++[y2-(if b.fn*late.getD 2 0<y2 then b.fn*late.getD 2 0 else y2)],s++[(if b.fn*late.getD 2 0<y2 then b.fn*late.getD 2 0 else y2)]),⟨by omega,by rw [ho,show min 3 b.cr.toNat=2+1 by omega,show min 2 b.cr.toNat=2 by omega,gotL_succ];rfl,by rw [hs,show min 3 b.cr.toNat=2+1 by omega,show min 2 b.cr.toNat=2 by omega,lessL_succ];rfl⟩,by simp,by kernel_rfl,by kernel_rfl⟩
      · exact ⟨(3,o,s),⟨by omega,by rw [ho,show min 3 b.cr.toNat=min 2 b.cr.toNat by omega],by rw [hs,show min 3 b.cr.toNat=min 2 b.cr.toNat by omega]⟩,by simp,by kernel_rfl,by kernel_rfl⟩
    · have hk:0≤(if b.fn*late.getD 3 0<y3 then b.fn*late.getD 3 0 else y3)∧(if b.fn*late.getD 3 0<y3 then b.fn*late.getD 3 0 else y3)≤y3∧(if b.fn*late.getD 3 0<y3 then b.fn*late.getD 3 0 else y3)≤1000000:=hfb 3
      have hyk:0≤y3∧y3≤1000000:=hyb 3
      have hmk:=hm 3
      refine V_seq (V_region (S_go 1 (S_end (V_seq (V_true (V_skip (V_seq (V_block 2 (V_seq (V_region (S_go 4 (S_end (V_seq (V_region (S_go 4 (S_end (V_dec ((↑3:Int)<b.cr) (fun k2=>(V_seq (V_region (S_go 5 (S_a [(2,.v (I (late.getD 3 0)))] (ap (getm (0) (by omega):(List.map I late)[3]? = some (I (late.getD 3 0))) an) (S_go 1 (S_a [(1,.v (I (b.fn*late.getD 3 0)))] (ap ((wrapE rfl (by omega)):I (IntKind.i64.wrap (b.fn*late.getD 3 0))=I (b.fn*late.getD 3 0)) an) (S_go 2 (S_end (V_region (S_go 3 (S_a [(1,.v (I (y3-if b.fn*late.getD 3 0<y3 then b.fn*late.getD 3 0 else y3)))] (ap ((wrapE rfl (by omega)):I (IntKind.i64.wrap (y3-if b.fn*late.getD 3 0<y3 then b.fn*late.getD 3 0 else y3))=I (y3-if b.fn*late.getD 3 0<y3 then b.fn*late.getD 3 0 else y3)) an) (S_go 1 (S_a [(4,.ob),(0,.ob),(0,.ob),(2,.v (PV.own 1 (List.map I (o++[y3-if b.fn*late.getD 3 0<y3 then b.fn*late.getD 3 0 else y3]))))] (ap ((by exact ble_of (by simp only [List.length_map,List.length_set,List.length_append,List.length_cons,List.length_nil,limit]<;>omega)):(0+(List.map I o).length).ble (List.map I o).length=true) (ap ((by exact ble_of (by simp only [List.length_map,List.length_set,List.length_append,List.length_cons,List.length_nil,limit]<;>omega)):((List.map I o).length + [I (y3-if b.fn*late.getD 3 0<y3 then b.fn*late.getD 3 0 else y3)].length).ble limit=true) (ap ((by exact beq_of (by simp<;>omega)):(0+(List.map I o).length).beq (List.map I o).length=true) (ap ((by simp):PV.own 1 (List.map I o++[I (y3-if b.fn*late.getD 3 0<y3 then b.fn*late.getD 3 0 else y3)])=PV.own 1 (List.map I (o++[y3-if b.fn*late.getD 3 0<y3 then b.fn*late.getD 3 0 else y3]))) an)))) (S_go 3 (S_a [(4,.ob),(0,.ob),(0,.ob),(2,.v (PV.own 1 (List.map I (s++[if b.fn*late.getD 3 0<y3 then b.fn*late.getD 3 0 else y3]))))] (ap ((by exact ble_of (by simp only [List.length_map,List.length_set,List.length_append,List.length_cons,List.length_nil,limit]<;>omega)):(0+(List.map I s).length).ble (List.map I s).length=true) (ap ((by exact ble_of (by simp only [List.length_map,List.length_set,List.length_append,List.length_cons,List.length_nil,limit]<;>omega)):((List.map I s).length + [I (if b.fn*late.getD 3 0<y3 then b.fn*late.getD 3 0 else y3)].length).ble limit=true) (ap ((by exact beq_of (by simp<;>omega)):(0+(List.map I s).length).beq (List.map I s).length=true) (ap ((by simp):PV.own 1 (List.map I s++[I (if b.fn*late.getD 3 0<y3 then b.fn*late.getD 3 0 else y3)])=PV.own 1 (List.map I (s++[if b.fn*late.getD 3 0<y3 then b.fn*late.getD 3 0 else y3]))) an)))) (S_go 2 (S_end (V_region (S_go 2 (S_end ?_))))))))))))))))))))) (fun k2=>(V_skip (V_region (S_go 2 (S_end ?_))))))))))))))))))))))
      · exact ⟨(4,o++[y3-(if b.fn*late.getD 3 0<y3 then b.fn*late.getD 3 0 else y3)],s++[(if b.fn*late.getD 3 0<y3 then b.fn*late.getD 3 0 else y3)]),⟨by omega,by rw [ho,show min 4 b.cr.toNat=3+1 by omega,show min 3 b.cr.toNat=3 by omega,gotL_succ];rfl,by rw [hs,show min 4 b.cr.toNat=3+1 by omega,show min 3 b.cr.toNat=3 by omega,lessL_succ];rfl⟩,by simp,by kernel_rfl,by kernel_rfl⟩
      · exact ⟨(4,o,s),⟨by omega,by rw [ho,show min 4 b.cr.toNat=min 3 b.cr.toNat by omega],by rw [hs,show min 4 b.cr.toNat=min 3 b.cr.toNat by omega]⟩,by simp,by kernel_rfl,by kernel_rfl⟩
    · refine V_seq (V_region (S_go 1 (S_end (V_seq (V_false (V_exit 1 (V_seq (V_region (S_go 2 (S_a [(3,.ob),(0,.v (PV.sl (List.map I s))),(2,.ret (I s.sum) ([]))] (ap ((by exact ble_of (by simp only [List.length_map,List.length_set,List.length_append,List.length_cons,List.length_nil,limit]<;>omega)):(0+(List.map I s).length).ble (List.map I s).length=true) (ap ((sl_ext (freezes_to (by simp [take_mapL]) (freezes_mapI _))):PV.sl (freezes (List.take (List.map I s).length (List.drop 0 (List.map I s))))=PV.sl (List.map I s)) (ap (f81a (s) (by omega) (by omega)) an))) (S_a [(2,.yes)] (ap ((by exact beq_of (by simp<;>omega)):(Nat.beq 0 0&&(List.map I o).length.beq (List.map I o).length)=true) an) (S_go 2 (S_end (V_ret (E_a [(1,.yes),(1,.v (PV.own 1 (List.map I o)))] (ap ((by exact ble_of (by simp only [List.length_map,List.length_set,List.length_append,List.length_cons,List.length_nil,limit]<;>omega)):(0+(List.map I o).length).ble (List.map I o).length=true) (ap ((by simp [take_mapL]):PV.own 1 (List.take (List.map I o).length (List.drop 0 (List.map I o)))=PV.own 1 (List.map I o)) an)) (PV.tup [PV.own 1 (List.map I o),I s.sum,I 0]) ([]) ?_ rfl)))))))))))))))
      rw [show min 4 b.cr.toNat=b.cr.toNat by omega] at ho hs
      simp only [fineGot,fineLess,e2,if_true,hy,← ho,← hs]
  · have e2:fineErr b l late=shareErr b l:=by simp only [fineErr,h,if_false]
    refine gives_ofX Try.f26 ?_
    refine V_seq (V_region (S_go 4 (S_end (V_seq (V_region (S_go 2 (S_a [(8,.ret (PV.tup [PV.nilp,I (shareErr b l)]) ([]))] (ap (f88_2 (b) (l) (by omega) (by omega) (by omega)) an) (S_go 5 (S_end (V_seq (V_block 0 (V_seq (V_region (S_go 3 (S_end (V_ndecT (shareErr b l=0) (by omega) (V_seq (V_region (S_go 4 (S_end (V_ret (E_a [] an (PV.tup [PV.own 1 [],I 0,I (shareErr b l)]) ([]) ?_ rfl))))))))))))))))))))))
    · simp only [fineGot,fineLess,e2,h,if_false];rfl
end
end Go.Eng
set_option maxRecDepth 10000
set_option maxHeartbeats 4000000
namespace Go.Eng
open Go Go.Proofs
theorem has_t {l:List Int} {c:Int} {i:Nat} (h:i<l.length) (hc:l.getD i 0=c):has l c=true:=by
  rw [getD_lt h] at hc
  exact List.any_eq_true.2 ⟨l[i],List.getElem_mem h,by simp [hc]⟩
def earnN (b:Dk) (l:List Int) (c:Int):Nat→Int
  | 0=>0
  | n+1=>if l.getD n 0=c then earnN b l c n+feeOf b (rnd b n) else earnN b l c n
theorem addF_earn {b:Dk} {l:List Int} (hl:∀ x∈l,0≤x∧x<4):∀ (n:Nat),n≤l.length→n≤b.rs.length→∀ c:Nat,c<4→(addF (feesOf b) l n).getD c 0=earnN b l c n
  | 0,_,_,c,hc=>by
    match c,hc with
    | 0,_=>rfl
    | 1,_=>rfl
    | 2,_=>rfl
    | 3,_=>rfl
  | n + 1,h1,h2,c,hc=>by
    have ih:=addF_earn (b:=b) hl n (by omega) (by omega)
    have hx:=getD_all hl n (by omega)
    rw [addF,getD_set,addF_len,earnN,feesOf_at (by omega:n<b.rs.length)]
    by_cases he:l.getD n 0=c
    · rw [if_pos ⟨by omega,hc⟩,if_pos he,ih _ (by omega)]
      have:((l.getD n 0).toNat:Int)=c:=by omega
      rw [this];rfl
    · rw [if_neg (by omega),if_neg he,ih c hc]
section
variable [Yo]
end
end Go.Eng
set_option maxRecDepth 10000
set_option maxHeartbeats 4000000
namespace Go.Eng
open Go Go.Proofs
section
variable [Yo]
end
end Go.Eng
set_option maxRecDepth 10000
set_option maxHeartbeats 4000000
namespace Go.Eng
open Go Go.Proofs
theorem earn_list {b:Dk} {l:List Int} (h:ShareOk b l):feesL b l=(List.range b.cr.toNat).map fun c:Nat=>earnN b l (c:Int) l.length:=by
  have hg:=box_good h.box
  have hs:shareErr b l=0:=by
    have h2:(!l.all (fun x=>decide (0≤x)&&decide (x≤b.cr-1)))=false:=by
      simp only [Bool.not_eq_false',List.all_eq_true]
      intro x hx;have:=h.rng x hx;simp;omega
    simp only [shareErr,h.box,h.len,h2,h.may,if_true];rfl
  have hcr:=hg.cr
  have hx:∀ x∈l,0≤x∧x<4:=fun x hx=>by have:=h.rng x hx;omega
  have hlen:=addF_len (fee:=feesOf b) (share:=l) l.length
  simp only [feesL,hs,if_true]
  apply List.ext_getElem?
  intro i
  rw [List.getElem?_take,List.getElem?_map]
  by_cases hi:i<b.cr.toNat
  · rw [if_pos hi,List.getElem?_range hi,List.getElem?_eq_getElem (by omega)]
    have:=addF_earn hx l.length (Nat.le_refl _) (by rw [h.len];exact Nat.le_refl _) i (by omega)
    rw [getD_lt (by omega)] at this
    simp [this]
  · rw [if_neg hi,List.getElem?_eq_none (by simpa using hi)];rfl
section
variable [Yo]
end
end Go.Eng
set_option maxRecDepth 10000
set_option maxHeartbeats 4000000
namespace Go.Eng
open Go Go.Proofs
section
variable [Yo]
end
end Go.Eng
set_option maxRecDepth 10000
set_option maxHeartbeats 4000000
namespace Go.Eng
open Go Go.Proofs
def greatB (b:Dk):Bool:=decide ((b.rs.length:Int)>12)||b.rs.any fun r=>decide ((r.may.length:Int)>10)
section
variable [Yo]
end
end Go.Eng
namespace Go.Eng
open Go Go.Proofs
section
variable [Yo]
theorem f17 (l:List Int) (hl:l.length<1000000):FG 17 [ints l] (.own 1 (l.map I)):=by
  refine gives_ofX Try.f17 ?_
  refine V_seq (V_region (S_go 1 (S_end (V_seq (V_region (S_go 1 (S_a [(0,.n (l.length))] (ap ((by simp):some (List.map I l).length=some l.length) an) (S_a [(4,.ob),(0,.ob),(1,.v (PV.own 1 (List.map I (List.replicate l.length 0))))] (ap ((by exact dec_of (by omega)):decide (l.length≤l.length)=true) (ap ((by exact dec_of (by simp [limit]<;>omega)):decide (l.length≤limit)=true) (ap ((by simp):PV.own 1 (List.replicate l.length (I 0))=PV.own 1 (List.map I (List.replicate l.length 0))) an))) (S_go 1 (S_end (V_seq (V_region (S_go 2 (S_copyL (fun q=>q) 3 1 (List.map I (List.replicate l.length 0)) (List.map I l) (List.map I l) (fits_map fun _ _=>(by first | exact fits_one | exact ⟨rfl,rfl,rfl,rfl,Nat.le_refl _,rfl⟩)) (by simp<;>omega) (map_all (by simp<;>omega)) Lens.nil (S_end (V_seq (V_region (S_go 1 (S_a [(2,.yes)] (ap ((by exact beq_of (by simp<;>omega)):(Nat.beq 0 0&&(List.map I l).length.beq (List.map I l).length)=true) an) (S_end (V_ret (E_a [(1,.yes),(1,.v (PV.own 1 (List.map I l)))] (ap ((by exact ble_of (by simp only [List.length_map,List.length_set,List.length_append,List.length_cons,List.length_nil,limit]<;>omega)):(0+(List.map I l).length).ble (List.map I l).length=true) (ap ((by simp [take_mapL]):PV.own 1 (List.take (List.map I l).length (List.drop 0 (List.map I l)))=PV.own 1 (List.map I l)) an)) (PV.own 1 (List.map I l)) ([]) rfl rfl))))))))))))))))))))))
end
def cmpD (coins:Int) (parts:List Int) (all:Int) (i k:Int):Int:=(coins*parts.getD k.toNat 0).tmod all-(coins*parts.getD i.toNat 0).tmod all
section
variable [Yo]
end
def posB (lt:Int→Int→Bool) (s:List Int) (x:Int):Nat→Nat
  | 0=>0
  | j+1=>if lt x (s.getD j 0) then posB lt s x j else j+1
def insB (lt:Int→Int→Bool) (s:List Int) (x:Int):List Int:=s.take (posB lt s x s.length)++x::s.drop (posB lt s x s.length)
def isort (lt:Int→Int→Bool) (l:List Int):List Int:=l.foldl (insB lt) []
def ltD (coins:Int) (parts:List Int) (all:Int) (x y:Int):Bool:=decide (cmpD coins parts all x y<0)
section
variable [Yo]
end
end Go.Eng
set_option maxRecDepth 10000
set_option maxHeartbeats 4000000
namespace Go.Eng
open Go Go.Proofs
abbrev rndO (r:Rnd):PV := .agg [I r.w,I r.s,.own 1 (r.may.map I)]
section
variable [Yo]
end
end Go.Eng
