/- Each move that is told makes the fee of who gets the round less than that of who had it, each swap makes both less than the greater one was, and no others do, for all numbers. -/
import Derived.Test.YtpmbobnmpehobaaPe
import Derived.Test.YtpmbobnmpehobaaPd
set_option linter.unusedVariables false
set_option linter.unusedSimpArgs false
set_option linter.unusedSectionVars false
set_option maxRecDepth 10000
set_option maxHeartbeats 4000000
namespace Go.Eng
open Go Go.Proofs
theorem share_err {b:Dk} {s:List Int} (h:ShareOk b s):shareErr b s=0:=by
  have h2:(!s.all (fun x=>decide (0≤x)&&decide (x≤b.cr-1)))=false:=by
    simp only [Bool.not_eq_false',List.all_eq_true]
    intro x hx;have:=h.rng x hx;simp;omega
  simp only [shareErr,h.box,h.len,h2,h.may,if_true];rfl
theorem mvRow_len {b:Dk} {fee f s:List Int} {r n:Nat}:(mvRow b fee f s r n).length≤n:=by
  simp only [mvRow,List.length_map]
  exact Nat.le_trans (List.length_filter_le _ _) (by simp)
theorem mvs_len {b:Dk} {fee f s:List Int}:∀ n,(mvs b fee f s n).length≤n*b.cr.toNat
  | 0=>by simp [mvs]
  | n+1=>by
    have ih:=mvs_len (b:=b) (fee:=fee) (f:=f) (s:=s) n
    have h:=mvRow_len (b:=b) (fee:=fee) (f:=f) (s:=s) (r:=n) (n:=b.cr.toNat)
    rw [mvs_succ,List.length_append,Nat.succ_mul];omega
def feeS (b:Dk) (s:List Int):List Int:=addF (feesOf b) s s.length
theorem share_lt {b:Dk} {s:List Int} (hs:ShareOk b s):∀ x∈s,0≤x∧x<4:=fun x hx=>by
  have:=(box_good hs.box).cr
  have:=hs.rng x hx
  omega
theorem feeS_earn {b:Dk} {s:List Int} (hs:ShareOk b s) {c:Nat} (hc:c<4):(feeS b s).getD c 0=earnN b s c s.length:=addF_earn (share_lt hs) s.length (Nat.le_refl _) (by rw [hs.len];exact Nat.le_refl _) c hc
theorem mv_ok {b:Dk} {s:List Int} (hs:ShareOk b s) (hsm:Small b):MvOk b (feesOf b) (feeS b s) s:=by
  have hg:=box_good hs.box
  have hcr:=hg.cr
  have hlen:=hg.len
  have hsl:=hs.len
  refine ⟨hsm,by omega,addF_len _,feesOf_len,hs.len,share_lt hs,fun i=>?_,fun i=>?_⟩
  · have:=addF_bd (share:=s) (feesOf_bd hg) s.length i
    unfold feeS;omega
  · have:=feesOf_bd hg i;omega
def movesL (b:Dk) (l:List Int):List (Nat×Nat):=if shareErr b l=0 then mvs b (feesOf b) (feeS b l) l l.length else []
theorem earnN_set {b:Dk} {l:List Int} {r:Nat} (hr:r<l.length) {c:Int} (hc:c≠l.getD r 0):earnN b (l.set r c) c l.length=earnN b l c l.length+feeOf b (rnd b r):=by
  rw [earn_G,earn_G,earnG_set hr,if_neg (fun h=>hc h.2.symm),if_pos ⟨hr,rfl⟩];omega
theorem mvOk_ref {b:Dk} {s:List Int} (hs:ShareOk b s) {r t:Nat} (hr:r<s.length) (ht:(t:Int)<b.cr):mvOk b (feesOf b) (feeS b s) s r t=(decide ((t:Int)≠s.getD r 0)&&(has (rnd b r).may t&&decide (earnN b (s.set r t) t s.length<earnN b s (s.getD r 0) s.length))):=by
  have hcr:=(box_good hs.box).cr
  have hx:=getD_all (share_lt hs) r hr
  have hsl:=hs.len
  unfold mvOk
  by_cases hne:(t:Int)≠s.getD r 0
  · rw [earnN_set hr hne,feeS_earn hs (by omega),feeS_earn hs (by omega),feesOf_at (by omega),Int.toNat_of_nonneg hx.1];rfl
  · simp only [hne,decide_false,Bool.false_and]
section
variable [Yo]
abbrev movesF (b:Dk) (fee f share:List Int):PV := .func 130 [] (mvCaps b fee f share)
theorem f93_1 (b:Dk) (fee share:List Int) (h1:∀ x∈share,0≤x∧x<4) (h2:∀ i,0≤fee.getD i 0∧fee.getD i 0≤1000) (h3:share.length≤1000) (h4:share.length=fee.length):FG 93 [.ref (deskV b fee),ints share] (movesF b fee (addF fee share share.length) share):=by
  have h90:=f90 b fee share h1 h2 h3 h4
  obtain ⟨x0,x1,x2,x3,hx⟩:=four_of (addF_len (fee:=fee) (share:=share) share.length)
  rw [hx] at h90 ⊢
  have h90:FG 90 [.ref (deskV b fee),ints share] (.agg [I x0,I x1,I x2,I x3]):=h90
  refine gives_ofX Try.f93 ?_
  refine V_seq (V_region (S_go 3 (S_end (V_seq (V_region (S_go 4 (S_a [(7,.ret (PV.agg (List.map I [x0,x1,x2,x3])) ([]))] (ap (h90) an) (S_go 4 (S_end (V_seq (V_region (S_go 2 (S_end (V_ret (E_a [] an (PV.func 130 [] [(PV.sl (List.map I share)).ref,(PV.agg [I b.cr,I b.wd,I b.st,I b.fn,PV.sl (List.map rndV b.rs),PV.sl (List.map I fee)]).ref.ref,(PV.func 98 [(PV.agg [I b.cr,I b.wd,I b.st,I b.fn,PV.sl (List.map rndV b.rs),PV.sl (List.map I fee)]).ref] []).ref,(PV.agg [I x0,I x1,I x2,I x3]).ref]) ([]) rfl rfl)))))))))))))))
theorem f93_2 (b:Dk) (fee share:List Int) (h1:∀ x∈share,0≤x∧x<4) (h2:∀ i,0≤fee.getD i 0∧fee.getD i 0≤1000) (h3:share.length≤1000) (h4:share.length=fee.length):Gives Try.prog feeH 93 [.ref (deskV b fee),.bor 50000000 [(0,0)] 1 0 share.length] [.box (.own 1 (share.map I))] (.func 130 [] (.ref (.bor 50000000 [(0,0)] 1 0 share.length)::(mvCaps b fee (addF fee share share.length) []).tail)) [.box (.own 1 (share.map I))]:=by
  have h90:=f90 b fee share h1 h2 h3 h4
  obtain ⟨x0,x1,x2,x3,hx⟩:=four_of (addF_len (fee:=fee) (share:=share) share.length)
  rw [hx] at h90 ⊢
  have h90:FG 90 [.ref (deskV b fee),ints share] (.agg [I x0,I x1,I x2,I x3]):=h90
  refine gives_ofX Try.f93 ?_
  refine V_seq (V_region (S_go 3 (S_end (V_seq (V_region (S_go 3 (S_go 1 (S_a [(4,.ob),(0,.v (PV.sl (List.map I share))),(2,.ret (PV.agg (List.map I [x0,x1,x2,x3])) ([]))] (ap ((by exact ble_of (by simp only [List.length_map,List.length_set,List.length_append,List.length_cons,List.length_nil,limit]<;>omega)):(0+share.length).ble (List.map I share).length=true) (ap ((sl_ext (freezes_to (by simp [take_mapL]) (freezes_mapI _))):PV.sl (freezes (List.take share.length (List.drop 0 (List.map I share))))=PV.sl (List.map I share)) (ap (h90) an))) (S_go 4 (S_end (V_seq (V_region (S_go 2 (S_end (V_ret (E_a [] an (PV.func 130 [] [(PV.bor 50000000 [(0,0)] 1 0 share.length).ref,(PV.agg [I b.cr,I b.wd,I b.st,I b.fn,PV.sl (List.map rndV b.rs),PV.sl (List.map I fee)]).ref.ref,(PV.func 98 [(PV.agg [I b.cr,I b.wd,I b.st,I b.fn,PV.sl (List.map rndV b.rs),PV.sl (List.map I fee)]).ref] []).ref,(PV.agg [I x0,I x1,I x2,I x3]).ref]) ([(PV.own 1 (List.map I share)).box]) rfl rfl))))))))))))))))
end
theorem f129_1 {b:Dk} {fee f s:List Int} (h:MvOk b fee f s) (hl:(mvs b fee f s s.length).length≤1000) (hne:mvs b fee f s s.length≠[]):FG 129 [.nils 0,movesF b fee f s] (.own 2 ((mvs b fee f s s.length).map mvV)):=by
  have ha:=f130a h
  have hf:=h.hf
  generalize hL:mvs b fee f s s.length=L at *
  unfold mvLog at ha
  rw [hL] at ha
  clear h hL
  obtain ⟨x0,x1,x2,x3,rfl⟩:=four_of hf
  refine gives_ofX Try.f129 ?_
  refine V_seq (V_region (S_go 2 (S_end (V_seq (V_seq (V_region (S_go 1 (S_end (V_block 0 ?_)))))))))
  refine V_range (t:=6) ha (fun j s=>match s with | none=>j=0 | some q=>q=L.take j∧1≤j) (fun q'=>match q' with | none=>[(1,.func 130 [] (mvCaps b fee [x0,x1,x2,x3] s)),(2,.box (.nils 0)),(6,.func 130 [] (mvCaps b fee [x0,x1,x2,x3] s))] | some q=>[(1,.func 130 [] (mvCaps b fee [x0,x1,x2,x3] s)),(2,.box (.own 2 (q.map mvV))),(6,.func 130 [] (mvCaps b fee [x0,x1,x2,x3] s))]) (none:Option (List (Nat×Nat))) rfl (fun j x q hx hq=>?_) (fun q hq=>?_)
  · rw [List.getElem?_map] at hx
    obtain ⟨m,hm,rfl⟩:=Option.map_eq_some_iff.1 hx
    have hj:j<L.length:=(List.getElem?_eq_some_iff.1 hm).1
    cases q with
    | none =>
      simp only at hq
      subst hq
      refine Round_mk ?_
      refine V_region (S_go 2 (S_end ?_))
      refine ⟨rfl,by kernel_rfl,?_⟩
      refine V_block 1 (V_region (S_go 5 (S_end ?_)))
      refine ⟨by kernel_rfl,some [m],⟨?_,by omega⟩,by kernel_rfl⟩
      rw [List.take_add_one,hm];rfl
    | some q =>
      obtain ⟨hq,hj1⟩:=hq
      have hql:q.length≤1000:=by rw [hq,List.length_take];omega
      refine Round_mk ?_
      refine V_region (S_go 2 (S_end ?_))
      refine ⟨rfl,by kernel_rfl,?_⟩
      refine V_block 1 (V_region (S_a [(1,.v (PV.bor 2 [(0,0)] 2 0 q.length))] (ap ((by simp):PV.bor 2 [(0,0)] 2 0 (List.map mvV q).length=PV.bor 2 [(0,0)] 2 0 q.length) an) (S_go 2 (S_a [(4,.ob),(0,.ob),(0,.ob),(2,.v (PV.own 2 (List.map mvV (q++[m]))))] (ap ((by exact ble_of (by simp only [List.length_map,List.length_set,List.length_append,List.length_cons,List.length_nil,limit]<;>omega)):(0+q.length).ble (List.map mvV q).length=true) (ap ((by exact ble_of (by simp only [List.length_map,List.length_set,List.length_append,List.length_cons,List.length_nil,limit]<;>omega)):((List.map mvV q).length + [PV.agg [I (↑m.fst:Int),I (↑m.snd:Int)]].length).ble limit=true) (ap ((by exact beq_of (by simp<;>omega)):(0+q.length).beq (List.map mvV q).length=true) (ap ((by simp):PV.own 2 (List.map mvV q++[PV.agg [I (↑m.fst:Int),I (↑m.snd:Int)]])=PV.own 2 (List.map mvV (q++[m]))) an)))) (S_go 1 (S_end ?_))))))
      refine ⟨by kernel_rfl,some (q++[m]),⟨?_,by omega⟩,by kernel_rfl⟩
      rw [hq,List.take_add_one,hm];rfl
  · cases q with
    | none =>
      simp only [List.length_map] at hq
      exact absurd (List.eq_nil_of_length_eq_zero hq) hne
    | some q =>
      obtain ⟨hq,hj1⟩:=hq
      rw [List.length_map,List.take_length] at hq
      subst hq
      show W _ _ _ _ _ _ _ _
      refine V_seq (V_region (S_a [(1,.v (PV.bor 2 [(0,0)] 2 0 q.length))] (ap ((by simp):PV.bor 2 [(0,0)] 2 0 (List.map mvV q).length=PV.bor 2 [(0,0)] 2 0 q.length) an) (S_a [(2,.yes)] (ap ((by exact beq_of (by simp<;>omega)):(Nat.beq 0 0&&q.length.beq (List.map mvV q).length)=true) an) (S_end (V_ret (E_a [(1,.yes),(1,.v (PV.own 2 (List.map mvV q)))] (ap ((by exact ble_of (by simp only [List.length_map,List.length_set,List.length_append,List.length_cons,List.length_nil,limit]<;>omega)):(0+(List.map mvV q).length).ble (List.map mvV q).length=true) (ap ((own_ext take_allL):PV.own 2 (List.take (List.map mvV q).length (List.drop 0 (List.map mvV q)))=PV.own 2 (List.map mvV q)) an)) (PV.own 2 (List.map mvV q)) ([]) rfl rfl))))))
theorem f129_2 {b:Dk} {fee f s:List Int} (h:MvOk b fee f s) (hne:mvs b fee f s s.length=[]):FG 129 [.nils 0,movesF b fee f s] (.nils 0):=by
  have ha:=f130a h
  have hf:=h.hf
  unfold mvLog at ha
  rw [hne] at ha
  clear h hne
  obtain ⟨x0,x1,x2,x3,rfl⟩:=four_of hf
  refine gives_ofX Try.f129 ?_
  refine V_seq (V_region (S_go 2 (S_end (V_seq (V_seq (V_region (S_go 1 (S_end (V_block 0 ?_)))))))))
  refine V_rangeRg (t:=6) (R:=[]) ha ?_
  simp only [List.map_nil,Rg]
  refine V_seq (V_region (S_go 2 (S_end (V_ret (E_a [] an (PV.nils 0) ([]) rfl rfl)))))
theorem f92_1 {b:Dk} {fee f s:List Int} (h:MvOk b fee f s) (hl:(mvs b fee f s s.length).length≤1000) (hne:mvs b fee f s s.length≠[]):FG 92 [movesF b fee f s] (.own 2 ((mvs b fee f s s.length).map mvV)):=by
  have h129:=f129_1 h hl hne
  have hf:=h.hf
  generalize mvs b fee f s s.length=L at *
  clear h
  obtain ⟨x0,x1,x2,x3,rfl⟩:=four_of hf
  refine gives_ofX Try.f92 ?_
  refine V_seq (V_region (S_go 1 (S_end (V_seq (V_region (S_go 1 (S_a [(7,.ret (PV.own 2 (List.map mvV L)) ([]))] (ap (h129) an) (S_go 1 (S_end (V_ret (E_a [(1,.yes),(1,.v (PV.own 2 (List.map mvV L)))] (ap ((by exact ble_of (by simp only [List.length_map,List.length_set,List.length_append,List.length_cons,List.length_nil,limit]<;>omega)):(0+(List.map mvV L).length).ble (List.map mvV L).length=true) (ap ((own_ext take_allL):PV.own 2 (List.take (List.map mvV L).length (List.drop 0 (List.map mvV L)))=PV.own 2 (List.map mvV L)) an)) (PV.own 2 (List.map mvV L)) ([]) rfl rfl)))))))))))
theorem f92_2 {b:Dk} {fee f s:List Int} (h:MvOk b fee f s) (hne:mvs b fee f s s.length=[]):FG 92 [movesF b fee f s] (.nils 0):=by
  have h129:=f129_2 h hne
  have hf:=h.hf
  clear h hne
  obtain ⟨x0,x1,x2,x3,rfl⟩:=four_of hf
  refine gives_ofX Try.f92 ?_
  refine V_seq (V_region (S_go 1 (S_end (V_seq (V_region (S_go 1 (S_a [(7,.ret (PV.nils 0) ([]))] (ap (h129) an) (S_go 1 (S_end (V_ret (E_a [] an (PV.nils 0) ([]) rfl rfl)))))))))))
theorem f32_1 (b:Dk) (l:List Int) (hb:Small b) (hs:ShareOk b l) (hne:movesL b l≠[]):FG 32 [boxV b,ints l] (.tup [.own 2 ((movesL b l).map mvV),I 0]):=by
  have h:=share_err hs
  have hg:=box_good hs.box
  have hbl:=hg.len
  have hsl:=hs.len
  have hcr:=hg.cr
  have h88:=f88_1 b l hb h
  have hv:movesL b l=mvs b (feesOf b) (feeS b l) l l.length:=by simp only [movesL,h,if_true]
  have hml:(mvs b (feesOf b) (feeS b l) l l.length).length≤1000:=by
    have:=mvs_len (b:=b) (fee:=feesOf b) (f:=feeS b l) (s:=l) l.length
    have h2:l.length*b.cr.toNat≤7*4:=Nat.mul_le_mul (by omega) (by omega)
    omega
  rw [hv] at hne ⊢
  have h92:=f92_1 (mv_ok hs hb) hml hne
  have h93:=f93_1 b (feesOf b) l (share_lt hs) (feesOf_bd hg) (by omega) (by rw [feesOf_len];exact hsl)
  unfold feeS at h92 ⊢
  obtain ⟨x0,x1,x2,x3,hx⟩:=four_of (addF_len (fee:=feesOf b) (share:=l) l.length)
  rw [hx] at h92 h93 ⊢
  refine gives_ofX Try.f32 ?_
  refine V_seq (V_region (S_go 3 (S_end (V_seq (V_region (S_go 2 (S_a [(8,.ret (PV.tup [(deskV b (feesOf b)).ref,I 0]) ([]))] (ap (h88) an) (S_go 5 (S_end (V_seq (V_seq (V_region (S_go 2 (S_end (V_false (V_skip (V_seq (V_region (S_go 2 (S_a [(5,.ret (movesF b (feesOf b) [x0,x1,x2,x3] l) ([]))] (ap (h93) an) (S_a [(5,.ret (PV.own 2 (List.map mvV (mvs b (feesOf b) [x0,x1,x2,x3] l l.length))) ([]))] (ap (h92) an) (S_go 2 (S_end (V_ret (E_a [(1,.yes),(1,.v (PV.own 2 (List.map mvV (mvs b (feesOf b) [x0,x1,x2,x3] l l.length))))] (ap ((by exact ble_of (by simp only [List.length_map,List.length_set,List.length_append,List.length_cons,List.length_nil,limit]<;>omega)):(0+(List.map mvV (mvs b (feesOf b) [x0,x1,x2,x3] l l.length)).length).ble (List.map mvV (mvs b (feesOf b) [x0,x1,x2,x3] l l.length)).length=true) (ap ((own_ext take_allL):PV.own 2 (List.take (List.map mvV (mvs b (feesOf b) [x0,x1,x2,x3] l l.length)).length (List.drop 0 (List.map mvV (mvs b (feesOf b) [x0,x1,x2,x3] l l.length))))=PV.own 2 (List.map mvV (mvs b (feesOf b) [x0,x1,x2,x3] l l.length))) an)) (PV.tup [PV.own 2 (List.map mvV (mvs b (feesOf b) [x0,x1,x2,x3] l l.length)),I 0]) ([]) rfl rfl)))))))))))))))))))))))))
theorem f32_2 (b:Dk) (l:List Int) (hb:Small b) (hs:ShareOk b l) (hne:movesL b l=[]):FG 32 [boxV b,ints l] (.tup [.nils 0,I 0]):=by
  have h:=share_err hs
  have hg:=box_good hs.box
  have hbl:=hg.len
  have hsl:=hs.len
  have h88:=f88_1 b l hb h
  have hv:movesL b l=mvs b (feesOf b) (feeS b l) l l.length:=by simp only [movesL,h,if_true]
  rw [hv] at hne
  have h92:=f92_2 (mv_ok hs hb) hne
  have h93:=f93_1 b (feesOf b) l (share_lt hs) (feesOf_bd hg) (by omega) (by rw [feesOf_len];exact hsl)
  unfold feeS at h92
  obtain ⟨x0,x1,x2,x3,hx⟩:=four_of (addF_len (fee:=feesOf b) (share:=l) l.length)
  rw [hx] at h92 h93
  refine gives_ofX Try.f32 ?_
  refine V_seq (V_region (S_go 3 (S_end (V_seq (V_region (S_go 2 (S_a [(8,.ret (PV.tup [(deskV b (feesOf b)).ref,I 0]) ([]))] (ap (h88) an) (S_go 5 (S_end (V_seq (V_seq (V_region (S_go 2 (S_end (V_false (V_skip (V_seq (V_region (S_go 2 (S_a [(5,.ret (movesF b (feesOf b) [x0,x1,x2,x3] l) ([]))] (ap (h93) an) (S_a [(5,.ret (PV.nils 0) ([]))] (ap (h92) an) (S_go 2 (S_end (V_ret (E_a [] an (PV.tup [PV.nils 0,I 0]) ([]) rfl rfl)))))))))))))))))))))))))
end Go.Eng
set_option maxRecDepth 10000
set_option maxHeartbeats 4000000
namespace Go.Eng
open Go Go.Proofs
theorem mvRow_mem {b:Dk} {fee f s:List Int} {r n:Nat} {m:Nat×Nat} (h:m∈mvRow b fee f s r n):m.1=r∧m.2<n∧mvOk b fee f s m.1 m.2=true:=by
  simp only [mvRow,List.mem_map,List.mem_filter,List.mem_range] at h
  obtain ⟨t,⟨h1,h2⟩,rfl⟩:=h
  exact ⟨rfl,h1,h2⟩
theorem mvs_mem {b:Dk} {fee f s:List Int} {n:Nat} {m:Nat×Nat} (h:m∈mvs b fee f s n):m.1<n∧m.2<b.cr.toNat∧mvOk b fee f s m.1 m.2=true:=by
  simp only [mvs,List.mem_flatMap,List.mem_range] at h
  obtain ⟨r,h1,h2⟩:=h
  obtain ⟨rfl,h3,h4⟩:=mvRow_mem h2
  exact ⟨h1,h3,h4⟩
def mvStep (b:Dk) (s:List Int):Option (List Int):=match mvs b (feesOf b) (feeS b s) s s.length with
  | []=>none
  | m::_=>some (s.set m.1 (m.2:Int))
def settleN (b:Dk):Nat→List Int→List Int×Nat
  | 0,s=>(s,0)
  | k+1,s=>match mvStep b s with
    | none=>(s,0)
    | some s'=>((settleN b k s').1,(settleN b k s').2+1)
def settle (b:Dk) (s:List Int):List Int×Nat:=settleN b (pot b s+1) s
theorem fee_bd {b:Dk} (hg:Good b) (r:Nat):0≤feeOf b (rnd b r)∧feeOf b (rnd b r)≤1000:=by
  rcases Nat.lt_or_ge r b.rs.length with h | h
  · exact feeOf_bd hg (rnd_num hg h)
  · have e:rnd b r=default:=by unfold rnd;rw [List.getD_eq_getElem?_getD,List.getElem?_eq_none h];rfl
    rw [e];show 0≤(0:Int)*_∧(0:Int)*_≤_;simp
theorem mvStep_ok {b:Dk} {s s':List Int} (hs:ShareOk b s) (h:mvStep b s=some s'):ShareOk b s'∧pot b s'<pot b s:=by
  have hg:=box_good hs.box
  have hcr:=hg.cr
  have hbl:=hg.len
  have hsl:=hs.len
  unfold mvStep at h
  split at h
  · cases h
  · rename_i m ms hm
    obtain ⟨r,t⟩:=m
    simp only [Option.some.injEq] at h
    subst h
    obtain ⟨h1,h2,h3⟩:=mvs_mem (m:=(r,t)) (by rw [hm];simp:(r,t)∈mvs b (feesOf b) (feeS b s) s s.length)
    simp only at h1 h2 h3
    rw [mvOk_ref hs h1 (by omega)] at h3
    simp only [Bool.and_eq_true,decide_eq_true_eq] at h3
    obtain ⟨h4,h5,h6⟩:=h3
    rw [earnN_set h1 h4] at h6
    refine ⟨⟨hs.box,by simpa using hs.len,fun x hx=>?_,mayAll_t fun q hq=>?_⟩,?_⟩
    · rcases List.mem_or_eq_of_mem_set hx with hx | rfl
      · exact hs.rng x hx
      · omega
    · rw [getD_set]
      rw [List.length_set] at hq
      split
      · rename_i hq';rw [← hq'.1];exact h5
      · exact mayAll_get hs.may hq
    · have hb:=potI_bd (l:=s.set r (t:Int)) (fun r=>fee_bd hg r) (by simp;omega)
      have hd:=potI_dec (fun r=>(fee_bd hg r).1) (by omega) h1 (share_lt hs) (by omega:0≤(t:Int)∧(t:Int)<4) h4 h6
      unfold pot;omega
theorem settleN_fuel {b:Dk}:∀ (k k':Nat) (s:List Int),ShareOk b s→pot b s<k→pot b s<k'→settleN b k s=settleN b k' s
  | 0,_,_,_,h,_=>absurd h (Nat.not_lt_zero _)
  | _+1,0,_,_,_,h=>absurd h (Nat.not_lt_zero _)
  | k + 1,k'+1,s,hs,h1,h2=>by
    simp only [settleN]
    cases h:mvStep b s with
    | none=>rfl
    | some s' =>
      obtain ⟨h3,h4⟩:=mvStep_ok hs h
      simp only [settleN_fuel k k' s' h3 (by omega) (by omega)]
theorem settle_step {b:Dk} {s s':List Int} (hs:ShareOk b s) (h:mvStep b s=some s'):settle b s=((settle b s').1,(settle b s').2+1):=by
  obtain ⟨h3,h4⟩:=mvStep_ok hs h
  have e:settle b s=((settleN b (pot b s) s').1,(settleN b (pot b s) s').2+1):=by
    unfold settle;rw [settleN,h]
  rw [e,settleN_fuel (pot b s) (pot b s'+1) s' h3 (by omega) (by omega)];rfl
theorem settle_end {b:Dk} {s:List Int} (h:mvStep b s=none):settle b s=(s,0):=by
  unfold settle;rw [settleN,h]
def settleL (b:Dk) (l:List Int):List Int:=if shareErr b l=0 then (settle b l).1 else []
def settleK (b:Dk) (l:List Int):Int:=if shareErr b l=0 then ((settle b l).2:Int) else 0
theorem pot_bd {b:Dk} {s:List Int} (hs:ShareOk b s):pot b s≤4000000000000:=by
  have hg:=box_good hs.box
  have:=potI_bd (b:=b) (l:=s) (fun r=>fee_bd hg r) (by rw [hs.len];exact hg.len)
  unfold pot;omega
theorem f36 (b:Dk) (l:List Int) (hb:Small b) (hl:l.length<4294967296):FG 36 [boxV b,ints l] (.tup [.own 1 ((settleL b l).map I),I (settleK b l),I (shareErr b l)]):=by
  by_cases h:shareErr b l=0
  · have hs:=shr_ok h
    have hg:=box_good hs.box
    have hcr:=hg.cr
    have hbl:=hg.len
    have hsl:=hs.len
    have h88:=f88_1 b l hb h
    have e1:settleL b l=(settle b l).1:=by simp only [settleL,h,if_true]
    have e2:settleK b l=((settle b l).2:Int):=by simp only [settleK,h,if_true]
    rw [h,e1,e2]
    refine gives_ofX Try.f36 ?_
    refine V_seq (V_region (S_go 4 (S_end (V_seq (V_region (S_go 2 (S_a [(8,.ret (PV.tup [(deskV b (feesOf b)).ref,I 0]) ([]))] (ap (h88) an) (S_go 5 (S_end (V_seq (V_seq (V_region (S_go 2 (S_end (V_false (V_skip (V_seq (V_region (S_go 1 (S_a [(0,.n (l.length))] (ap ((by simp):some (List.map I l).length=some l.length) an) (S_a [(4,.ob),(0,.ob),(1,.v (PV.own 1 (List.map I (List.replicate l.length 0))))] (ap ((by exact dec_of (by omega)):decide (l.length≤l.length)=true) (ap ((by exact dec_of (by simp [limit]<;>omega)):decide (l.length≤limit)=true) (ap ((by simp):PV.own 1 (List.replicate l.length (I 0))=PV.own 1 (List.map I (List.replicate l.length 0))) an))) (S_go 2 (S_end (V_seq (V_region (S_a [(1,.v (PV.bor 9 [(0,0)] 1 0 (List.replicate l.length 0).length))] (ap ((by simp):PV.bor 9 [(0,0)] 1 0 (List.map I (List.replicate l.length 0)).length=PV.bor 9 [(0,0)] 1 0 (List.replicate l.length 0).length) an) (S_go 1 (S_copyN (fun q => .box q) 9 1 ((List.replicate l.length 0).length) (List.map I (List.replicate l.length 0)) (List.map I l) (List.map I l) (by first | rfl | (simp;done) | omega) (fits_map fun _ _=>(by first | exact fits_one | exact ⟨rfl,rfl,rfl,rfl,Nat.le_refl _,rfl⟩)) (by simp<;>omega) (map_all (by simp<;>omega)) Lens.box (S_end (V_seq (V_region (S_go 1 (S_end (V_block 0 ?_))))))))))))))))))))))))))))))))))
    refine V_loopS (fun (n,s)=>ShareOk b s∧settle b l=((settle b s).1,(settle b s).2+n)∧n+pot b s≤pot b l) (fun (n,s)=>[(9,.box (.own 1 (s.map I))),(10,I (n:Nat))]) (fun (_,s)=>pot b s) ((0:Nat),l) ⟨hs,rfl,by omega⟩ fun (n,s) ⟨hss,hse,hsp⟩=>?_
    have hpb:=pot_bd hs
    have hsl2:=hss.len
    have h93:=f93_2 b (feesOf b) s (share_lt hss) (feesOf_bd hg) (by omega) (by rw [feesOf_len];exact hsl2)
    have hmv:=mv_ok hss hb
    have hY:=f130a hmv
    have hst:mvStep b s=match mvs b (feesOf b) (feeS b s) s s.length with | []=>none | m::_=>some (s.set m.1 (m.2:Int)):=rfl
    unfold mvLog at hY
    have hmem:=fun m=>mvs_mem (b:=b) (fee:=feesOf b) (f:=feeS b s) (s:=s) (n:=s.length) (m:=m)
    generalize mvs b (feesOf b) (feeS b s) s s.length=L at *
    unfold feeS at hY
    obtain ⟨x0,x1,x2,x3,hx⟩:=four_of (addF_len (fee:=feesOf b) (share:=s) s.length)
    rw [hx] at hY h93
    clear hmv
    cases L with
    | nil =>
      have hend:mvStep b s=none:=hst
      have hse2:=settle_end hend
      rw [hse,hse2]
      refine V_seq (V_block 1 (V_scope (V_seq (V_region (S_go 2 (S_end (V_seq (V_label (V_seq (V_seq (V_region (S_go 1 (S_a [(1,.v (PV.bor 9 [(0,0)] 1 0 s.length))] (ap ((by simp):PV.bor 9 [(0,0)] 1 0 (List.map I s).length=PV.bor 9 [(0,0)] 1 0 s.length) an) (S_a [(5,.ret (PV.func 130 [] ((PV.bor 50000000 [(0,0)] 1 0 s.length).ref::(mvCaps b (feesOf b) [x0,x1,x2,x3] []).tail)) ([(PV.own 1 (List.map I s)).box]))] (ap (h93) an) (S_end (V_block 2 ?_))))))))))))))))
      refine V_rangeRg (t:=32) (R:=[9]) hY ?_ (hcl:=?_)
      · simp only [List.map_nil,Rg]
        refine V_seq (V_region (S_go 2 (S_end (V_true (V_seq (V_region (S_a [(1,.v (PV.bor 9 [(0,0)] 1 0 s.length))] (ap ((by simp):PV.bor 9 [(0,0)] 1 0 (List.map I s).length=PV.bor 9 [(0,0)] 1 0 s.length) an) (S_go 1 (S_a [(2,.yes)] (ap ((by exact beq_of (by simp<;>omega)):(Nat.beq 0 0&&s.length.beq (List.map I s).length)=true) an) (S_go 2 (S_end (V_ret (E_a [(1,.yes),(1,.v (PV.own 1 (List.map I s)))] (ap ((by exact ble_of (by simp only [List.length_map,List.length_set,List.length_append,List.length_cons,List.length_nil,limit]<;>omega)):(0+(List.map I s).length).ble (List.map I s).length=true) (ap ((own_ext take_allL):PV.own 1 (List.take (List.map I s).length (List.drop 0 (List.map I s)))=PV.own 1 (List.map I s)) an)) (PV.tup [PV.own 1 (List.map I s),I (↑n:Int),I 0]) ([]) (by simp [*]) rfl)))))))))))))
      · have hlen7:s.length≤7:=by omega
        clear hsl2 hbl hsl
        clear hst hse hse2 hsp hss hY h93 hx hend
        rcases s with _ | ⟨y0,_ | ⟨y1,_ | ⟨y2,_ | ⟨y3,_ | ⟨y4,_ | ⟨y5,_ | ⟨y6,_ | ⟨y7,tl⟩⟩⟩⟩⟩⟩⟩⟩
        · show _=_
          kernel_rfl
        · show _=_
          kernel_rfl
        · show _=_
          kernel_rfl
        · show _=_
          kernel_rfl
        · show _=_
          kernel_rfl
        · show _=_
          kernel_rfl
        · show _=_
          kernel_rfl
        · show _=_
          kernel_rfl
        · exfalso;simp at hlen7
    | cons m ms =>
      have hstep:mvStep b s=some (s.set m.1 (m.2:Int)):=hst
      obtain ⟨g1,g2⟩:=mvStep_ok hss hstep
      have g3:=settle_step hss hstep
      obtain ⟨g4,g5,_⟩:=hmem m (by simp)
      clear hmem
      refine V_seq (V_block 1 (V_scope (V_seq (V_region (S_go 2 (S_end (V_seq (V_label (V_seq (V_seq (V_region (S_go 1 (S_a [(1,.v (PV.bor 9 [(0,0)] 1 0 s.length))] (ap ((by simp):PV.bor 9 [(0,0)] 1 0 (List.map I s).length=PV.bor 9 [(0,0)] 1 0 s.length) an) (S_a [(5,.ret (PV.func 130 [] ((PV.bor 50000000 [(0,0)] 1 0 s.length).ref::(mvCaps b (feesOf b) [x0,x1,x2,x3] []).tail)) ([(PV.own 1 (List.map I s)).box]))] (ap (h93) an) (S_end (V_block 2 ?_))))))))))))))))
      refine V_rangeRg (t:=32) (R:=[9]) hY ?_ (hcl:=?_)
      rotate_left
      · have hlen7:s.length≤7:=by omega
        clear hsl2 hbl hsl g1 g2 g3 g4 g5
        clear hst hse hsp hss hY h93 hx hstep
        rcases s with _ | ⟨y0,_ | ⟨y1,_ | ⟨y2,_ | ⟨y3,_ | ⟨y4,_ | ⟨y5,_ | ⟨y6,_ | ⟨y7,tl⟩⟩⟩⟩⟩⟩⟩⟩
        · show _=_
          kernel_rfl
        · show _=_
          kernel_rfl
        · show _=_
          kernel_rfl
        · show _=_
          kernel_rfl
        · show _=_
          kernel_rfl
        · show _=_
          kernel_rfl
        · show _=_
          kernel_rfl
        · show _=_
          kernel_rfl
        · exfalso;simp at hlen7
      simp only [List.map_cons,Rg]
      refine Round_mk ?_
      refine V_region (S_go 2 (S_end ?_))
      refine ⟨rfl,by kernel_rfl,?_⟩
      refine V_block 3 (V_seq (V_region (S_a [(1,.v (PV.bor 9 [(0,0)] 1 0 s.length))] (ap ((by simp):PV.bor 9 [(0,0)] 1 0 (List.map I s).length=PV.bor 9 [(0,0)] 1 0 s.length) an) (S_go 4 (S_a [(2,.ob),(1,.n (m.fst))] (ap ((by exact dec_of (by omega)):decide (m.fst<s.length)=true) (ap ((by simp):some (0+m.fst)=some m.fst) an)) (S_a [(8,.root ((PV.own 1 (List.map I (s.set m.fst (↑m.snd:Int)))).box) true)] (ap (wr_at (wr_in (p:=(PV.own 1 (List.map I s)).box) (xs:=[PV.own 1 (List.map I s)]) (x:=PV.own 1 (List.map I s)) (q:=PV.own 1 (List.map I s)) (q':=PV.own 1 (List.map I (s.set m.fst (↑m.snd:Int)))) (y:=PV.own 1 (List.map I (s.set m.fst (↑m.snd:Int)))) (p':=(PV.own 1 (List.map I (s.set m.fst (↑m.snd:Int)))).box) rfl (wr_end (q:=PV.own 1 (List.map I s)) (xs:=List.map I s) (x:=I (s.getD m.fst 0)) (y:=I (↑m.snd:Int)) (q':=PV.own 1 (List.map I (s.set m.fst (↑m.snd:Int)))) (getm (0) (by omega)) rfl (we_own (u:=(↑m.snd:Int)))) rfl rfl) rfl:writeAt (PV.own 1 (List.map I s)).box [(0,0)] m.fst 0 (I (↑m.snd:Int)).cells=some (PV.own 1 (List.map I (s.set m.fst (↑m.snd:Int)))).box∧keptView (PV.own 1 (List.map I s)).box (PV.own 1 (List.map I (s.set m.fst (↑m.snd:Int)))).box [(0,0)]=true) an) (S_go 1 (S_end (V_exit 2 ?_)))))))))
      refine ⟨by kernel_rfl,?_⟩
      refine V_seq (V_region (S_go 2 (S_end (V_false (V_skip (V_region (S_go 1 (S_a [(1,.v (I (↑(n+1):Int)))] (ap ((wrapE (by omega) (by omega)):I (IntKind.i64.wrap ((↑n:Int)+1))=I (↑(n+1):Int)) an) (S_go 1 (S_end ?_))))))))))
      exact ⟨(n+1,s.set m.1 (m.2:Int)),⟨g1,by rw [hse,g3];simp only;congr 1;omega,by show n+1+pot b (s.set m.1 (m.2:Int))≤pot b l;omega⟩,g2,by kernel_rfl,by kernel_rfl⟩
  · refine gives_ofX Try.f36 ?_
    refine V_seq (V_region (S_go 4 (S_end (V_seq (V_region (S_go 2 (S_a [(8,.ret (PV.tup [PV.nilp,I (shareErr b l)]) ([]))] (ap (f88_2 (b) (l) (by omega) (by omega) (by omega)) an) (S_go 5 (S_end (V_seq (V_seq (V_region (S_go 2 (S_end (V_ndecT (shareErr b l=0) (by omega) (V_seq (V_region (S_go 4 (S_end (V_ret (E_a [] an (PV.tup [PV.own 1 [],I 0,I (shareErr b l)]) ([]) ?_ rfl)))))))))))))))))))))
    simp only [settleL,settleK,h,if_false];rfl
end Go.Eng
set_option maxRecDepth 10000
set_option maxHeartbeats 4000000
namespace Go.Eng
open Go Go.Proofs
theorem movesL_ok {b:Dk} {l:List Int} (hs:ShareOk b l):movesL b l=mvs b (feesOf b) (feeS b l) l l.length:=by simp only [movesL,share_err hs,if_true]
theorem movesL_len {b:Dk} {l:List Int} (hs:ShareOk b l):(movesL b l).length≤28:=by
  have hg:=box_good hs.box
  have hbl:=hg.len
  have hcr:=hg.cr
  have hsl:=hs.len
  have:=mvs_len (b:=b) (fee:=feesOf b) (f:=feeS b l) (s:=l) l.length
  have h2:l.length*b.cr.toNat≤7*4:=Nat.mul_le_mul (by omega) (by omega)
  rw [movesL_ok hs];omega
end Go.Eng
set_option maxRecDepth 10000
set_option maxHeartbeats 4000000
namespace Go.Eng
open Go Go.Proofs
def mx (a b:Int):Int:=if b>a then b else a
def swOk (b:Dk) (fee f s:List Int) (x y:Nat):Bool:=decide (¬ s.getD x 0=s.getD y 0)&&(has (rnd b x).may (s.getD y 0)&&(has (rnd b y).may (s.getD x 0)&&decide (mx (f.getD (s.getD x 0).toNat 0+(fee.getD y 0-fee.getD x 0)) (f.getD (s.getD y 0).toNat 0-(fee.getD y 0-fee.getD x 0))<mx (f.getD (s.getD x 0).toNat 0) (f.getD (s.getD y 0).toNat 0))))
def swRow (b:Dk) (fee f s:List Int) (x k:Nat):List (Nat×Nat):=((List.range k).filter fun j=>swOk b fee f s x (x+1+j)).map fun j=>(x,x+1+j)
def sws (b:Dk) (fee f s:List Int) (n:Nat):List (Nat×Nat):=(List.range n).flatMap fun x=>swRow b fee f s x (s.length-(x+1))
theorem swRow_succ {b:Dk} {fee f s:List Int} {x k:Nat}:swRow b fee f s x (k+1)=swRow b fee f s x k++if swOk b fee f s x (x+1+k) then [(x,x+1+k)] else []:=by
  simp only [swRow,List.range_succ,List.filter_append,List.map_append]
  congr 1
  cases h:swOk b fee f s x (x+1+k)<;>simp [h]
theorem sws_succ {b:Dk} {fee f s:List Int} {x:Nat}:sws b fee f s (x+1)=sws b fee f s x++swRow b fee f s x (s.length-(x+1)):=by
  simp only [sws,List.range_succ,List.flatMap_append];simp
theorem swRow_len {b:Dk} {fee f s:List Int} {x k:Nat}:(swRow b fee f s x k).length≤k:=by
  simp only [swRow,List.length_map]
  exact Nat.le_trans (List.length_filter_le _ _) (by simp)
theorem sws_len {b:Dk} {fee f s:List Int}:∀ n,(sws b fee f s n).length≤n*s.length
  | 0=>by simp [sws]
  | n+1=>by
    have ih:=sws_len (b:=b) (fee:=fee) (f:=f) (s:=s) n
    have h:=swRow_len (b:=b) (fee:=fee) (f:=f) (s:=s) (x:=n) (k:=s.length-(n+1))
    rw [sws_succ,List.length_append,Nat.succ_mul];omega
def swapsL (b:Dk) (l:List Int):List (Nat×Nat):=if shareErr b l=0 then sws b (feesOf b) (feeS b l) l l.length else []
theorem feeS_bd {b:Dk} {s:List Int} (hs:ShareOk b s) (i:Nat):0≤(feeS b s).getD i 0∧(feeS b s).getD i 0≤7000:=by
  have hg:=box_good hs.box
  have:=addF_bd (share:=s) (feesOf_bd hg) s.length i
  have:=hs.len
  have:=hg.len
  unfold feeS;omega
section
variable [Yo]
theorem f34 (b:Dk) (l:List Int) (hb:Small b) (hl:l.length<4294967296):FG 34 [boxV b,ints l] (.tup [.own 2 ((swapsL b l).map mvV),I (shareErr b l)]):=by
  by_cases h:shareErr b l=0
  · have hs:=shr_ok h
    have hg:=box_good hs.box
    have hcr:=hg.cr
    have hbl:=hg.len
    have hsl:=hs.len
    have h88:=f88_1 b l hb h
    have hv:swapsL b l=sws b (feesOf b) (feeS b l) l l.length:=by simp only [swapsL,h,if_true]
    have hfl:(feesOf b).length=l.length:=by rw [feesOf_len];omega
    rw [h,hv]
    have h90:=f90 b (feesOf b) l (share_lt hs) (feesOf_bd hg) (by omega) (by omega)
    have hF:=feeS_bd hs
    have hFl:(feeS b l).length=4:=addF_len _
    replace h90:FG 90 [.ref (deskV b (feesOf b)),ints l] (.agg ((feeS b l).map I)):=h90
    generalize feeS b l=F at *
    obtain ⟨x0,x1,x2,x3,rfl⟩:=four_of hFl
    replace h90:FG 90 [.ref (deskV b (feesOf b)),ints l] (.agg [I x0,I x1,I x2,I x3]):=h90
    refine gives_ofX Try.f34 ?_
    refine V_seq (V_region (S_go 3 (S_end (V_seq (V_region (S_go 2 (S_a [(8,.ret (PV.tup [(deskV b (feesOf b)).ref,I 0]) ([]))] (ap (h88) an) (S_go 5 (S_end (V_seq (V_seq (V_region (S_go 2 (S_end (V_false (V_skip (V_seq (V_region (S_go 2 (S_a [(7,.ret (PV.agg [I x0,I x1,I x2,I x3]) ([]))] (ap (h90) an) (S_go 2 (S_end (V_seq (V_region (S_go 1 (S_end (V_seq (V_seq (V_region (S_go 1 (S_a [(0,.n (l.length))] (ap ((by simp):some (List.map I l).length=some l.length) an) (S_go 1 (S_end (V_block 0 ?_))))))))))))))))))))))))))))))))))
    refine V_loopS (fun (x,q)=>x≤l.length∧q=sws b (feesOf b) [x0,x1,x2,x3] l x) (fun (x,q)=>[(9,.own 2 (q.map mvV)),(29,I (x:Nat))]) (fun (x,_)=>l.length-x) ((0:Nat),([]:List (Nat×Nat))) ⟨Nat.zero_le _,rfl⟩ fun (x,q) ⟨hx,hq⟩=>?_
    clear h90 h88 hv
    have hql:q.length≤49:=by
      have:=sws_len (b:=b) (fee:=feesOf b) (f:=[x0,x1,x2,x3]) (s:=l) x
      have h2:x*l.length≤7*7:=Nat.mul_le_mul (by omega) (by omega)
      rw [hq];omega
    by_cases hxl:x<l.length
    · refine V_seq (V_region (S_go 1 (S_end (V_seq (V_decT ((↑x:Int)<(↑l.length:Int)) (by omega) (V_skip (V_seq (V_block 1 (V_seq (V_region (S_go 1 (S_a [(2,.v (I (l.getD x 0)))] (ap (getm (0) (by omega):(List.map I l)[x]? = some (I (l.getD x 0))) an) (S_go 3 (S_end (V_seq (V_region (S_go 1 (S_a [(1,.v (I (↑(x+1):Int)))] (ap ((wrapE (by omega) (by omega)):I (IntKind.i64.wrap ((↑x:Int)+1))=I (↑(x+1):Int)) an) (S_go 1 (S_end (V_block 2 ?_)))))))))))))))))))))
      refine V_loopS (fun (k,p)=>k≤l.length-(x+1)∧p=q++swRow b (feesOf b) [x0,x1,x2,x3] l x k) (fun (k,p)=>[(9,.own 2 (p.map mvV)),(12,I ((x+1+k:Nat)))]) (fun (k,_)=>l.length-(x+1)-k) ((0:Nat),q) ⟨Nat.zero_le _,by simp [swRow]⟩ fun (k,p) ⟨hk,hp⟩=>?_
      have hpl:p.length≤56:=by
        have:=swRow_len (b:=b) (fee:=feesOf b) (f:=[x0,x1,x2,x3]) (s:=l) (x:=x) (k:=k)
        rw [hp,List.length_append];omega
      by_cases hkl:x+1+k<l.length
      · have hxr:=getD_all (share_lt hs) x hxl
        have hyr:=getD_all (share_lt hs) (x+1+k) hkl
        have hf1:=hF (l.getD x 0).toNat
        have hf2:=hF (l.getD (x+1+k) 0).toNat
        have hf3:=feesOf_bd hg x
        have hf4:=feesOf_bd hg (x+1+k)
        have hok:swOk b (feesOf b) [x0,x1,x2,x3] l x (x+1+k)=(decide (¬ l.getD x 0=l.getD (x+1+k) 0)&&(has (rnd b x).may (l.getD (x+1+k) 0)&&(has (rnd b (x+1+k)).may (l.getD x 0)&&decide (mx ([x0,x1,x2,x3].getD (l.getD x 0).toNat 0+((feesOf b).getD (x+1+k) 0-(feesOf b).getD x 0)) ([x0,x1,x2,x3].getD (l.getD (x+1+k) 0).toNat 0-((feesOf b).getD (x+1+k) 0-(feesOf b).getD x 0))<mx ([x0,x1,x2,x3].getD (l.getD x 0).toNat 0) ([x0,x1,x2,x3].getD (l.getD (x+1+k) 0).toNat 0))))):=rfl
        have hno:swOk b (feesOf b) [x0,x1,x2,x3] l x (x+1+k)=false→p=q++swRow b (feesOf b) [x0,x1,x2,x3] l x (k+1):=fun h1=>by rw [swRow_succ,h1,hp];simp
        have hyes:swOk b (feesOf b) [x0,x1,x2,x3] l x (x+1+k)=true→p++[(x,x+1+k)]=q++swRow b (feesOf b) [x0,x1,x2,x3] l x (k+1):=fun h1=>by rw [swRow_succ,h1,hp];simp
        clear hF hq hp
        refine V_seq (V_seq (V_region (S_go 2 (S_a [(0,.n (l.length))] (ap ((by simp):some (List.map I l).length=some l.length) an) (S_go 1 (S_end (V_decT ((↑(x+1+k):Int)<(↑l.length:Int)) (by omega) (V_skip (V_seq (V_block 3 (V_seq (V_region (S_go 2 (S_a [(2,.v (I (l.getD (x+1+k) 0)))] (ap (getm (0) (by omega):(List.map I l)[x+1+k]? = some (I (l.getD (x+1+k) 0))) an) (S_go 6 (S_a [(2,.v (I ((feesOf b).getD (x+1+k) 0)))] (ap (getm (0) (by omega):(List.map I (feesOf b))[x+1+k]? = some (I ((feesOf b).getD (x+1+k) 0))) an) (S_go 6 (S_a [(2,.v (I ((feesOf b).getD x 0)))] (ap (getm (0) (by omega):(List.map I (feesOf b))[x]? = some (I ((feesOf b).getD x 0))) an) (S_go 1 (S_a [(1,.v (I ((feesOf b).getD (x+1+k) 0-(feesOf b).getD x 0)))] (ap ((wrapE rfl (by omega)):I (IntKind.i64.wrap ((feesOf b).getD (x+1+k) 0-(feesOf b).getD x 0))=I ((feesOf b).getD (x+1+k) 0-(feesOf b).getD x 0)) an) (S_go 2 (S_end (V_seq (V_region (S_go 4 (S_ndec 64 (l.getD x 0=l.getD (x+1+k) 0) (fun k1=>(S_go 3 (S_a [(9,.ret (PV.bool (has (rnd b x).may (l.getD (x+1+k) 0))) ([]))] (ap (f98 (b) (feesOf b) (l.getD (x+1+k) 0) (x) (by first | omega | (simp<;>omega)) (by omega)) an) (S_go 2 (S_case 70 (has (rnd b x).may (l.getD (x+1+k) 0)) (fun k2=>(S_go 3 (S_a [(9,.ret (PV.bool (has (rnd b (x+1+k)).may (l.getD x 0))) ([]))] (ap (f98 (b) (feesOf b) (l.getD x 0) (x+1+k) (by first | omega | (simp<;>omega)) (by omega)) an) (S_go 2 (S_case 76 (has (rnd b (x+1+k)).may (l.getD x 0)) (fun k3=>(S_go 1 (S_a [(0,.ob),(1,.ob)] (ap ((by exact dec_of (by omega)):decide (0≤l.getD x 0)=true) (ap ((by exact dec_of (by omega)):decide ((l.getD x 0).toNat<4)=true) an)) (S_a [(0,.cs true ([I ([x0,x1,x2,x3].getD (l.getD x 0).toNat 0)]))] (ap (rc_at (q:=(PV.agg [I x0,I x1,I x2,I x3]).box) (xs:=[PV.agg [I x0,I x1,I x2,I x3]]) (x:=PV.agg (List.map I [x0,x1,x2,x3])) rfl rfl (re_arr (c:=(l.getD x 0).toNat) (0) (by first | rfl | exact off_c1 (by kernel_rfl) | exact off_c2 (by kernel_rfl) | (simp;done)) (by omega)):readCells 8 (PV.agg [I x0,I x1,I x2,I x3]).box [] 0 (0+(l.getD x 0).toNat*(fun x=>x.size) Try.prog.types[3]) 1=some (true,[I ([x0,x1,x2,x3].getD (l.getD x 0).toNat 0)])) an) (S_go 1 (S_a [(1,.v (I ([x0,x1,x2,x3].getD (l.getD x 0).toNat 0+((feesOf b).getD (x+1+k) 0-(feesOf b).getD x 0))))] (ap ((wrapE rfl (by omega)):I (IntKind.i64.wrap ([x0,x1,x2,x3].getD (l.getD x 0).toNat 0+((feesOf b).getD (x+1+k) 0-(feesOf b).getD x 0)))=I ([x0,x1,x2,x3].getD (l.getD x 0).toNat 0+((feesOf b).getD (x+1+k) 0-(feesOf b).getD x 0))) an) (S_go 1 (S_a [(0,.ob),(1,.ob)] (ap ((by exact dec_of (by omega)):decide (0≤l.getD (x+1+k) 0)=true) (ap ((by exact dec_of (by omega)):decide ((l.getD (x+1+k) 0).toNat<4)=true) an)) (S_a [(0,.cs true ([I ([x0,x1,x2,x3].getD (l.getD (x+1+k) 0).toNat 0)]))] (ap (rc_at (q:=(PV.agg [I x0,I x1,I x2,I x3]).box) (xs:=[PV.agg [I x0,I x1,I x2,I x3]]) (x:=PV.agg (List.map I [x0,x1,x2,x3])) rfl rfl (re_arr (c:=(l.getD (x+1+k) 0).toNat) (0) (by first | rfl | exact off_c1 (by kernel_rfl) | exact off_c2 (by kernel_rfl) | (simp;done)) (by omega)):readCells 8 (PV.agg [I x0,I x1,I x2,I x3]).box [] 0 (0+(l.getD (x+1+k) 0).toNat*(fun x=>x.size) Try.prog.types[3]) 1=some (true,[I ([x0,x1,x2,x3].getD (l.getD (x+1+k) 0).toNat 0)])) an) (S_go 1 (S_a [(1,.v (I ([x0,x1,x2,x3].getD (l.getD (x+1+k) 0).toNat 0-((feesOf b).getD (x+1+k) 0-(feesOf b).getD x 0))))] (ap ((wrapE rfl (by omega)):I (IntKind.i64.wrap ([x0,x1,x2,x3].getD (l.getD (x+1+k) 0).toNat 0-((feesOf b).getD (x+1+k) 0-(feesOf b).getD x 0)))=I ([x0,x1,x2,x3].getD (l.getD (x+1+k) 0).toNat 0-((feesOf b).getD (x+1+k) 0-(feesOf b).getD x 0))) an) (S_go 2 (S_a [(0,.ob),(1,.ob)] (ap ((by exact dec_of (by omega)):decide (0≤l.getD x 0)=true) (ap ((by exact dec_of (by omega)):decide ((l.getD x 0).toNat<4)=true) an)) (S_a [(0,.cs true ([I ([x0,x1,x2,x3].getD (l.getD x 0).toNat 0)]))] (ap (rc_at (q:=(PV.agg [I x0,I x1,I x2,I x3]).box) (xs:=[PV.agg [I x0,I x1,I x2,I x3]]) (x:=PV.agg (List.map I [x0,x1,x2,x3])) rfl rfl (re_arr (c:=(l.getD x 0).toNat) (0) (by first | rfl | exact off_c1 (by kernel_rfl) | exact off_c2 (by kernel_rfl) | (simp;done)) (by omega)):readCells 8 (PV.agg [I x0,I x1,I x2,I x3]).box [] 0 (0+(l.getD x 0).toNat*(fun x=>x.size) Try.prog.types[3]) 1=some (true,[I ([x0,x1,x2,x3].getD (l.getD x 0).toNat 0)])) an) (S_go 1 (S_a [(0,.ob),(1,.ob)] (ap ((by exact dec_of (by omega)):decide (0≤l.getD (x+1+k) 0)=true) (ap ((by exact dec_of (by omega)):decide ((l.getD (x+1+k) 0).toNat<4)=true) an)) (S_a [(0,.cs true ([I ([x0,x1,x2,x3].getD (l.getD (x+1+k) 0).toNat 0)]))] (ap (rc_at (q:=(PV.agg [I x0,I x1,I x2,I x3]).box) (xs:=[PV.agg [I x0,I x1,I x2,I x3]]) (x:=PV.agg (List.map I [x0,x1,x2,x3])) rfl rfl (re_arr (c:=(l.getD (x+1+k) 0).toNat) (0) (by first | rfl | exact off_c1 (by kernel_rfl) | exact off_c2 (by kernel_rfl) | (simp;done)) (by omega)):readCells 8 (PV.agg [I x0,I x1,I x2,I x3]).box [] 0 (0+(l.getD (x+1+k) 0).toNat*(fun x=>x.size) Try.prog.types[3]) 1=some (true,[I ([x0,x1,x2,x3].getD (l.getD (x+1+k) 0).toNat 0)])) an) (S_go 3 (S_end (V_dec ((if [x0,x1,x2,x3].getD (l.getD (x+1+k) 0).toNat 0-((feesOf b).getD (x+1+k) 0-(feesOf b).getD x 0) > [x0,x1,x2,x3].getD (l.getD x 0).toNat 0+((feesOf b).getD (x+1+k) 0-(feesOf b).getD x 0) then [x0,x1,x2,x3].getD (l.getD (x+1+k) 0).toNat 0-((feesOf b).getD (x+1+k) 0-(feesOf b).getD x 0) else [x0,x1,x2,x3].getD (l.getD x 0).toNat 0+((feesOf b).getD (x+1+k) 0-(feesOf b).getD x 0))<if [x0,x1,x2,x3].getD (l.getD (x+1+k) 0).toNat 0 > [x0,x1,x2,x3].getD (l.getD x 0).toNat 0 then [x0,x1,x2,x3].getD (l.getD (x+1+k) 0).toNat 0 else [x0,x1,x2,x3].getD (l.getD x 0).toNat 0) (fun k4=>(V_region (S_go 5 (S_a [(4,.ob),(0,.ob),(0,.ob),(2,.v (PV.own 2 (List.map mvV (p++[(x,x+1+k)]))))] (ap ((by exact ble_of (by simp only [List.length_map,List.length_set,List.length_append,List.length_cons,List.length_nil,limit]<;>omega)):(0+(List.map mvV p).length).ble (List.map mvV p).length=true) (ap ((by exact ble_of (by simp only [List.length_map,List.length_set,List.length_append,List.length_cons,List.length_nil,limit]<;>omega)):((List.map mvV p).length + [PV.agg [I (↑x:Int),I (↑(x+1+k):Int)]].length).ble limit=true) (ap ((by exact beq_of (by simp<;>omega)):(0+(List.map mvV p).length).beq (List.map mvV p).length=true) (ap ((by simp):PV.own 2 (List.map mvV p++[PV.agg [I (↑x:Int),I (↑(x+1+k):Int)]])=PV.own 2 (List.map mvV (p++[(x,x+1+k)]))) an)))) (S_go 1 (S_end (V_region (S_go 1 (S_a [(1,.v (I (↑(x+1+k+1):Int)))] (ap ((wrapE (by omega) (by omega)):I (IntKind.i64.wrap ((↑(x+1+k):Int)+1))=I (↑(x+1+k+1):Int)) an) (S_go 1 (S_end ?_))))))))))) (fun k4=>(V_skip (V_region (S_go 1 (S_a [(1,.v (I (↑(x+1+k+1):Int)))] (ap ((wrapE (by omega) (by omega)):I (IntKind.i64.wrap ((↑(x+1+k):Int)+1))=I (↑(x+1+k+1):Int)) an) (S_go 1 (S_end ?_))))))))))))))))))))))))))) (fun k3=>(S_go 20 (S_end (V_false (V_skip (V_region (S_go 1 (S_a [(1,.v (I (↑(x+1+k+1):Int)))] (ap ((wrapE (by omega) (by omega)):I (IntKind.i64.wrap ((↑(x+1+k):Int)+1))=I (↑(x+1+k+1):Int)) an) (S_go 1 (S_end ?_))))))))))))))) (fun k2=>(S_go 26 (S_end (V_false (V_skip (V_region (S_go 1 (S_a [(1,.v (I (↑(x+1+k+1):Int)))] (ap ((wrapE (by omega) (by omega)):I (IntKind.i64.wrap ((↑(x+1+k):Int)+1))=I (↑(x+1+k+1):Int)) an) (S_go 1 (S_end ?_))))))))))))))) (fun k1=>(S_go 32 (S_end (V_false (V_skip (V_region (S_go 1 (S_a [(1,.v (I (↑(x+1+k+1):Int)))] (ap ((wrapE (by omega) (by omega)):I (IntKind.i64.wrap ((↑(x+1+k):Int)+1))=I (↑(x+1+k+1):Int)) an) (S_go 1 (S_end ?_))))))))))))))))))))))))))))))))))))
        · exact ⟨(k+1,p++[(x,x+1+k)]),⟨by omega,hyes (by rw [hok,k2,k3,decide_eq_true k1,decide_eq_true (show mx _ _<mx _ _ from k4)];rfl)⟩,by simp only;omega,by kernel_rfl,by kernel_rfl⟩
        · exact ⟨(k+1,p),⟨by omega,hno (by rw [hok,k2,k3,decide_eq_false (show ¬ mx _ _<mx _ _ from k4)];simp)⟩,by simp only;omega,by kernel_rfl,by kernel_rfl⟩
        · exact ⟨(k+1,p),⟨by omega,hno (by rw [hok,k3];simp)⟩,by simp only;omega,by kernel_rfl,by kernel_rfl⟩
        · exact ⟨(k+1,p),⟨by omega,hno (by rw [hok,k2];simp)⟩,by simp only;omega,by kernel_rfl,by kernel_rfl⟩
        · exact ⟨(k+1,p),⟨by omega,hno (by rw [hok,decide_eq_false (fun h=>h k1)];simp)⟩,by simp only;omega,by kernel_rfl,by kernel_rfl⟩
      · refine V_seq (V_seq (V_region (S_go 2 (S_a [(0,.n (l.length))] (ap ((by simp):some (List.map I l).length=some l.length) an) (S_go 1 (S_end (V_decF ((↑(x+1+k):Int)<(↑l.length:Int)) (by omega) (V_exit 2 (V_region (S_a [(1,.v (I (↑(x+1):Int)))] (ap ((wrapE (by omega) (by omega)):I (IntKind.i64.wrap ((↑x:Int)+1))=I (↑(x+1):Int)) an) (S_go 1 (S_end ?_))))))))))))
        exact ⟨(x+1,p),⟨by omega,by rw [hp,hq,sws_succ,show k=l.length-(x+1) by omega]⟩,by simp only;omega,by kernel_rfl,by kernel_rfl⟩
    · refine V_seq (V_region (S_go 1 (S_end (V_seq (V_decF ((↑x:Int)<(↑l.length:Int)) (by omega) (V_exit 0 (V_seq (V_region (S_go 1 (S_a [(2,.yes)] (ap ((by exact beq_of (by simp<;>omega)):(Nat.beq 0 0&&(List.map mvV q).length.beq (List.map mvV q).length)=true) an) (S_go 1 (S_end (V_ret (E_a [(1,.yes),(1,.v (PV.own 2 (List.map mvV q)))] (ap ((by exact ble_of (by simp only [List.length_map,List.length_set,List.length_append,List.length_cons,List.length_nil,limit]<;>omega)):(0+(List.map mvV q).length).ble (List.map mvV q).length=true) (ap ((own_ext take_allL):PV.own 2 (List.take (List.map mvV q).length (List.drop 0 (List.map mvV q)))=PV.own 2 (List.map mvV q)) an)) (PV.tup [PV.own 2 (List.map mvV q),I 0]) ([]) ?_ rfl))))))))))))))
      rw [hq,show x=l.length by omega]
  · refine gives_ofX Try.f34 ?_
    refine V_seq (V_region (S_go 3 (S_end (V_seq (V_region (S_go 2 (S_a [(8,.ret (PV.tup [PV.nilp,I (shareErr b l)]) ([]))] (ap (f88_2 (b) (l) (by omega) (by omega) (by omega)) an) (S_go 5 (S_end (V_seq (V_seq (V_region (S_go 2 (S_end (V_ndecT (shareErr b l=0) (by omega) (V_seq (V_region (S_go 3 (S_end (V_ret (E_a [] an (PV.tup [PV.own 2 [],I (shareErr b l)]) ([]) ?_ rfl)))))))))))))))))))))
    simp only [swapsL,h,if_false];rfl
end
end Go.Eng
set_option maxRecDepth 10000
set_option maxHeartbeats 4000000
namespace Go.Eng
open Go Go.Proofs
def swapd (l:List Int) (x y:Nat):List Int:=(l.set x (l.getD y 0)).set y (l.getD x 0)
theorem swapd_len (l:List Int) (x y:Nat):(swapd l x y).length=l.length:=by simp [swapd]
theorem swapd_earn {b:Dk} {l:List Int} {x y:Nat} (hxy:x<y) (hy:y<l.length) (hne:¬ l.getD x 0=l.getD y 0) :
    earnN b (swapd l x y) (l.getD x 0) l.length=earnN b l (l.getD x 0) l.length+(feeOf b (rnd b y)-feeOf b (rnd b x)) ∧
    earnN b (swapd l x y) (l.getD y 0) l.length=earnN b l (l.getD y 0) l.length-(feeOf b (rnd b y)-feeOf b (rnd b x)):=by
  have hx:x<l.length:=by omega
  have hg:(l.set x (l.getD y 0)).getD y 0=l.getD y 0:=by rw [getD_set,if_neg (by omega)]
  have hl:(l.set x (l.getD y 0)).length=l.length:=by simp
  have hne':¬ l.getD y 0=l.getD x 0:=fun h=>hne h.symm
  constructor
  · rw [earn_G,earn_G,swapd,earnG_set (by omega),hg,earnG_set hx]
    simp only [hx,hy,hne,hne',true_and,if_true,if_false];omega
  · rw [earn_G,earn_G,swapd,earnG_set (by omega),hg,earnG_set hx]
    simp only [hx,hy,hne,hne',true_and,if_true,if_false];omega
theorem mx_lt {a b m:Int}:decide (mx a b<m)=(decide (a<m)&&decide (b<m)):=by
  by_cases h1:a<m<;>by_cases h2:b<m<;>simp only [h1,h2,decide_true,decide_false,Bool.and_true,Bool.and_false]<;>simp only [decide_eq_true_eq,decide_eq_false_iff_not]<;>unfold mx<;>split<;>omega
theorem swOk_ref {b:Dk} {l:List Int} (hs:ShareOk b l) {x y:Nat} (hxy:x<y) (hy:y<l.length):swOk b (feesOf b) (feeS b l) l x y=(decide (¬ l.getD x 0=l.getD y 0)&&(has (rnd b x).may (l.getD y 0)&&(has (rnd b y).may (l.getD x 0)&&(decide (earnN b (swapd l x y) (l.getD x 0) l.length<mx (earnN b l (l.getD x 0) l.length) (earnN b l (l.getD y 0) l.length))&&decide (earnN b (swapd l x y) (l.getD y 0) l.length<mx (earnN b l (l.getD x 0) l.length) (earnN b l (l.getD y 0) l.length)))))):=by
  have hsl:=hs.len
  have hxr:=getD_all (share_lt hs) x (by omega)
  have hyr:=getD_all (share_lt hs) y hy
  unfold swOk
  by_cases hne:l.getD x 0=l.getD y 0
  · rw [decide_eq_false (fun h=>h hne),Bool.false_and,Bool.false_and]
  · obtain ⟨e1,e2⟩:=swapd_earn (b:=b) hxy hy hne
    rw [e1,e2,feeS_earn hs (by omega),feeS_earn hs (by omega),feesOf_at (by omega),feesOf_at (by omega),Int.toNat_of_nonneg hxr.1,Int.toNat_of_nonneg hyr.1,mx_lt]
    rfl
section
variable [Yo]
end
end Go.Eng
namespace Go.Eng
open Go Go.Proofs
abbrev u8 (n:Int):PV := .int .u8 n
abbrev u32 (n:Int):PV := .int .u32 n
abbrev bellV (l:List Int) (a:Nat) (t:Int):PV := .box (.agg [.sl (l.map u8),I a,u32 t])
abbrev bellW:PV := .addr 50000000 [] 0 0 (some 3)
def BellOk (l:List Int) (a:Nat):Prop:=a≤l.length∧l.length<9223372036854775808
def ringA0 (l:List Int) (a:Nat):Nat:=if a=l.length then 0 else a
def ringT (l:List Int) (a:Nat) (t:Int):Int:=if a=l.length then IntKind.u32.wrap (t+1) else t
def ringA (l:List Int) (a:Nat):Nat:=if 0<l.length then ringA0 l a+1 else ringA0 l a
theorem ringA_ok {l:List Int} {a:Nat} (h:BellOk l a):BellOk l (ringA l a):=by
  obtain ⟨h1,h2⟩:=h
  refine ⟨?_,h2⟩
  unfold ringA ringA0
  repeat' split
  all_goals omega
def bellN (n:Int):Int:=IntKind.u32.wrap ↑(BitVec.ofInt IntKind.u32.bits (IntKind.u32.wrap ↑(BitVec.ofInt IntKind.u32.bits n ^^^ BitVec.ofInt IntKind.u32.bits (n.fdiv (2 ^ min (Int.toNat 7) IntKind.u32.bits))).toNat) &&& BitVec.ofInt IntKind.u32.bits 65535).toNat
theorem bellN_bd (n:Int):0≤bellN n∧bellN n≤65535:=by
  unfold bellN
  generalize BitVec.ofInt IntKind.u32.bits (IntKind.u32.wrap ↑(BitVec.ofInt IntKind.u32.bits n ^^^ BitVec.ofInt IntKind.u32.bits (n.fdiv (2 ^ min (Int.toNat 7) IntKind.u32.bits))).toNat)=x
  have h:(x &&& BitVec.ofInt IntKind.u32.bits 65535).toNat≤65535:=by
    rw [BitVec.toNat_and]
    exact Nat.le_trans Nat.and_le_right (by decide)
  generalize (x &&& BitVec.ofInt IntKind.u32.bits 65535).toNat=m at h
  have:IntKind.u32.wrap (m:Int)=m:=by
    simp only [IntKind.wrap]
    simp [IntKind.signed,IntKind.bits]
    omega
  rw [this];omega
def ringN (l:List Int) (a:Nat) (t:Int):Int:=bellN (if 0<l.length then IntKind.u32.wrap (IntKind.u32.wrap (30011*ringT l a t)+IntKind.u32.wrap (263*IntKind.u32.wrap (l.getD (ringA0 l a) 0))) else IntKind.u32.wrap (30011*ringT l a t))
theorem ringN_bd (l:List Int) (a:Nat) (t:Int):0≤ringN l a t∧ringN l a t≤65535:=bellN_bd _
def strokeN (l:List Int) (a:Nat) (t:Int) (n:Int):Int:=(ringN l a t).tmod (max 1 (n+1))
theorem strokeN_bd (l:List Int) (a:Nat) (t:Int) (n:Int):0≤strokeN l a t n∧strokeN l a t n≤max 0 n:=by
  have h1:=ringN_bd l a t
  have h2:0<max 1 (n+1):=by omega
  have h3:=Int.tmod_nonneg (max 1 (n+1)) h1.1
  have h4:=Int.tmod_lt_of_pos (ringN l a t) h2
  unfold strokeN
  omega
section
variable [Yo]
theorem f22 (l:List Int):FG 22 [.sl (l.map u8)] (bellV l 0 0):=by
  refine gives_ofX Try.f22 ?_
  refine V_seq (V_region (S_go 1 (S_end (V_seq (V_region (S_go 4 (S_end (V_ret (E_a [] an ((PV.agg [PV.sl (List.map u8 l),I 0,PV.int IntKind.u32 0]).box) ([]) rfl rfl)))))))))
theorem f86 (l:List Int) (a:Nat) (t:Int) (h:BellOk l a):Gives Try.prog feeH 86 [bellW] [bellV l a t] (I (ringN l a t)) [bellV l (ringA l a) (ringT l a t)]:=by
  refine gives_ofX Try.f86 ?_
  have h1:=h.1
  have h2:=h.2
  have hb:∀ n,-9223372036854775808≤bellN n∧bellN n<9223372036854775808:=fun n=>by have:=bellN_bd n;omega
  refine V_seq (V_region (S_go 1 (S_end (V_seq (V_seq (V_region (S_go 8 (S_a [(0,.n (l.length))] (ap ((by simp):some (List.map u8 l).length=some l.length) an) (S_go 1 (S_end (V_dec ((↑a:Int)=(↑l.length:Int)) (fun k0=>(V_region (S_go 6 (S_go 1 (S_go 6 (S_end (V_seq (V_region (S_go 3 (S_go 1 (S_go 1 (S_go 1 (S_end (V_seq (V_seq (V_region (S_go 4 (S_a [(0,.n (l.length))] (ap ((by simp):some (List.map u8 l).length=some l.length) an) (S_go 1 (S_end (V_dec ((↑l.length:Int)>0) (fun k1=>(V_seq (V_region (S_go 9 (S_a [(2,.v (PV.int IntKind.u8 (l.getD 0 0)))] (ap (getm (0) (by omega):(List.map u8 l)[0]? = some (PV.int IntKind.u8 (l.getD 0 0))) an) (S_go 1 (S_go 1 (S_go 1 (S_go 1 (S_go 1 (S_end (V_region (S_go 8 (S_end (V_seq (V_region (S_go 2 (S_go 1 (S_go 1 (S_go 1 (S_a [(0,.v (I (IntKind.u32.wrap (↑(BitVec.ofInt IntKind.u32.bits (IntKind.u32.wrap (↑(BitVec.ofInt IntKind.u32.bits (IntKind.u32.wrap (IntKind.u32.wrap (30011*IntKind.u32.wrap (t+1))+IntKind.u32.wrap (263*IntKind.u32.wrap (l.getD 0 0)))) ^^^ BitVec.ofInt IntKind.u32.bits ((IntKind.u32.wrap (IntKind.u32.wrap (30011*IntKind.u32.wrap (t+1))+IntKind.u32.wrap (263*IntKind.u32.wrap (l.getD 0 0)))).fdiv (2 ^ min (Int.toNat 7) IntKind.u32.bits))).toNat:Int)) &&& BitVec.ofInt IntKind.u32.bits 65535).toNat:Int))))] (ap ((wrapE rfl ?_):I (IntKind.i64.wrap (IntKind.u32.wrap (↑(BitVec.ofInt IntKind.u32.bits (IntKind.u32.wrap (↑(BitVec.ofInt IntKind.u32.bits (IntKind.u32.wrap (IntKind.u32.wrap (30011*IntKind.u32.wrap (t+1))+IntKind.u32.wrap (263*IntKind.u32.wrap (l.getD 0 0)))) ^^^ BitVec.ofInt IntKind.u32.bits ((IntKind.u32.wrap (IntKind.u32.wrap (30011*IntKind.u32.wrap (t+1))+IntKind.u32.wrap (263*IntKind.u32.wrap (l.getD 0 0)))).fdiv (2 ^ min (Int.toNat 7) IntKind.u32.bits))).toNat:Int)) &&& BitVec.ofInt IntKind.u32.bits 65535).toNat:Int)))=I (IntKind.u32.wrap (↑(BitVec.ofInt IntKind.u32.bits (IntKind.u32.wrap (↑(BitVec.ofInt IntKind.u32.bits (IntKind.u32.wrap (IntKind.u32.wrap (30011*IntKind.u32.wrap (t+1))+IntKind.u32.wrap (263*IntKind.u32.wrap (l.getD 0 0)))) ^^^ BitVec.ofInt IntKind.u32.bits ((IntKind.u32.wrap (IntKind.u32.wrap (30011*IntKind.u32.wrap (t+1))+IntKind.u32.wrap (263*IntKind.u32.wrap (l.getD 0 0)))).fdiv (2 ^ min (Int.toNat 7) IntKind.u32.bits))).toNat:Int)) &&& BitVec.ofInt IntKind.u32.bits 65535).toNat:Int))) an) (S_go 1 (S_end (V_ret (E_a [] an (I (IntKind.u32.wrap (↑(BitVec.ofInt IntKind.u32.bits (IntKind.u32.wrap (↑(BitVec.ofInt IntKind.u32.bits (IntKind.u32.wrap (IntKind.u32.wrap (30011*IntKind.u32.wrap (t+1))+IntKind.u32.wrap (263*IntKind.u32.wrap (l.getD 0 0)))) ^^^ BitVec.ofInt IntKind.u32.bits ((IntKind.u32.wrap (IntKind.u32.wrap (30011*IntKind.u32.wrap (t+1))+IntKind.u32.wrap (263*IntKind.u32.wrap (l.getD 0 0)))).fdiv (2 ^ min (Int.toNat 7) IntKind.u32.bits))).toNat:Int)) &&& BitVec.ofInt IntKind.u32.bits 65535).toNat:Int))) ([(PV.agg [PV.sl (List.map u8 l),I (IntKind.i64.wrap (0+1)),PV.int IntKind.u32 (IntKind.u32.wrap (t+1))]).box]) ?_ ?_))))))))))))))))))))))))) (fun k1=>(V_skip (V_seq (V_region (S_go 2 (S_go 1 (S_go 1 (S_go 1 (S_a [(0,.v (I (IntKind.u32.wrap (↑(BitVec.ofInt IntKind.u32.bits (IntKind.u32.wrap (↑(BitVec.ofInt IntKind.u32.bits (IntKind.u32.wrap (30011*IntKind.u32.wrap (t+1))) ^^^ BitVec.ofInt IntKind.u32.bits ((IntKind.u32.wrap (30011*IntKind.u32.wrap (t+1))).fdiv (2 ^ min (Int.toNat 7) IntKind.u32.bits))).toNat:Int)) &&& BitVec.ofInt IntKind.u32.bits 65535).toNat:Int))))] (ap ((wrapE rfl ?_):I (IntKind.i64.wrap (IntKind.u32.wrap (↑(BitVec.ofInt IntKind.u32.bits (IntKind.u32.wrap (↑(BitVec.ofInt IntKind.u32.bits (IntKind.u32.wrap (30011*IntKind.u32.wrap (t+1))) ^^^ BitVec.ofInt IntKind.u32.bits ((IntKind.u32.wrap (30011*IntKind.u32.wrap (t+1))).fdiv (2 ^ min (Int.toNat 7) IntKind.u32.bits))).toNat:Int)) &&& BitVec.ofInt IntKind.u32.bits 65535).toNat:Int)))=I (IntKind.u32.wrap (↑(BitVec.ofInt IntKind.u32.bits (IntKind.u32.wrap (↑(BitVec.ofInt IntKind.u32.bits (IntKind.u32.wrap (30011*IntKind.u32.wrap (t+1))) ^^^ BitVec.ofInt IntKind.u32.bits ((IntKind.u32.wrap (30011*IntKind.u32.wrap (t+1))).fdiv (2 ^ min (Int.toNat 7) IntKind.u32.bits))).toNat:Int)) &&& BitVec.ofInt IntKind.u32.bits 65535).toNat:Int))) an) (S_go 1 (S_end (V_ret (E_a [] an (I (IntKind.u32.wrap (↑(BitVec.ofInt IntKind.u32.bits (IntKind.u32.wrap (↑(BitVec.ofInt IntKind.u32.bits (IntKind.u32.wrap (30011*IntKind.u32.wrap (t+1))) ^^^ BitVec.ofInt IntKind.u32.bits ((IntKind.u32.wrap (30011*IntKind.u32.wrap (t+1))).fdiv (2 ^ min (Int.toNat 7) IntKind.u32.bits))).toNat:Int)) &&& BitVec.ofInt IntKind.u32.bits 65535).toNat:Int))) ([(PV.agg [PV.sl (List.map u8 l),I 0,PV.int IntKind.u32 (IntKind.u32.wrap (t+1))]).box]) ?_ ?_)))))))))))))))))))))))))))))))))) (fun k0=>(V_skip (V_seq (V_region (S_go 4 (S_go 1 (S_go 1 (S_end (V_seq (V_seq (V_region (S_go 4 (S_a [(0,.n (l.length))] (ap ((by simp):some (List.map u8 l).length=some l.length) an) (S_go 1 (S_end (V_decT ((↑l.length:Int)>0) (by omega) (V_seq (V_region (S_go 9 (S_a [(2,.v (PV.int IntKind.u8 (l.getD a 0)))] (ap (getm (0) (by omega):(List.map u8 l)[a]? = some (PV.int IntKind.u8 (l.getD a 0))) an) (S_go 1 (S_go 1 (S_go 1 (S_go 1 (S_go 1 (S_end (V_region (S_go 4 (S_a [(1,.v (I (↑(a+1):Int)))] (ap ((wrapE (by omega) (by omega)):I (IntKind.i64.wrap ((↑a:Int)+1))=I (↑(a+1):Int)) an) (S_go 3 (S_end (V_seq (V_region (S_go 2 (S_go 1 (S_go 1 (S_go 1 (S_a [(0,.v (I (IntKind.u32.wrap (↑(BitVec.ofInt IntKind.u32.bits (IntKind.u32.wrap (↑(BitVec.ofInt IntKind.u32.bits (IntKind.u32.wrap (IntKind.u32.wrap (30011*t)+IntKind.u32.wrap (263*IntKind.u32.wrap (l.getD a 0)))) ^^^ BitVec.ofInt IntKind.u32.bits ((IntKind.u32.wrap (IntKind.u32.wrap (30011*t)+IntKind.u32.wrap (263*IntKind.u32.wrap (l.getD a 0)))).fdiv (2 ^ min (Int.toNat 7) IntKind.u32.bits))).toNat:Int)) &&& BitVec.ofInt IntKind.u32.bits 65535).toNat:Int))))] (ap ((wrapE rfl ?_):I (IntKind.i64.wrap (IntKind.u32.wrap (↑(BitVec.ofInt IntKind.u32.bits (IntKind.u32.wrap (↑(BitVec.ofInt IntKind.u32.bits (IntKind.u32.wrap (IntKind.u32.wrap (30011*t)+IntKind.u32.wrap (263*IntKind.u32.wrap (l.getD a 0)))) ^^^ BitVec.ofInt IntKind.u32.bits ((IntKind.u32.wrap (IntKind.u32.wrap (30011*t)+IntKind.u32.wrap (263*IntKind.u32.wrap (l.getD a 0)))).fdiv (2 ^ min (Int.toNat 7) IntKind.u32.bits))).toNat:Int)) &&& BitVec.ofInt IntKind.u32.bits 65535).toNat:Int)))=I (IntKind.u32.wrap (↑(BitVec.ofInt IntKind.u32.bits (IntKind.u32.wrap (↑(BitVec.ofInt IntKind.u32.bits (IntKind.u32.wrap (IntKind.u32.wrap (30011*t)+IntKind.u32.wrap (263*IntKind.u32.wrap (l.getD a 0)))) ^^^ BitVec.ofInt IntKind.u32.bits ((IntKind.u32.wrap (IntKind.u32.wrap (30011*t)+IntKind.u32.wrap (263*IntKind.u32.wrap (l.getD a 0)))).fdiv (2 ^ min (Int.toNat 7) IntKind.u32.bits))).toNat:Int)) &&& BitVec.ofInt IntKind.u32.bits 65535).toNat:Int))) an) (S_go 1 (S_end (V_ret (E_a [] an (I (IntKind.u32.wrap (↑(BitVec.ofInt IntKind.u32.bits (IntKind.u32.wrap (↑(BitVec.ofInt IntKind.u32.bits (IntKind.u32.wrap (IntKind.u32.wrap (30011*t)+IntKind.u32.wrap (263*IntKind.u32.wrap (l.getD a 0)))) ^^^ BitVec.ofInt IntKind.u32.bits ((IntKind.u32.wrap (IntKind.u32.wrap (30011*t)+IntKind.u32.wrap (263*IntKind.u32.wrap (l.getD a 0)))).fdiv (2 ^ min (Int.toNat 7) IntKind.u32.bits))).toNat:Int)) &&& BitVec.ofInt IntKind.u32.bits 65535).toNat:Int))) ([(PV.agg [PV.sl (List.map u8 l),I (↑(a+1):Int),PV.int IntKind.u32 t]).box]) ?_ ?_)))))))))))))))))))))))))))))))))))))))))))))))))))))
  · exact hb _
  · have e1:a=l.length:=by omega
    have e2:0<l.length:=by omega
    simp only [ringN,ringA0,ringT,e1,e2,if_true];rfl
  · have e1:a=l.length:=by omega
    have e2:0<l.length:=by omega
    simp only [ringA,ringA0,ringT,e1,e2,if_true];rfl
  · exact hb _
  · have e1:a=l.length:=by omega
    have e2:¬ 0<l.length:=by omega
    simp only [ringN,ringA0,ringT,e1,e2,if_true,if_false];rfl
  · have e1:a=l.length:=by omega
    have e2:¬ 0<l.length:=by omega
    simp only [ringA,ringA0,ringT,e1,e2,if_true,if_false];rfl
  · exact hb _
  · have e1:¬ a=l.length:=by omega
    have e2:0<l.length:=by omega
    simp only [ringN,ringA0,ringT,e1,e2,if_true,if_false];rfl
  · have e1:¬ a=l.length:=by omega
    have e2:0<l.length:=by omega
    simp only [ringA,ringA0,ringT,e1,e2,if_true,if_false]
theorem f24 (l:List Int) (a:Nat) (t:Int) (n:Int) (h:BellOk l a) (hn : -9000000000000000000≤n∧n≤9000000000000000000):Gives Try.prog feeH 24 [bellW,I n] [bellV l a t] (I (strokeN l a t n)) [bellV l (ringA l a) (ringT l a t)]:=by
  refine gives_ofX Try.f24 ?_
  have e:(if n+1>1 then n+1 else 1)=max 1 (n+1):=by split<;>omega
  refine V_seq (V_region (S_go 1 (S_end (V_seq (V_region (S_go 1 (S_a [(4,.ret (I (ringN l a t)) ([bellV l (ringA l a) (ringT l a t)]))] (ap (f86 (l) (a) (t) (by omega)) an) (S_go 1 (S_a [(1,.v (I (n+1)))] (ap ((wrapE rfl (by omega)):I (IntKind.i64.wrap (n+1))=I (n+1)) an) (S_go 1 (S_a [(0,.v (I ((ringN l a t).tmod (if n+1>1 then n+1 else 1))))] (ap (bv_rem (by omega) rfl:binV Try.prog BinOp.rem 3 (I (ringN l a t)) (I (if n+1>1 then n+1 else 1))=some (I ((ringN l a t).tmod (if n+1>1 then n+1 else 1)))) an) (S_go 1 (S_end (V_ret (E_a [] an (I ((ringN l a t).tmod (if n+1>1 then n+1 else 1))) ([(PV.agg [PV.sl (List.map u8 l),I (↑(ringA l a):Int),PV.int IntKind.u32 (ringT l a t)]).box]) ?_ rfl)))))))))))))))
  rw [e];rfl
theorem f27 (l:List Int) (a:Nat) (t:Int) (lo hi:Int) (h:BellOk l a) (hl:0≤lo∧lo≤1000000) (hn:0≤hi∧hi≤1000000):Gives Try.prog feeH 27 [bellW,I lo,I hi] [bellV l a t] (I (lo+strokeN l a t (hi-lo))) [bellV l (ringA l a) (ringT l a t)]:=by
  refine gives_ofX Try.f27 ?_
  have:=strokeN_bd l a t (hi-lo)
  refine V_seq (V_region (S_go 1 (S_end (V_seq (V_region (S_go 4 (S_a [(1,.v (I (hi-lo)))] (ap ((wrapE rfl (by omega)):I (IntKind.i64.wrap (hi-lo))=I (hi-lo)) an) (S_a [(6,.ret (I (strokeN l a t (hi-lo))) ([bellV l (ringA l a) (ringT l a t)]))] (ap (f24 (l) (a) (t) (hi-lo) (by omega) (by omega)) an) (S_a [(1,.v (I (lo+strokeN l a t (hi-lo))))] (ap ((wrapE rfl (by omega)):I (IntKind.i64.wrap (lo+strokeN l a t (hi-lo)))=I (lo+strokeN l a t (hi-lo))) an) (S_go 1 (S_end (V_ret (E_a [] an (I (lo+strokeN l a t (hi-lo))) ([(PV.agg [PV.sl (List.map u8 l),I (↑(ringA l a):Int),PV.int IntKind.u32 (ringT l a t)]).box]) rfl rfl)))))))))))))
theorem f28 (l:List Int) (a:Nat) (t:Int) (n:Int) (h:BellOk l a) (hn:0≤n∧n≤1000000):Gives Try.prog feeH 28 [bellW,I n] [bellV l a t] (.bool (decide (strokeN l a t (n-1)=0))) [bellV l (ringA l a) (ringT l a t)]:=by
  refine gives_ofX Try.f28 ?_
  refine V_seq (V_region (S_go 1 (S_end (V_seq (V_region (S_go 2 (S_a [(1,.v (I (n-1)))] (ap ((wrapE rfl (by omega)):I (IntKind.i64.wrap (n-1))=I (n-1)) an) (S_a [(6,.ret (I (strokeN l a t (n-1))) ([bellV l (ringA l a) (ringT l a t)]))] (ap (f24 (l) (a) (t) (n-1) (by omega) (by omega)) an) (S_go 2 (S_end (V_ret (E_a [] an (PV.bool (strokeN l a t (n-1)==0)) ([(PV.agg [PV.sl (List.map u8 l),I (↑(ringA l a):Int),PV.int IntKind.u32 (ringT l a t)]).box]) rfl rfl))))))))))))
end
end Go.Eng
set_option maxRecDepth 10000
set_option maxHeartbeats 4000000
namespace Go.Eng
open Go Go.Proofs
theorem good_box {b:Dk} (h:Good b):boxErr b=0:=by
  have h1:(!(decide (1≤b.cr)&&decide (b.cr≤4)))=false:=by have:=h.cr;simp;omega
  have h2:¬ (b.rs.length:Int)>7:=by have:=h.len;omega
  have h3:(!(decide (0≤b.wd)&&decide (b.wd≤20)))=false:=by have:=h.wd;simp;omega
  have h4:(!(decide (0≤b.st)&&decide (b.st≤20)))=false:=by have:=h.st;simp;omega
  have h5:(!(decide (0≤b.fn)&&decide (b.fn≤20)))=false:=by have:=h.fn;simp;omega
  have h6:(!b.rs.all rndNum)=false:=by
    simp only [Bool.not_eq_false',List.all_eq_true]
    intro r hr
    have:=h.num r hr
    simp [rndNum];omega
  have h7:∀ rs:List Rnd,(∀ r∈rs,r∈b.rs)→rndsErr b.cr rs=0:=by
    intro rs
    induction rs with
    | nil=>intro _;rfl
    | cons r rs ih =>
      intro hm
      have h8:=h.may r (hm r (by simp))
      have h9:(!r.may.all (fun x=>decide (0≤x)&&decide (x≤b.cr-1)))=false:=by
        simp only [Bool.not_eq_false',List.all_eq_true]
        intro x hx;have:=h8.2.1 x hx;simp;omega
      have e:rndErr b.cr r=0:=by simp only [rndErr,h8.1,h9,h8.2.2,if_false];rfl
      simp only [rndsErr,e,if_true]
      exact ih fun q hq=>hm q (by simp [hq])
  simp only [boxErr,h1,h2,h3,h4,h5,h6,if_false]
  exact h7 _ fun _ h=>h
theorem incr_app {l:List Int} {x:Int} (h:incr l=true) (hx:∀ y∈l,y<x):incr (l++[x])=true:=by
  refine incr_t fun j hj=>?_
  simp only [List.length_append,List.length_singleton] at hj
  rcases Nat.lt_or_ge (j+1) l.length with h1 | h1
  · have:=incr_get h h1
    simpa [List.getD_eq_getElem?_getD,List.getElem?_append_left h1,List.getElem?_append_left (show j<l.length by omega)] using this
  · have e:l.length=j+1:=by omega
    have h2:l.getD j 0<x:=hx _ (by rw [getD_lt (by omega)];exact List.getElem_mem _)
    have e2:(l++[x]).getD (j+1) 0=x:=by rw [← e];simp
    have e3:(l++[x]).getD j 0=l.getD j 0:=by simp [List.getD_eq_getElem?_getD,List.getElem?_append_left (show j<l.length by omega)]
    rw [e2,e3];exact h2
theorem incr_len {l:List Int} {n:Int} (h:incr l=true) (hx:∀ x∈l,0≤x∧x≤n-1) (hn:1≤n∧n≤4):l.length≤4:=by
  have:∀ j,j<l.length→(j:Int)≤l.getD j 0:=by
    intro j
    induction j with
    | zero=>intro hj;exact (getD_all hx 0 hj).1
    | succ j ih =>
      intro hj
      have h1:=ih (by omega)
      have h2:=incr_get h hj
      omega
  rcases Nat.lt_or_ge 4 l.length with h4 | h4
  · have h1:=this 4 h4
    have h2:=getD_all hx 4 h4
    omega
  · exact h4
abbrev boxO (b:Dk):PV := .agg [I b.cr,I b.wd,I b.st,I b.fn,.own 3 (b.rs.map rndO)]
structure RndOk (cr:Int) (r:Rnd):Prop where
  w:1≤r.w∧r.w≤9
  s:1≤r.s∧r.s≤5
  n:r.may.length≠0
  may:∀ x∈r.may,0≤x∧x≤cr-1
  inc:incr r.may=true
section
variable [Yo]
theorem f21_ex (l:List Int) (a:Nat) (t n:Int) (h:BellOk l a) (hn:0≤n∧n≤7):∃ v h',Gives Try.prog feeH 21 [bellW,I n] [bellV l a t] v h'∧∃ b a' t',v=boxO b∧h'=[bellV l a' t']∧Good b∧(b.rs.length:Int)≤n∧BellOk l a':=by
  refine gives_exX Try.f21 _ ?_
  have g1:=ringA_ok h
  have g2:=ringA_ok g1
  have g3:=ringA_ok g2
  have g4:=ringA_ok g3
  have g5:=ringA_ok g4
  have s1:=strokeN_bd l a t (4-1)
  have s2:=strokeN_bd l (ringA l a) (ringT l a t) 4
  have s3:=strokeN_bd l (ringA l (ringA l a)) (ringT l (ringA l a) (ringT l a t)) 6
  have s4:=strokeN_bd l (ringA l (ringA l (ringA l a))) (ringT l (ringA l (ringA l a)) (ringT l (ringA l a) (ringT l a t))) 3
  have s5:=strokeN_bd l (ringA l (ringA l (ringA l (ringA l a)))) (ringT l (ringA l (ringA l (ringA l a))) (ringT l (ringA l (ringA l a)) (ringT l (ringA l a) (ringT l a t)))) n
  refine V_seq (V_region (S_go 1 (S_end (V_seq (V_region (S_go 1 (S_a [(8,.ret (I (1+strokeN l a t (4-1))) ([bellV l (ringA l a) (ringT l a t)]))] (ap (f27 (l) (a) (t) (1) (4) (by omega) (by omega) (by omega)) an) (S_go 1 (S_a [(6,.ret (I (strokeN l (ringA l a) (ringT l a t) 4)) ([bellV l (ringA l (ringA l a)) (ringT l (ringA l a) (ringT l a t))]))] (ap (f24 (l) (ringA l a) (ringT l a t) (4) (by omega) (by omega)) an) (S_go 1 (S_a [(6,.ret (I (strokeN l (ringA l (ringA l a)) (ringT l (ringA l a) (ringT l a t)) 6)) ([bellV l (ringA l (ringA l (ringA l a))) (ringT l (ringA l (ringA l a)) (ringT l (ringA l a) (ringT l a t)))]))] (ap (f24 (l) (ringA l (ringA l a)) (ringT l (ringA l a) (ringT l a t)) (6) (by omega) (by omega)) an) (S_go 1 (S_a [(6,.ret (I (strokeN l (ringA l (ringA l (ringA l a))) (ringT l (ringA l (ringA l a)) (ringT l (ringA l a) (ringT l a t))) 3)) ([bellV l (ringA l (ringA l (ringA l (ringA l a)))) (ringT l (ringA l (ringA l (ringA l a))) (ringT l (ringA l (ringA l a)) (ringT l (ringA l a) (ringT l a t))))]))] (ap (f24 (l) (ringA l (ringA l (ringA l a))) (ringT l (ringA l (ringA l a)) (ringT l (ringA l a) (ringT l a t))) (3) (by omega) (by omega)) an) (S_go 3 (S_end (V_seq (V_seq (V_region (S_go 2 (S_a [(6,.ret (I (strokeN l (ringA l (ringA l (ringA l (ringA l a)))) (ringT l (ringA l (ringA l (ringA l a))) (ringT l (ringA l (ringA l a)) (ringT l (ringA l a) (ringT l a t)))) n)) ([bellV l (ringA l (ringA l (ringA l (ringA l (ringA l a))))) (ringT l (ringA l (ringA l (ringA l (ringA l a)))) (ringT l (ringA l (ringA l (ringA l a))) (ringT l (ringA l (ringA l a)) (ringT l (ringA l a) (ringT l a t)))))]))] (ap (f24 (l) (ringA l (ringA l (ringA l (ringA l a)))) (ringT l (ringA l (ringA l (ringA l a))) (ringT l (ringA l (ringA l a)) (ringT l (ringA l a) (ringT l a t)))) (n) (by omega) (by omega)) an) (S_go 1 (S_end (V_block 0 ?_)))))))))))))))))))))))
  generalize ringT l (ringA l (ringA l (ringA l (ringA l a)))) (ringT l (ringA l (ringA l (ringA l a))) (ringT l (ringA l (ringA l a)) (ringT l (ringA l a) (ringT l a t))))=T at *
  generalize strokeN l (ringA l (ringA l (ringA l (ringA l a)))) (ringT l (ringA l (ringA l (ringA l a))) (ringT l (ringA l (ringA l a)) (ringT l (ringA l a) (ringT l a t)))) n=m at *
  generalize strokeN l (ringA l (ringA l (ringA l a))) (ringT l (ringA l (ringA l a)) (ringT l (ringA l a) (ringT l a t))) 3=fn at *
  generalize strokeN l (ringA l (ringA l a)) (ringT l (ringA l a) (ringT l a t)) 6=st at *
  generalize strokeN l (ringA l a) (ringT l a t) 4=wd at *
  generalize hcr:1+strokeN l a t (4-1)=cr at *
  generalize ringA l (ringA l (ringA l (ringA l (ringA l a))))=A at *
  refine V_loopS (fun (i,q,a,t)=>(i:Int)≤m∧q.length=i∧(∀ r∈q,RndOk cr r)∧BellOk l a) (fun (i,q,a,t)=>[(5,.box (.agg [I cr,I wd,I st,I fn,.own 3 (q.map rndO)])),(21,I (i:Nat)),(50000000,bellV l a t)]) (fun (i,_,_,_)=>m.toNat-i) ((0:Nat),([]:List Rnd),A,T) ⟨by omega,rfl,by simp,g5⟩ fun (i,q,a,t) ⟨hi,hq,hr,ha⟩=>?_
  have g1:=ringA_ok ha
  have g2:=ringA_ok g1
  have g3:=ringA_ok g2
  have u1:=strokeN_bd l a t (9-1)
  have u2:=strokeN_bd l (ringA l a) (ringT l a t) (5-1)
  have u3:=strokeN_bd l (ringA l (ringA l a)) (ringT l (ringA l a) (ringT l a t)) (cr-1)
  refine V_seq (V_region (S_go 1 (S_end (V_seq (V_dec ((↑i:Int)<m) (fun k0=>(V_skip (V_seq (V_block 1 (V_seq (V_region (S_go 1 (S_a [(8,.ret (I (1+strokeN l a t (9-1))) ([bellV l (ringA l a) (ringT l a t)]))] (ap (f27 (l) (a) (t) (1) (9) (by omega) (by omega) (by omega)) an) (S_go 1 (S_a [(8,.ret (I (1+strokeN l (ringA l a) (ringT l a t) (5-1))) ([bellV l (ringA l (ringA l a)) (ringT l (ringA l a) (ringT l a t))]))] (ap (f27 (l) (ringA l a) (ringT l a t) (1) (5) (by omega) (by omega) (by omega)) an) (S_go 3 (S_end (V_seq (V_region (S_go 3 (S_a [(1,.v (I (cr-1)))] (ap ((wrapE rfl (by omega)):I (IntKind.i64.wrap (cr-1))=I (cr-1)) an) (S_a [(6,.ret (I (strokeN l (ringA l (ringA l a)) (ringT l (ringA l a) (ringT l a t)) (cr-1))) ([bellV l (ringA l (ringA l (ringA l a))) (ringT l (ringA l (ringA l a)) (ringT l (ringA l a) (ringT l a t)))]))] (ap (f24 (l) (ringA l (ringA l a)) (ringT l (ringA l a) (ringT l a t)) (cr-1) (by omega) (by omega)) an) (S_go 1 (S_end (V_seq (V_seq (V_region (S_go 3 (S_end (V_block 2 ?_))))))))))))))))))))))))) (fun k0=>(V_exit 0 (V_seq (V_region (S_go 1 (S_a [(4,.yes)] (ap ((by exact beq_of (by simp<;>omega)):(Nat.beq 0 0&&(List.map rndO q).length.beq (List.map rndO q).length)=true) an) (S_end (V_ret (E_q [(7,.yes),(1,.v (PV.own 3 (List.map rndO q)))] (ap ((by exact ble_of (by simp only [List.length_map,List.length_set,List.length_append,List.length_cons,List.length_nil,limit]<;>omega)):(0+(List.map rndO q).length).ble (List.map rndO q).length=true) (ap ((by simp [take_mapL]):PV.own 3 (List.take (List.map rndO q).length (List.drop 0 (List.map rndO q)))=PV.own 3 (List.map rndO q)) an)) (PV.agg [I cr,I wd,I st,I fn,PV.own 3 (List.map rndO q)]) ([(PV.agg [PV.sl (List.map u8 l),I (↑a:Int),PV.int IntKind.u32 t]).box]) ?_))))))))))))))
  · generalize ringT l (ringA l (ringA l a)) (ringT l (ringA l a) (ringT l a t))=T2 at *
    generalize strokeN l (ringA l (ringA l a)) (ringT l (ringA l a) (ringT l a t)) (cr-1)=su at *
    generalize hw2:1+strokeN l (ringA l a) (ringT l a t) (5-1)=w2 at *
    generalize hw1:1+strokeN l a t (9-1)=w1 at *
    generalize ringA l (ringA l (ringA l a))=A2 at *
    have hcr1:1≤cr∧cr≤4:=by omega
    refine V_loopS (fun (c,p,a,t)=>(c:Int)≤cr∧(∀ x∈p,0≤x∧x<c)∧incr p=true∧(su<c→p.length≠0)∧p.length≤c∧BellOk l a) (fun (c,p,a,t)=>[(6,.box (.agg [I w1,I w2,.own 1 (p.map I)])),(35,I (c:Nat)),(50000000,bellV l a t)]) (fun (c,_,_,_)=>cr.toNat-c) ((0:Nat),([]:List Int),A2,T2) ⟨by omega,by simp,rfl,by omega,Nat.le_refl _,g3⟩ fun (c,p,a,t) ⟨hc,hp1,hp2,hp3,hp4,ha⟩=>?_
    have g1:=ringA_ok ha
    have g2:=ringA_ok g1
    have hap:∀ x∈p++[(c:Int)],0≤x∧x<(c+1:Nat):=fun x hx=>by
      rcases List.mem_append.1 hx with hx | hx
      · have:=hp1 x hx;omega
      · rw [List.mem_singleton] at hx;omega
    have hai:incr (p++[(c:Int)])=true:=incr_app hp2 fun y hy=>(hp1 y hy).2
    have hal:(p++[(c:Int)]).length=p.length+1:=by simp
    refine V_seq (V_region (S_go 1 (S_end (V_seq (V_dec ((↑c:Int)<cr) (fun k1=>(V_skip (V_seq (V_block 3 (V_seq (V_region (S_go 2 (S_end (V_seq (V_region (S_go 4 (S_dec 41 ((↑c:Int)=su) (fun k2=>(S_go 4 (S_end (V_true (V_region (S_go 1 (S_a [(1,.v (PV.bor 6 [(0,2)] 1 0 p.length))] (ap ((by simp):PV.bor 6 [(0,2)] 1 0 (List.map I p).length=PV.bor 6 [(0,2)] 1 0 p.length) an) (S_go 2 (S_a [(4,.ob),(0,.ob),(0,.ob),(2,.v (PV.own 1 (List.map I (p++[(↑c:Int)]))))] (ap ((by exact ble_of (by simp only [List.length_map,List.length_set,List.length_append,List.length_cons,List.length_nil,limit]<;>omega)):(0+p.length).ble (List.map I p).length=true) (ap ((by exact ble_of (by simp only [List.length_map,List.length_set,List.length_append,List.length_cons,List.length_nil,limit]<;>omega)):((List.map I p).length + [I (↑c:Int)].length).ble limit=true) (ap ((by exact beq_of (by simp<;>omega)):(0+p.length).beq (List.map I p).length=true) (ap ((by simp):PV.own 1 (List.map I p++[I (↑c:Int)])=PV.own 1 (List.map I (p++[(↑c:Int)]))) an)))) (S_go 2 (S_end (V_region (S_a [(1,.v (I (↑(c+1):Int)))] (ap ((wrapE (by omega) (by omega)):I (IntKind.i64.wrap ((↑c:Int)+1))=I (↑(c+1):Int)) an) (S_go 1 (S_end ?_))))))))))))))) (fun k2=>(S_go 1 (S_a [(6,.ret (PV.bool (decide (strokeN l a t (3-1)=0))) ([bellV l (ringA l a) (ringT l a t)]))] (ap (f28 (l) (a) (t) (3) (by omega) (by omega)) an) (S_go 2 (S_end (V_ndec (strokeN l a t (3-1)=0) (fun k3=>(V_region (S_go 1 (S_a [(1,.v (PV.bor 6 [(0,2)] 1 0 p.length))] (ap ((by simp):PV.bor 6 [(0,2)] 1 0 (List.map I p).length=PV.bor 6 [(0,2)] 1 0 p.length) an) (S_go 2 (S_a [(4,.ob),(0,.ob),(0,.ob),(2,.v (PV.own 1 (List.map I (p++[(↑c:Int)]))))] (ap ((by exact ble_of (by simp only [List.length_map,List.length_set,List.length_append,List.length_cons,List.length_nil,limit]<;>omega)):(0+p.length).ble (List.map I p).length=true) (ap ((by exact ble_of (by simp only [List.length_map,List.length_set,List.length_append,List.length_cons,List.length_nil,limit]<;>omega)):((List.map I p).length + [I (↑c:Int)].length).ble limit=true) (ap ((by exact beq_of (by simp<;>omega)):(0+p.length).beq (List.map I p).length=true) (ap ((by simp):PV.own 1 (List.map I p++[I (↑c:Int)])=PV.own 1 (List.map I (p++[(↑c:Int)]))) an)))) (S_go 2 (S_end (V_region (S_a [(1,.v (I (↑(c+1):Int)))] (ap ((wrapE (by omega) (by omega)):I (IntKind.i64.wrap ((↑c:Int)+1))=I (↑(c+1):Int)) an) (S_go 1 (S_end ?_)))))))))))) (fun k3=>(V_skip (V_region (S_a [(1,.v (I (↑(c+1):Int)))] (ap ((wrapE (by omega) (by omega)):I (IntKind.i64.wrap ((↑c:Int)+1))=I (↑(c+1):Int)) an) (S_go 1 (S_end ?_)))))))))))))))))))))))) (fun k1=>(V_exit 2 (V_region (S_go 1 (S_a [(1,.v (PV.bor 5 [(0,4)] 3 0 q.length))] (ap ((by simp):PV.bor 5 [(0,4)] 3 0 (List.map rndO q).length=PV.bor 5 [(0,4)] 3 0 q.length) an) (S_go 1 (S_a [(2,.yes)] (ap ((by exact beq_of (by simp<;>omega)):(Nat.beq 0 0&&(List.map I p).length.beq (List.map I p).length)=true) an) (S_a [(4,.ob),(0,.ob),(0,.ob),(2,.v (PV.own 3 (List.map rndO (q++[{w:=w1,s:=w2,may:=p}]))))] (ap ((by exact ble_of (by simp only [List.length_map,List.length_set,List.length_append,List.length_cons,List.length_nil,limit]<;>omega)):(0+q.length).ble (List.map rndO q).length=true) (ap ((by exact ble_of (by simp only [List.length_map,List.length_set,List.length_append,List.length_cons,List.length_nil,limit]<;>omega)):((List.map rndO q).length + [PV.agg [I w1,I w2,PV.own 1 (List.map I p)]].length).ble limit=true) (ap ((by exact beq_of (by simp<;>omega)):(0+q.length).beq (List.map rndO q).length=true) (ap ((by simp):PV.own 3 (List.map rndO q++[PV.agg [I w1,I w2,PV.own 1 (List.map I p)]])=PV.own 3 (List.map rndO (q++[{w:=w1,s:=w2,may:=p}]))) an)))) (S_go 2 (S_end (V_region (S_a [(1,.v (I (↑(i+1):Int)))] (ap ((wrapE (by omega) (by omega)):I (IntKind.i64.wrap ((↑i:Int)+1))=I (↑(i+1):Int)) an) (S_go 1 (S_end ?_)))))))))))))))))))
    · exact ⟨(c+1,p++[(c:Int)],a,t),⟨by omega,hap,hai,by omega,by omega,ha⟩,by simp only;omega,by kernel_rfl,by kernel_rfl⟩
    · exact ⟨(c+1,p++[(c:Int)],ringA l a,ringT l a t),⟨by omega,hap,hai,by omega,by omega,g1⟩,by simp only;omega,by kernel_rfl,by kernel_rfl⟩
    · exact ⟨(c+1,p,ringA l a,ringT l a t),⟨by omega,fun x hx=>by have:=hp1 x hx;omega,hp2,fun h=>hp3 (by omega),by omega,g1⟩,by simp only;omega,by kernel_rfl,by kernel_rfl⟩
    · refine ⟨(i+1,q++[⟨w1,w2,p⟩],a,t),⟨by omega,by simp [hq],fun r hr'=>?_,ha⟩,by simp only;omega,by kernel_rfl,by kernel_rfl⟩
      rcases List.mem_append.1 hr' with hr' | hr'
      · exact hr r hr'
      · rw [List.mem_singleton] at hr';subst hr'
        exact ⟨by simp only;omega,by simp only;omega,hp3 (by omega),fun x hx=>by have:=hp1 x hx;omega,hp2⟩
  · refine ⟨⟨cr,wd,st,fn,q⟩,a,t,rfl,rfl,⟨by simp only;omega,by simp only;omega,by simp only;omega,by simp only;omega,by simp only;omega,fun r h=>⟨(hr r h).w,(hr r h).s⟩,fun r h=>⟨(hr r h).n,(hr r h).may,(hr r h).inc⟩⟩,by simp only;omega,ha⟩
theorem f57 (b:Dk) (r:Nat) (hr:r<b.rs.length) (hg:Good b):FG 57 [boxV b,I r] (I (feeOf b (rnd b r))):=by
  refine gives_ofX Try.f57 ?_
  have h1:=hg.wd
  have h2:=hg.st
  have h3:=rnd_num hg hr
  have h4:0≤(b.rs.getD r default).w*b.wd∧(b.rs.getD r default).w*b.wd≤9*20:=⟨Int.mul_nonneg (by omega) (by omega),Int.mul_le_mul (by omega) (by omega) (by omega) (by omega)⟩
  have h5:0≤(b.rs.getD r default).s*(b.st+(b.rs.getD r default).w*b.wd)∧(b.rs.getD r default).s*(b.st+(b.rs.getD r default).w*b.wd)≤1000:=feeOf_bd hg h3
  refine V_seq (V_region (S_go 2 (S_end (V_seq (V_region (S_go 3 (S_a [(2,.v (PV.agg [I (b.rs.getD r default).w,I (b.rs.getD r default).s,PV.sl (List.map I (b.rs.getD r default).may)]))] (ap (getm (default) (by omega):(List.map rndV b.rs)[r]? = some (PV.agg [I (b.rs.getD r default).w,I (b.rs.getD r default).s,PV.sl (List.map I (b.rs.getD r default).may)])) an) (S_go 3 (S_end (V_seq (V_region (S_go 8 (S_a [(1,.v (I ((b.rs.getD r default).w*b.wd)))] (ap ((wrapE rfl (by omega)):I (IntKind.i64.wrap ((b.rs.getD r default).w*b.wd))=I ((b.rs.getD r default).w*b.wd)) an) (S_a [(1,.v (I (b.st+(b.rs.getD r default).w*b.wd)))] (ap ((wrapE rfl (by omega)):I (IntKind.i64.wrap (b.st+(b.rs.getD r default).w*b.wd))=I (b.st+(b.rs.getD r default).w*b.wd)) an) (S_a [(1,.v (I ((b.rs.getD r default).s*(b.st+(b.rs.getD r default).w*b.wd))))] (ap ((wrapE rfl (by omega)):I (IntKind.i64.wrap ((b.rs.getD r default).s*(b.st+(b.rs.getD r default).w*b.wd)))=I ((b.rs.getD r default).s*(b.st+(b.rs.getD r default).w*b.wd))) an) (S_go 1 (S_end (V_ret (E_a [] an (I ((b.rs.getD r default).s*(b.st+(b.rs.getD r default).w*b.wd))) ([]) rfl rfl)))))))))))))))))))
theorem f23_ex (l:List Int) (a:Nat) (t:Int) (b:Dk) (h:BellOk l a) (hg:Good b):∃ v h',Gives Try.prog feeH 23 [bellW,boxV b] [bellV l a t] v h'∧∃ s a' t',v = .own 1 (s.map I)∧h'=[bellV l a' t']∧ShareOk b s∧BellOk l a':=by
  refine gives_exX Try.f23 _ ?_
  have hlen:=hg.len
  have hcr:=hg.cr
  refine V_seq (V_region (S_go 2 (S_end (V_seq (V_region (S_go 1 (S_end (V_seq (V_seq (V_region (S_go 2 (S_a [(0,.n (b.rs.length))] (ap ((by simp):some (List.map rndV b.rs).length=some b.rs.length) an) (S_go 1 (S_end (V_block 0 ?_)))))))))))))))
  refine V_loopS (fun (i,s,a,t)=>i≤b.rs.length∧BellOk l a∧s.length=i∧(∀ r,r<i→has (rnd b r).may (s.getD r 0)=true∧0≤s.getD r 0∧s.getD r 0≤b.cr-1)) (fun (i,s,a,t)=>[(5,.own 1 (s.map I)),(11,I (i:Nat)),(50000000,bellV l a t)]) (fun (i,_,_,_)=>b.rs.length-i) ((0:Nat),([]:List Int),a,t) ⟨Nat.zero_le _,h,rfl,fun r hr=>absurd hr (Nat.not_lt_zero _)⟩ fun (i,s,a,t) ⟨hi,ha,hs,hm⟩=>?_
  have hma:i<b.rs.length→(b.rs.getD i default).may.length≠0∧(b.rs.getD i default).may.length≤4:=fun h=>⟨(good_may hg h).1,incr_len (good_may hg h).2.2 (good_may hg h).2.1 hcr⟩
  have hst:=strokeN_bd l a t ((((b.rs.getD i default).may.length-1:Nat):Int))
  have g1:=ringA_ok ha
  refine V_seq (V_region (S_go 1 (S_end (V_seq (V_dec ((↑i:Int)<(↑b.rs.length:Int)) (fun k0=>(V_skip (V_seq (V_block 1 (V_seq (V_region (S_a [(2,.v (PV.agg [I (b.rs.getD i default).w,I (b.rs.getD i default).s,PV.sl (List.map I (b.rs.getD i default).may)]))] (ap (getm (default) (by omega):(List.map rndV b.rs)[i]? = some (PV.agg [I (b.rs.getD i default).w,I (b.rs.getD i default).s,PV.sl (List.map I (b.rs.getD i default).may)])) an) (S_go 3 (S_end (V_region (S_go 6 (S_a [(0,.n ((b.rs.getD i default).may.length))] (ap ((by simp):some (List.map I (b.rs.getD i default).may).length=some (b.rs.getD i default).may.length) an) (S_a [(1,.v (I (↑((b.rs.getD i default).may.length-1):Int)))] (ap ((wrapE (by omega) (by omega)):I (IntKind.i64.wrap ((↑(b.rs.getD i default).may.length:Int)-1))=I (↑((b.rs.getD i default).may.length-1):Int)) an) (S_a [(6,.ret (I (strokeN l a t (↑((b.rs.getD i default).may.length-1):Int))) ([bellV l (ringA l a) (ringT l a t)]))] (ap (f24 (l) (a) (t) ((↑((b.rs.getD i default).may.length-1):Int)) (by omega) (by omega)) an) (S_a [(0,.ob),(1,.v (I ((b.rs.getD i default).may.getD (strokeN l a t (↑((b.rs.getD i default).may.length-1):Int)).toNat 0)))] (ap ((by exact dec_of (by omega)):decide (0≤strokeN l a t (↑((b.rs.getD i default).may.length-1):Int))=true) (ap (getm (0) (by omega):(List.map I (b.rs.getD i default).may)[(strokeN l a t (↑((b.rs.getD i default).may.length-1):Int)).toNat]? = some (I ((b.rs.getD i default).may.getD (strokeN l a t (↑((b.rs.getD i default).may.length-1):Int)).toNat 0))) an)) (S_go 2 (S_a [(4,.ob),(0,.ob),(0,.ob),(2,.v (PV.own 1 (List.map I (s++[(b.rs.getD i default).may.getD (strokeN l a t (↑((b.rs.getD i default).may.length-1):Int)).toNat 0]))))] (ap ((by exact ble_of (by simp only [List.length_map,List.length_set,List.length_append,List.length_cons,List.length_nil,limit]<;>omega)):(0+(List.map I s).length).ble (List.map I s).length=true) (ap ((by exact ble_of (by simp only [List.length_map,List.length_set,List.length_append,List.length_cons,List.length_nil,limit]<;>omega)):((List.map I s).length + [I ((b.rs.getD i default).may.getD (strokeN l a t (↑((b.rs.getD i default).may.length-1):Int)).toNat 0)].length).ble limit=true) (ap ((by exact beq_of (by simp<;>omega)):(0+(List.map I s).length).beq (List.map I s).length=true) (ap ((by simp):PV.own 1 (List.map I s++[I ((b.rs.getD i default).may.getD (strokeN l a t (↑((b.rs.getD i default).may.length-1):Int)).toNat 0)])=PV.own 1 (List.map I (s++[(b.rs.getD i default).may.getD (strokeN l a t (↑((b.rs.getD i default).may.length-1):Int)).toNat 0]))) an)))) (S_go 1 (S_end (V_region (S_a [(1,.v (I (↑(i+1):Int)))] (ap ((wrapE (by omega) (by omega)):I (IntKind.i64.wrap ((↑i:Int)+1))=I (↑(i+1):Int)) an) (S_go 1 (S_end ?_))))))))))))))))))))))) (fun k0=>(V_exit 0 (V_seq (V_region (S_go 1 (S_a [(2,.yes)] (ap ((by exact beq_of (by simp<;>omega)):(Nat.beq 0 0&&(List.map I s).length.beq (List.map I s).length)=true) an) (S_end (V_ret (E_q [(1,.yes),(1,.v (PV.own 1 (List.map I s)))] (ap ((by exact ble_of (by simp only [List.length_map,List.length_set,List.length_append,List.length_cons,List.length_nil,limit]<;>omega)):(0+(List.map I s).length).ble (List.map I s).length=true) (ap ((by simp [take_mapL]):PV.own 1 (List.take (List.map I s).length (List.drop 0 (List.map I s)))=PV.own 1 (List.map I s)) an)) (PV.own 1 (List.map I s)) ([(PV.agg [PV.sl (List.map u8 l),I (↑a:Int),PV.int IntKind.u32 t]).box]) ?_))))))))))))))
  · refine ⟨(i+1,s++[(b.rs.getD i default).may.getD (strokeN l a t (((b.rs.getD i default).may.length-1:Nat):Int)).toNat 0],ringA l a,ringT l a t),⟨by omega,g1,by simp [hs],fun r hr=>?_⟩,by simp only;omega,by kernel_rfl,by kernel_rfl⟩
    rcases Nat.lt_succ_iff_lt_or_eq.1 hr with hr | rfl
    · have:(s++[(b.rs.getD i default).may.getD (strokeN l a t (((b.rs.getD i default).may.length-1:Nat):Int)).toNat 0]).getD r 0=s.getD r 0:=by
        simp [List.getD_eq_getElem?_getD,List.getElem?_append_left (show r<s.length by omega)]
      rw [this];exact hm r hr
    · have hlt:(strokeN l a t (((b.rs.getD r default).may.length-1:Nat):Int)).toNat<(b.rs.getD r default).may.length:=by omega
      have:(s++[(b.rs.getD r default).may.getD (strokeN l a t (((b.rs.getD r default).may.length-1:Nat):Int)).toNat 0]).getD r 0=(b.rs.getD r default).may.getD (strokeN l a t (((b.rs.getD r default).may.length-1:Nat):Int)).toNat 0:=by
        simp [List.getD_eq_getElem?_getD,← hs]
      rw [this]
      exact ⟨has_t hlt rfl,getD_all (good_may hg (by omega)).2.1 _ hlt⟩
  · have hil:i=b.rs.length:=by omega
    refine ⟨s,a,t,rfl,rfl,⟨good_box hg,by omega,fun x hx=>?_,mayAll_t fun r hr=>(hm r (by omega)).1⟩,ha⟩
    obtain ⟨j,hj,rfl⟩:=List.getElem_of_mem hx
    have:=(hm j (by omega)).2
    rwa [getD_lt hj] at this
omit [Yo] in
theorem take_set' {l:List Int} {i n:Nat} {v:Int}:(l.take n).set i v=(l.set i v).take n:=by rw [List.take_set]
omit [Yo] in
theorem take_getD {l:List Int} {i n:Nat} (h:i<n):(l.take n).getD i 0=l.getD i 0:=by
  simp only [List.getD_eq_getElem?_getD,List.getElem?_take,h,if_true]
theorem f25_1 (b:Dk) (s:List Int) (h:ShareOk b s):FG 25 [boxV b,ints s] (.own 1 ((feesL b s).map I)):=by
  have hg:=box_good h.box
  have hcr:=hg.cr
  have hlen:=hg.len
  have hsl:=h.len
  have hs:shareErr b s=0:=by
    have h2:(!s.all (fun x=>decide (0≤x)&&decide (x≤b.cr-1)))=false:=by
      simp only [Bool.not_eq_false',List.all_eq_true]
      intro x hx;have:=h.rng x hx;simp;omega
    simp only [shareErr,h.box,h.len,h2,h.may,if_true];rfl
  have hf:feesL b s=(addF (feesOf b) s s.length).take b.cr.toNat:=by simp only [feesL,hs,if_true]
  rw [hf]
  have h0:List.replicate b.cr.toNat 0=(addF (feesOf b) s 0).take b.cr.toNat:=by
    obtain hc | hc | hc | hc:b.cr=1∨b.cr=2∨b.cr=3∨b.cr=4:=by omega
    all_goals rw [hc];rfl
  refine gives_ofX Try.f25 ?_
  refine V_seq (V_region (S_go 2 (S_end (V_seq (V_region (S_go 2 (S_a [(0,.ob),(1,.ob),(1,.ob),(0,.ob),(1,.v (PV.own 1 (List.map I (List.replicate b.cr.toNat 0))))] (ap ((by exact dec_of (by omega)):decide (0≤b.cr)=true) (ap ((by exact dec_of (by omega)):decide (0≤b.cr)=true) (ap ((by exact dec_of (by omega)):decide (b.cr.toNat≤b.cr.toNat)=true) (ap ((by exact dec_of (by simp [limit]<;>omega)):decide (b.cr.toNat≤limit)=true) (ap ((by simp):PV.own 1 (List.replicate b.cr.toNat (I 0))=PV.own 1 (List.map I (List.replicate b.cr.toNat 0))) an))))) (S_go 1 (S_end (V_seq (V_seq (V_region (S_go 1 (S_a [(0,.n (s.length))] (ap ((by simp):some (List.map I s).length=some s.length) an) (S_go 1 (S_end (V_block 0 ?_)))))))))))))))))
  refine V_loopS (fun (i,o)=>i≤s.length∧o=(addF (feesOf b) s i).take b.cr.toNat) (fun (i,o)=>[(5,.own 1 (o.map I)),(13,I (i:Nat))]) (fun (i,_)=>s.length-i) ((0:Nat),List.replicate b.cr.toNat 0) ⟨Nat.zero_le _,h0⟩ fun (i,o) ⟨hi,ho⟩=>?_
  have hol:o.length=b.cr.toNat:=by rw [ho,List.length_take,addF_len];omega
  have hx:i<s.length→0≤s.getD i 0∧s.getD i 0≤b.cr-1:=fun hi=>getD_all h.rng i hi
  have hmy:i<s.length→has (rnd b i).may (s.getD i 0)=true:=fun hi=>mayAll_get h.may hi
  have hbd:=addF_bd (share:=s) (feesOf_bd hg) i (s.getD i 0).toNat
  have hod:i<s.length→o.getD (s.getD i 0).toNat 0=(addF (feesOf b) s i).getD (s.getD i 0).toNat 0:=fun hi=>by rw [ho,take_getD (by have:=hx hi;omega)]
  have hfo:i<b.rs.length→0≤feeOf b (rnd b i)∧feeOf b (rnd b i)≤1000:=fun h=>feeOf_bd hg (rnd_num hg h)
  have hml:i<b.rs.length→(b.rs.getD i default).may.length≤4:=fun h=>incr_len (good_may hg h).2.2 (good_may hg h).2.1 hcr
  refine V_seq (V_region (S_go 1 (S_end (V_seq (V_dec ((↑i:Int)<(↑s.length:Int)) (fun k0=>(V_skip (V_seq (V_block 1 (V_seq (V_region (S_go 1 (S_a [(2,.v (I (s.getD i 0)))] (ap (getm (0) (by omega):(List.map I s)[i]? = some (I (s.getD i 0))) an) (S_go 3 (S_end (V_seq (V_seq (V_region (S_go 3 (S_a [(0,.n (b.rs.length))] (ap ((by simp):some (List.map rndV b.rs).length=some b.rs.length) an) (S_go 2 (S_decF 23 ((↑i:Int)≥(↑b.rs.length:Int)) (by omega) (S_go 3 (S_a [(2,.v (PV.agg [I (b.rs.getD i default).w,I (b.rs.getD i default).s,PV.sl (List.map I (b.rs.getD i default).may)]))] (ap (getm (default) (by omega):(List.map rndV b.rs)[i]? = some (PV.agg [I (b.rs.getD i default).w,I (b.rs.getD i default).s,PV.sl (List.map I (b.rs.getD i default).may)])) an) (S_go 3 (S_a [(8,.ret (PV.bool (has (b.rs.getD i default).may (s.getD i 0))) ([]))] (ap (f87 ((b.rs.getD i default).may) (s.getD i 0) (by omega)) an) (S_go 2 (S_end (V_if (!has (b.rs.getD i default).may (s.getD i 0)) (fun k1=>(V_seq (V_region (S_go 1 (S_end (V_ret (E_a [] an (PV.nils 1) ([]) ?_ rfl))))))) (fun k1=>(V_skip (V_region (S_go 2 (S_a [(0,.ob),(1,.ob),(1,.n ((s.getD i 0).toNat))] (ap ((by exact dec_of (by omega)):decide (0≤s.getD i 0)=true) (ap ((by exact dec_of (by simp only [List.length_map,List.length_set,List.length_append,List.length_cons,List.length_nil]<;>omega)):decide ((s.getD i 0).toNat<(List.map I o).length)=true) (ap ((by simp):some (0+(s.getD i 0).toNat)=some (s.getD i 0).toNat) an))) (S_a [(0,.cs false ([I (o.getD (s.getD i 0).toNat 0)]))] (ap (rc_at (q:=PV.own 1 (List.map I o)) (xs:=List.map I o) (x:=I (o.getD (s.getD i 0).toNat 0)) rfl (getm (0) (by omega)):readCells 5 (PV.own 1 (List.map I o)) [] (s.getD i 0).toNat 0 1=some (false,[I (o.getD (s.getD i 0).toNat 0)])) an) (S_go 2 (S_a [(8,.ret (I (feeOf b (rnd b i))) ([]))] (ap (f57 (b) (i) (by first | omega | (simp<;>omega)) (by omega)) an) (S_a [(1,.v (I (o.getD (s.getD i 0).toNat 0+feeOf b (rnd b i))))] (ap ((wrapE rfl (by omega)):I (IntKind.i64.wrap (o.getD (s.getD i 0).toNat 0+feeOf b (rnd b i)))=I (o.getD (s.getD i 0).toNat 0+feeOf b (rnd b i))) an) (S_a [(0,.ob),(1,.ob),(1,.n ((s.getD i 0).toNat))] (ap ((by exact dec_of (by omega)):decide (0≤s.getD i 0)=true) (ap ((by exact dec_of (by simp only [List.length_map,List.length_set,List.length_append,List.length_cons,List.length_nil]<;>omega)):decide ((s.getD i 0).toNat<(List.map I o).length)=true) (ap ((by simp):some (0+(s.getD i 0).toNat)=some (s.getD i 0).toNat) an))) (S_a [(8,.root (PV.own 1 (List.map I (o.set (s.getD i 0).toNat (o.getD (s.getD i 0).toNat 0+feeOf b (rnd b i))))) true)] (ap (wa_at (getm (0) (by omega)) map_set':writeAt (PV.own 1 (List.map I o)) [] (s.getD i 0).toNat 0 (I (o.getD (s.getD i 0).toNat 0+feeOf b (rnd b i))).cells=some (PV.own 1 (List.map I (o.set (s.getD i 0).toNat (o.getD (s.getD i 0).toNat 0+feeOf b (rnd b i)))))∧keptView (PV.own 1 (List.map I o)) (PV.own 1 (List.map I (o.set (s.getD i 0).toNat (o.getD (s.getD i 0).toNat 0+feeOf b (rnd b i))))) []=true) an) (S_end (V_region (S_a [(1,.v (I (↑(i+1):Int)))] (ap ((wrapE (by omega) (by omega)):I (IntKind.i64.wrap ((↑i:Int)+1))=I (↑(i+1):Int)) an) (S_go 1 (S_end ?_)))))))))))))))))))))))))))))))))))))))) (fun k0=>(V_exit 0 (V_seq (V_seq (V_region (S_go 1 (S_a [(0,.n (s.length))] (ap ((by simp):some (List.map I s).length=some s.length) an) (S_go 2 (S_a [(0,.n (b.rs.length))] (ap ((by simp):some (List.map rndV b.rs).length=some b.rs.length) an) (S_go 1 (S_end (V_ndecF ((↑s.length:Int)=(↑b.rs.length:Int)) (by omega) (V_skip (V_seq (V_region (S_go 1 (S_a [(2,.yes)] (ap ((by exact beq_of (by simp<;>omega)):(Nat.beq 0 0&&(List.map I o).length.beq (List.map I o).length)=true) an) (S_end (V_ret (E_a [(1,.yes),(1,.v (PV.own 1 (List.map I o)))] (ap ((by exact ble_of (by simp only [List.length_map,List.length_set,List.length_append,List.length_cons,List.length_nil,limit]<;>omega)):(0+(List.map I o).length).ble (List.map I o).length=true) (ap ((by simp [take_mapL]):PV.own 1 (List.take (List.map I o).length (List.drop 0 (List.map I o)))=PV.own 1 (List.map I o)) an)) (PV.own 1 (List.map I o)) ([]) ?_ rfl)))))))))))))))))))))))))
  · have:=hmy (by omega)
    unfold rnd at this
    rw [this] at k1;cases k1
  · refine ⟨(i+1,o.set (s.getD i 0).toNat (o.getD (s.getD i 0).toNat 0+feeOf b (rnd b i))),⟨by omega,?_⟩,by simp only;omega,by kernel_rfl,by kernel_rfl⟩
    rw [hod (by omega),ho,take_set',addF,feesOf_at (by omega)];rfl
  · rw [ho,show i=s.length by omega]
theorem f25_2 (b:Dk) (s:List Int) (hg:Good b) (hsl:s.length=b.rs.length) (hrng:∀ x∈s,0≤x∧x≤b.cr-1) (hno:mayAll b s=false):FG 25 [boxV b,ints s] (.nils 1):=by
  have hcr:=hg.cr
  have hlen:=hg.len
  have h0:List.replicate b.cr.toNat 0=(addF (feesOf b) s 0).take b.cr.toNat:=by
    obtain hc | hc | hc | hc:b.cr=1∨b.cr=2∨b.cr=3∨b.cr=4:=by omega
    all_goals rw [hc];rfl
  refine gives_ofX Try.f25 ?_
  refine V_seq (V_region (S_go 2 (S_end (V_seq (V_region (S_go 2 (S_a [(0,.ob),(1,.ob),(1,.ob),(0,.ob),(1,.v (PV.own 1 (List.map I (List.replicate b.cr.toNat 0))))] (ap ((by exact dec_of (by omega)):decide (0≤b.cr)=true) (ap ((by exact dec_of (by omega)):decide (0≤b.cr)=true) (ap ((by exact dec_of (by omega)):decide (b.cr.toNat≤b.cr.toNat)=true) (ap ((by exact dec_of (by simp [limit]<;>omega)):decide (b.cr.toNat≤limit)=true) (ap ((by simp):PV.own 1 (List.replicate b.cr.toNat (I 0))=PV.own 1 (List.map I (List.replicate b.cr.toNat 0))) an))))) (S_go 1 (S_end (V_seq (V_seq (V_region (S_go 1 (S_a [(0,.n (s.length))] (ap ((by simp):some (List.map I s).length=some s.length) an) (S_go 1 (S_end (V_block 0 ?_)))))))))))))))))
  refine V_loopS (fun (i,o)=>i≤s.length∧o=(addF (feesOf b) s i).take b.cr.toNat∧∀ r,r<i→has (rnd b r).may (s.getD r 0)=true) (fun (i,o)=>[(5,.own 1 (o.map I)),(13,I (i:Nat))]) (fun (i,_)=>s.length-i) ((0:Nat),List.replicate b.cr.toNat 0) ⟨Nat.zero_le _,h0,fun r hr=>absurd hr (Nat.not_lt_zero _)⟩ fun (i,o) ⟨hi,ho,hm⟩=>?_
  have hol:o.length=b.cr.toNat:=by rw [ho,List.length_take,addF_len];omega
  have hx:i<s.length→0≤s.getD i 0∧s.getD i 0≤b.cr-1:=fun hi=>getD_all hrng i hi
  have hbd:=addF_bd (share:=s) (feesOf_bd hg) i (s.getD i 0).toNat
  have hod:i<s.length→o.getD (s.getD i 0).toNat 0=(addF (feesOf b) s i).getD (s.getD i 0).toNat 0:=fun hi=>by rw [ho,take_getD (by have:=hx hi;omega)]
  have hfo:i<b.rs.length→0≤feeOf b (rnd b i)∧feeOf b (rnd b i)≤1000:=fun h=>feeOf_bd hg (rnd_num hg h)
  have hml:i<b.rs.length→(b.rs.getD i default).may.length≤4:=fun h=>incr_len (good_may hg h).2.2 (good_may hg h).2.1 hcr
  refine V_seq (V_region (S_go 1 (S_end (V_seq (V_dec ((↑i:Int)<(↑s.length:Int)) (fun k0=>(V_skip (V_seq (V_block 1 (V_seq (V_region (S_go 1 (S_a [(2,.v (I (s.getD i 0)))] (ap (getm (0) (by omega):(List.map I s)[i]? = some (I (s.getD i 0))) an) (S_go 3 (S_end (V_seq (V_seq (V_region (S_go 3 (S_a [(0,.n (b.rs.length))] (ap ((by simp):some (List.map rndV b.rs).length=some b.rs.length) an) (S_go 2 (S_decF 23 ((↑i:Int)≥(↑b.rs.length:Int)) (by omega) (S_go 3 (S_a [(2,.v (PV.agg [I (b.rs.getD i default).w,I (b.rs.getD i default).s,PV.sl (List.map I (b.rs.getD i default).may)]))] (ap (getm (default) (by omega):(List.map rndV b.rs)[i]? = some (PV.agg [I (b.rs.getD i default).w,I (b.rs.getD i default).s,PV.sl (List.map I (b.rs.getD i default).may)])) an) (S_go 3 (S_a [(8,.ret (PV.bool (has (b.rs.getD i default).may (s.getD i 0))) ([]))] (ap (f87 ((b.rs.getD i default).may) (s.getD i 0) (by omega)) an) (S_go 2 (S_end (V_if (!has (b.rs.getD i default).may (s.getD i 0)) (fun k1=>(V_seq (V_region (S_go 1 (S_end (V_ret (E_a [] an (PV.nils 1) ([]) rfl rfl))))))) (fun k1=>(V_skip (V_region (S_go 2 (S_a [(0,.ob),(1,.ob),(1,.n ((s.getD i 0).toNat))] (ap ((by exact dec_of (by omega)):decide (0≤s.getD i 0)=true) (ap ((by exact dec_of (by simp only [List.length_map,List.length_set,List.length_append,List.length_cons,List.length_nil]<;>omega)):decide ((s.getD i 0).toNat<(List.map I o).length)=true) (ap ((by simp):some (0+(s.getD i 0).toNat)=some (s.getD i 0).toNat) an))) (S_a [(0,.cs false ([I (o.getD (s.getD i 0).toNat 0)]))] (ap (rc_at (q:=PV.own 1 (List.map I o)) (xs:=List.map I o) (x:=I (o.getD (s.getD i 0).toNat 0)) rfl (getm (0) (by omega)):readCells 5 (PV.own 1 (List.map I o)) [] (s.getD i 0).toNat 0 1=some (false,[I (o.getD (s.getD i 0).toNat 0)])) an) (S_go 2 (S_a [(8,.ret (I (feeOf b (rnd b i))) ([]))] (ap (f57 (b) (i) (by first | omega | (simp<;>omega)) (by omega)) an) (S_a [(1,.v (I (o.getD (s.getD i 0).toNat 0+feeOf b (rnd b i))))] (ap ((wrapE rfl (by omega)):I (IntKind.i64.wrap (o.getD (s.getD i 0).toNat 0+feeOf b (rnd b i)))=I (o.getD (s.getD i 0).toNat 0+feeOf b (rnd b i))) an) (S_a [(0,.ob),(1,.ob),(1,.n ((s.getD i 0).toNat))] (ap ((by exact dec_of (by omega)):decide (0≤s.getD i 0)=true) (ap ((by exact dec_of (by simp only [List.length_map,List.length_set,List.length_append,List.length_cons,List.length_nil]<;>omega)):decide ((s.getD i 0).toNat<(List.map I o).length)=true) (ap ((by simp):some (0+(s.getD i 0).toNat)=some (s.getD i 0).toNat) an))) (S_a [(8,.root (PV.own 1 (List.map I (o.set (s.getD i 0).toNat (o.getD (s.getD i 0).toNat 0+feeOf b (rnd b i))))) true)] (ap (wa_at (getm (0) (by omega)) map_set':writeAt (PV.own 1 (List.map I o)) [] (s.getD i 0).toNat 0 (I (o.getD (s.getD i 0).toNat 0+feeOf b (rnd b i))).cells=some (PV.own 1 (List.map I (o.set (s.getD i 0).toNat (o.getD (s.getD i 0).toNat 0+feeOf b (rnd b i)))))∧keptView (PV.own 1 (List.map I o)) (PV.own 1 (List.map I (o.set (s.getD i 0).toNat (o.getD (s.getD i 0).toNat 0+feeOf b (rnd b i))))) []=true) an) (S_end (V_region (S_a [(1,.v (I (↑(i+1):Int)))] (ap ((wrapE (by omega) (by omega)):I (IntKind.i64.wrap ((↑i:Int)+1))=I (↑(i+1):Int)) an) (S_go 1 (S_end ?_)))))))))))))))))))))))))))))))))))))))) (fun k0=>(V_exit 0 (V_seq (V_seq (V_region (S_go 1 (S_a [(0,.n (s.length))] (ap ((by simp):some (List.map I s).length=some s.length) an) (S_go 2 (S_a [(0,.n (b.rs.length))] (ap ((by simp):some (List.map rndV b.rs).length=some b.rs.length) an) (S_go 1 (S_end (V_ndecF ((↑s.length:Int)=(↑b.rs.length:Int)) (by omega) (V_skip (V_seq (V_region (S_go 1 (S_a [(2,.yes)] (ap ((by exact beq_of (by simp<;>omega)):(Nat.beq 0 0&&(List.map I o).length.beq (List.map I o).length)=true) an) (S_end (V_ret (E_a [(1,.yes),(1,.v (PV.own 1 (List.map I o)))] (ap ((by exact ble_of (by simp only [List.length_map,List.length_set,List.length_append,List.length_cons,List.length_nil,limit]<;>omega)):(0+(List.map I o).length).ble (List.map I o).length=true) (ap ((by simp [take_mapL]):PV.own 1 (List.take (List.map I o).length (List.drop 0 (List.map I o)))=PV.own 1 (List.map I o)) an)) (PV.own 1 (List.map I o)) ([]) ?_ rfl)))))))))))))))))))))))))
  · refine ⟨(i+1,o.set (s.getD i 0).toNat (o.getD (s.getD i 0).toNat 0+feeOf b (rnd b i))),⟨by omega,?_,fun r hr=>?_⟩,by simp only;omega,by kernel_rfl,by kernel_rfl⟩
    · rw [hod (by omega),ho,take_set',addF,feesOf_at (by omega)];rfl
    · rcases Nat.lt_succ_iff_lt_or_eq.1 hr with hr | rfl
      · exact hm r hr
      · simpa [rnd] using k1
  · have:=mayAll_t (b:=b) (l:=s) fun r hr=>hm r (by omega)
    rw [this] at hno;cases hno
end
end Go.Eng
set_option maxRecDepth 10000
set_option maxHeartbeats 4000000
namespace Go.Eng
open Go Go.Proofs
def isP (r t:Nat) (m:Nat×Nat):Bool:=decide ((r:Int)=(m.1:Int))&&decide ((t:Int)=(m.2:Int))
def hasP (L:List (Nat×Nat)) (r t:Nat):Bool:=L.any (isP r t)
theorem hasP_mem {L:List (Nat×Nat)} {r t:Nat}:hasP L r t=decide ((r,t)∈L):=by
  rw [Bool.eq_iff_iff]
  simp only [hasP,List.any_eq_true,isP,Bool.and_eq_true,decide_eq_true_eq]
  constructor
  · rintro ⟨m,hm,h1,h2⟩
    obtain ⟨a,b⟩:=m
    simp only at h1 h2
    obtain rfl:r=a:=by omega
    obtain rfl:t=b:=by omega
    exact hm
  · intro h;exact ⟨_,h,rfl,rfl⟩
theorem mem_mvs {b:Dk} {fee f s:List Int} {n r t:Nat}:(r,t)∈mvs b fee f s n↔r<n∧t<b.cr.toNat∧mvOk b fee f s r t=true:=by
  constructor
  · exact fun h=>mvs_mem h
  · rintro ⟨h1,h2,h3⟩
    simp only [mvs,List.mem_flatMap,List.mem_range,mvRow,List.mem_map,List.mem_filter]
    exact ⟨r,h1,t,⟨h2,h3⟩,rfl⟩
theorem mem_sws {b:Dk} {fee f s:List Int} {n x y:Nat} (hn:n≤s.length):(x,y)∈sws b fee f s n↔x<n∧x<y∧y<s.length∧swOk b fee f s x y=true:=by
  simp only [sws,List.mem_flatMap,List.mem_range,swRow,List.mem_map,List.mem_filter]
  constructor
  · rintro ⟨x',h1,j,⟨h2,h3⟩,h4⟩
    simp only [Prod.mk.injEq] at h4
    obtain ⟨rfl,rfl⟩:=h4
    exact ⟨h1,by omega,by omega,h3⟩
  · rintro ⟨h1,h2,h3,h4⟩
    refine ⟨x,h1,y-(x+1),⟨by omega,?_⟩,?_⟩
    · rwa [show x+1+(y-(x+1))=y by omega]
    · rw [show x+1+(y-(x+1))=y by omega]
def ltP (a b:Nat×Nat):Prop:=a.1<b.1∨a.1=b.1∧a.2<b.2
theorem row_sorted {p:Nat→Bool} {g:Nat→Nat} (hg:∀ i j,i<j→g i<g j) (r:Nat):∀ n,(((List.range n).filter p).map fun t=>(r,g t)).Pairwise ltP:=by
  intro n
  rw [List.pairwise_map]
  refine List.Pairwise.imp (fun {a b} h=>?_) (List.Pairwise.filter _ List.pairwise_lt_range)
  exact .inr ⟨rfl,hg a b h⟩
theorem mvs_sorted {b:Dk} {fee f s:List Int}:∀ n,(mvs b fee f s n).Pairwise ltP
  | 0=>by simp [mvs]
  | n+1=>by
    rw [mvs_succ,List.pairwise_append]
    refine ⟨mvs_sorted n,row_sorted (g:=fun t=>t) (fun _ _ h=>h) n _,fun a ha c hc=>?_⟩
    have h1:=(mvs_mem ha).1
    have h2:=(mvRow_mem hc).1
    exact .inl (by omega)
theorem sws_sorted {b:Dk} {fee f s:List Int}:∀ n,n≤s.length→(sws b fee f s n).Pairwise ltP
  | 0,_=>by simp [sws]
  | n+1,hn=>by
    rw [sws_succ,List.pairwise_append]
    refine ⟨sws_sorted n (by omega),row_sorted (g:=fun j=>n+1+j) (fun _ _ h=>by omega) n _,fun a ha c hc=>?_⟩
    obtain ⟨a1,a2⟩:=a
    have h1:=((mem_sws (by omega)).1 ha).1
    simp only [swRow,List.mem_map] at hc
    obtain ⟨j,_,rfl⟩:=hc
    exact .inl h1
theorem sorted_at {L:List (Nat×Nat)} (h:L.Pairwise ltP) {i:Nat} (h1:1≤i) (h2:i<L.length):ltP (L.getD (i-1) default) (L.getD i default):=by
  rw [getD_lt (by omega),getD_lt h2]
  exact List.pairwise_iff_getElem.1 h (i-1) i (by omega) h2 (by omega)
section
variable [Yo]
theorem f99 (L:List (Nat×Nat)) (r t:Nat) (hl:L.length<4294967296):FG 99 [.sl (L.map mvV),.agg [I r,I t]] (I (idxF (isP r t) L)):=by
  refine gives_ofX Try.f99 ?_
  refine V_seq (V_region (S_go 2 (S_end (V_seq (V_seq (V_region (S_go 1 (S_a [(0,.n (L.length))] (ap ((by simp):some (List.map mvV L).length=some L.length) an) (S_go 1 (S_end (V_block 0 ?_)))))))))))
  refine V_loopS (fun i=>i≤L.length∧∀ j,j<i→isP r t (L.getD j default)=false) (fun i=>[(8,I (i:Nat))]) (fun i=>L.length-i) (0:Nat) (by simp) fun i ⟨hi,ha⟩=>?_
  refine V_seq (V_region (S_go 1 (S_end (V_seq (V_dec ((↑i:Int)<(↑L.length:Int)) (fun k0=>(V_skip (V_seq (V_block 1 (V_seq (V_region (S_go 2 (S_end (V_seq (V_region (S_go 3 (S_a [(2,.v (PV.agg [I (↑(L.getD i default).fst:Int),I (↑(L.getD i default).snd:Int)]))] (ap (getm (default) (by omega):(List.map mvV L)[i]? = some (PV.agg [I (↑(L.getD i default).fst:Int),I (↑(L.getD i default).snd:Int)])) an) (S_go 1 (S_a [(0,.v (PV.bool (decide ((↑r:Int)=(↑(L.getD i default).fst:Int))&&decide ((↑t:Int)=(↑(L.getD i default).snd:Int)))))] (ap (bv_eql2:binV Try.prog BinOp.eql 60 (PV.agg [I (↑r:Int),I (↑t:Int)]) (PV.agg [I (↑(L.getD i default).fst:Int),I (↑(L.getD i default).snd:Int)])=some (PV.bool (decide ((↑r:Int)=(↑(L.getD i default).fst:Int))&&decide ((↑t:Int)=(↑(L.getD i default).snd:Int))))) an) (S_end (V_if (decide ((↑r:Int)=(↑(L.getD i default).fst:Int))&&decide ((↑t:Int)=(↑(L.getD i default).snd:Int))) (fun k1=>(V_seq (V_region (S_go 2 (S_end (V_ret (E_a [] an (I (↑i:Int)) ([]) ?_ rfl))))))) (fun k1=>(V_skip (V_region (S_a [(1,.v (I (↑(i+1):Int)))] (ap ((wrapE (by omega) (by omega)):I (IntKind.i64.wrap ((↑i:Int)+1))=I (↑(i+1):Int)) an) (S_go 1 (S_end ?_)))))))))))))))))))))) (fun k0=>(V_exit 0 (V_seq (V_region (S_go 1 (S_end (V_ret (E_a [] an (I (-1)) ([]) ?_ rfl)))))))))))))
  · rw [idxF_found (i:=i) (by omega) (fun j hj=>by rw [← getD_lt (d:=default)];exact ha j hj) (by rw [← getD_lt (d:=default)];assumption)]
  · refine ⟨i+1,⟨by omega,fun j hj=>?_⟩,by omega,by kernel_rfl,by kernel_rfl⟩
    rcases Nat.lt_succ_iff_lt_or_eq.1 hj with h | rfl
    · exact ha j h
    · assumption
  · rw [idxF_none fun j hj=>by rw [← getD_lt (d:=default)];exact ha j (by omega)]
theorem f39_1 (L:List (Nat×Nat)) (r t:Nat) (hl:L.length<4294967296):FG 39 [.sl (L.map mvV),.agg [I r,I t]] (.bool (hasP L r t)):=by
  refine gives_ofX Try.f39 ?_
  refine V_seq (V_region (S_go 2 (S_end (V_seq (V_region (S_go 2 (S_a [(8,.ret (I (idxF (isP r t) L)) ([]))] (ap (f99 (L) (r) (t) (by omega)) an) (S_go 2 (S_end (V_ret (E_a [] an (PV.bool (decide (idxF (isP r t) L≥0))) ([]) ?_ rfl)))))))))))
  rw [idxF_ge];rfl
theorem f99_2 (r t:Nat):FG 99 [.nils 0,.agg [I r,I t]] (I (-1)):=by
  refine gives_ofX Try.f99 ?_
  refine V_seq (V_region (S_go 2 (S_end (V_seq (V_seq (V_region (S_go 3 (S_end (V_block 0 ?_)))))))))
  refine V_loopS (fun i=>i=0) (fun i=>[(8,I (i:Nat))]) (fun i=>0) (0:Nat) rfl fun i hi=>?_
  subst hi
  refine V_seq (V_region (S_go 1 (S_end (V_seq (V_false (V_exit 0 (V_seq (V_region (S_go 1 (S_end (V_ret (E_a [] an (I (-1)) ([]) rfl rfl))))))))))))
theorem f39_2 (r t:Nat):FG 39 [.nils 0,.agg [I r,I t]] (.bool false):=by
  refine gives_ofX Try.f39 ?_
  refine V_seq (V_region (S_go 2 (S_end (V_seq (V_region (S_go 2 (S_a [(8,.ret (I (-1)) ([]))] (ap (f99_2 (r) (t)) an) (S_go 2 (S_end (V_ret (E_a [] an (PV.bool false) ([]) rfl rfl)))))))))))
theorem f100 (L:List (Nat×Nat)) (r t:Nat) (hl:L.length<4294967296):FG 100 [.sl (L.map mvV),.agg [I r,I t]] (I (idxF (isP r t) L)):=by
  refine gives_ofX Try.f100 ?_
  refine V_seq (V_region (S_go 2 (S_end (V_seq (V_seq (V_region (S_go 1 (S_a [(0,.n (L.length))] (ap ((by simp):some (List.map mvV L).length=some L.length) an) (S_go 1 (S_end (V_block 0 ?_)))))))))))
  refine V_loopS (fun i=>i≤L.length∧∀ j,j<i→isP r t (L.getD j default)=false) (fun i=>[(8,I (i:Nat))]) (fun i=>L.length-i) (0:Nat) (by simp) fun i ⟨hi,ha⟩=>?_
  refine V_seq (V_region (S_go 1 (S_end (V_seq (V_dec ((↑i:Int)<(↑L.length:Int)) (fun k0=>(V_skip (V_seq (V_block 1 (V_seq (V_region (S_go 2 (S_end (V_seq (V_region (S_go 3 (S_a [(2,.v (PV.agg [I (↑(L.getD i default).fst:Int),I (↑(L.getD i default).snd:Int)]))] (ap (getm (default) (by omega):(List.map mvV L)[i]? = some (PV.agg [I (↑(L.getD i default).fst:Int),I (↑(L.getD i default).snd:Int)])) an) (S_go 1 (S_a [(0,.v (PV.bool (decide ((↑r:Int)=(↑(L.getD i default).fst:Int))&&decide ((↑t:Int)=(↑(L.getD i default).snd:Int)))))] (ap (bv_eql2:binV Try.prog BinOp.eql 69 (PV.agg [I (↑r:Int),I (↑t:Int)]) (PV.agg [I (↑(L.getD i default).fst:Int),I (↑(L.getD i default).snd:Int)])=some (PV.bool (decide ((↑r:Int)=(↑(L.getD i default).fst:Int))&&decide ((↑t:Int)=(↑(L.getD i default).snd:Int))))) an) (S_end (V_if (decide ((↑r:Int)=(↑(L.getD i default).fst:Int))&&decide ((↑t:Int)=(↑(L.getD i default).snd:Int))) (fun k1=>(V_seq (V_region (S_go 2 (S_end (V_ret (E_a [] an (I (↑i:Int)) ([]) ?_ rfl))))))) (fun k1=>(V_skip (V_region (S_a [(1,.v (I (↑(i+1):Int)))] (ap ((wrapE (by omega) (by omega)):I (IntKind.i64.wrap ((↑i:Int)+1))=I (↑(i+1):Int)) an) (S_go 1 (S_end ?_)))))))))))))))))))))) (fun k0=>(V_exit 0 (V_seq (V_region (S_go 1 (S_end (V_ret (E_a [] an (I (-1)) ([]) ?_ rfl)))))))))))))
  · rw [idxF_found (i:=i) (by omega) (fun j hj=>by rw [← getD_lt (d:=default)];exact ha j hj) (by rw [← getD_lt (d:=default)];assumption)]
  · refine ⟨i+1,⟨by omega,fun j hj=>?_⟩,by omega,by kernel_rfl,by kernel_rfl⟩
    rcases Nat.lt_succ_iff_lt_or_eq.1 hj with h | rfl
    · exact ha j h
    · assumption
  · rw [idxF_none fun j hj=>by rw [← getD_lt (d:=default)];exact ha j (by omega)]
theorem f40_1 (L:List (Nat×Nat)) (r t:Nat) (hl:L.length<4294967296):FG 40 [.sl (L.map mvV),.agg [I r,I t]] (.bool (hasP L r t)):=by
  refine gives_ofX Try.f40 ?_
  refine V_seq (V_region (S_go 2 (S_end (V_seq (V_region (S_go 2 (S_a [(8,.ret (I (idxF (isP r t) L)) ([]))] (ap (f100 (L) (r) (t) (by omega)) an) (S_go 2 (S_end (V_ret (E_a [] an (PV.bool (decide (idxF (isP r t) L≥0))) ([]) ?_ rfl)))))))))))
  rw [idxF_ge];rfl
end
end Go.Eng
namespace Go.Eng
open Go Go.Proofs
def bal5:List Int:=[5,-2,-3,4,-4]
abbrev ad (j:Nat):PV := .addr (50000000+j) [] 0 0 none
abbrev putB:PV := .box (.func 135 [] [ad 0,ad 1,ad 2,ad 3])
abbrev oints (l:List Int):PV := .own 1 (l.map I)
abbrev rows (l:List (List Int)):PV := .own 1 (l.map oints)
abbrev putE (i:Nat) (now out out':List (List Int)):Entry:=⟨135,[I (i:Nat),ad 0,ad 1,ad 2,ad 3],[.box (ints bal5),putB,.box (rows now),.box (rows out)],.tup [],[.box (ints bal5),putB,.box (rows now),.box (rows out')]⟩
abbrev puts (i:Nat) (now out out':List (List Int)):Prop:=∀ [Yo],AllT Try.prog feeH [putE i now out out']
theorem g3_012x:puts 3 [[0,1,2]] [] [[0,1,2],[3,4]]:=⟨Gives.closed 400,trivial⟩
theorem g3_01x2x:puts 3 [[0,1],[2]] [[0,1,2],[3,4]] [[0,1,2],[3,4]]:=⟨Gives.closed 400,trivial⟩
theorem g3_02x1x:puts 3 [[0,2],[1]] [[0,1,2],[3,4]] [[0,1,2],[3,4]]:=⟨Gives.closed 400,trivial⟩
theorem g3_0x12x:puts 3 [[0],[1,2]] [[0,1,2],[3,4]] [[0,1,2],[3,4]]:=⟨Gives.closed 400,trivial⟩
theorem g3_0x1x2x:puts 3 [[0],[1],[2]] [[0,1,2],[3,4]] [[0,1,2],[3,4]]:=⟨Gives.closed 400,trivial⟩
theorem g0_:puts 0 [] [] [[0,1,2],[3,4]]:=⟨Gives.table ([putE 3 [[0,1,2]] [] [[0,1,2],[3,4]],putE 3 [[0,1],[2]] [[0,1,2],[3,4]] [[0,1,2],[3,4]],putE 3 [[0,2],[1]] [[0,1,2],[3,4]] [[0,1,2],[3,4]],putE 3 [[0],[1,2]] [[0,1,2],[3,4]] [[0,1,2],[3,4]],putE 3 [[0],[1],[2]] [[0,1,2],[3,4]] [[0,1,2],[3,4]]]) ⟨g3_012x.1,g3_01x2x.1,g3_02x1x.1,g3_0x12x.1,g3_0x1x2x.1,trivial⟩ 400,trivial⟩
theorem f49x [Yo]:Gives Try.prog feeH 49 [ints bal5] [] (.tup [rows [[0,1,2],[3,4]],I 0]) []:=Gives.table [putE 0 [] [] [[0,1,2],[3,4]]] ⟨g0_.1,trivial⟩ 400
end Go.Eng
set_option maxRecDepth 10000
namespace Go.Eng
open Go Go.Proofs
section
variable [Yo]
theorem f26x:Gives Try.prog feeH 26 [boxV four,ints [1,0,0,1],ints [4,10]] [] (.tup [.own 1 [I 7,I 0],I 23,I 0]) []:=Gives.closed 400
theorem f41x:Gives Try.prog feeH 41 [boxV four] [] (.tup [.own 1 [I 1,I 0,I 0,I 1],I 15,I 0]) []:=Gives.closed 400
theorem f34x:Gives Try.prog feeH 34 [boxV four,ints [0,0,1,1]] [] (.tup [.own 2 [.agg [I 0,I 2]],I 0]) []:=Gives.closed 400
theorem f69x:Gives Try.prog feeH 69 [boxV four,ints [3,0]] [] (.tup [I 8,I 0]) []:=Gives.closed 400
theorem f18x:Gives Try.prog feeH 18 [I 10,ints [5,3,1]] [] (.tup [.own 1 [I 6,I 3,I 1],I 0]) []:=Gives.closed 400
end
abbrev awakeT:List Entry:=[
  ⟨36,[boxV four,ints [0,0,0,1]],[],.tup [.own 1 [I 1,I 0,I 0,I 1],I 1,I 0],[]⟩,
  ⟨41,[boxV four],[],.tup [.own 1 [I 1,I 0,I 0,I 1],I 15,I 0],[]⟩,
  ⟨34,[boxV four,ints [0,0,1,1]],[],.tup [.own 2 [.agg [I 0,I 2]],I 0],[]⟩,
  ⟨26,[boxV four,ints [1,0,0,1],ints [4,10]],[],.tup [.own 1 [I 7,I 0],I 23,I 0],[]⟩,
  ⟨69,[boxV four,ints [3,0]],[],.tup [I 8,I 0],[]⟩,
  ⟨18,[I 10,ints [5,3,1]],[],.tup [.own 1 [I 6,I 3,I 1],I 0],[]⟩,
  ⟨49,[ints bal5],[],.tup [rows [[0,1,2],[3,4]],I 0],[]⟩]
theorem f16:Gives Try.prog feeH 16 [] [] (.bool true) []:=Gives.table awakeT ⟨f36x,f41x,f34x,f26x,f69x,f18x,f49x,trivial⟩ 400
end Go.Eng
