/- Rounds are shared so that nobody earns more than somebody else by more than a single round which this one may cry, no share is better than the best one, no rounds have a greater bound, and to settle never makes the greatest fee greater, for all numbers. -/
import Derived.Test.YtpmbobnmpehobaaPg
import Derived.Test.YtpmbobnmpehobaaPd
import Derived.Test.YtpmbobnmpehobaaPf
set_option linter.unusedVariables false
set_option linter.unusedSimpArgs false
set_option linter.unusedSectionVars false
set_option maxRecDepth 10000
set_option maxHeartbeats 4000000
namespace Go.Eng
open Go Go.Proofs
theorem mvRow_mem {b:Dk} {fee f s:List Int} {r n:Nat} {m:Nat×Nat} (h:m∈mvRow b fee f s r n):m.1=r∧m.2<n∧mvOk b fee f s m.1 m.2=true:=by
  simp only [mvRow,List.mem_map,List.mem_filter,List.mem_range] at h
  obtain ⟨t,⟨h1,h2⟩,rfl⟩:=h
  exact ⟨rfl,h1,h2⟩
theorem mvs_mem {b:Dk} {fee f s:List Int} {n:Nat} {m:Nat×Nat} (h:m∈mvs b fee f s n):m.1<n∧m.2<b.cr.toNat∧mvOk b fee f s m.1 m.2=true:=by
  simp only [mvs,List.mem_flatMap,List.mem_range] at h
  obtain ⟨r,h1,h2⟩:=h
  obtain ⟨rfl,h3,h4⟩:=mvRow_mem h2
  exact ⟨h1,h3,h4⟩
def mvStep (b:Dk) (s:List Int):Option (List Int):=match mvs b (feesOf b) (feeS b s) s s.length with
  | []=>none
  | m::_=>some (s.set m.1 (m.2:Int))
def settleN (b:Dk):Nat→List Int→List Int×Nat
  | 0,s=>(s,0)
  | k+1,s=>match mvStep b s with
    | none=>(s,0)
    | some s'=>((settleN b k s').1,(settleN b k s').2+1)
def settle (b:Dk) (s:List Int):List Int×Nat:=settleN b (pot b s+1) s
theorem fee_bd {b:Dk} (hg:Good b) (r:Nat):0≤feeOf b (rnd b r)∧feeOf b (rnd b r)≤1000:=by
  rcases Nat.lt_or_ge r b.rs.length with h | h
  · exact feeOf_bd hg (rnd_num hg h)
  · have e:rnd b r=default:=by unfold rnd;rw [List.getD_eq_getElem?_getD,List.getElem?_eq_none h];rfl
    rw [e];show 0≤(0:Int)*_∧(0:Int)*_≤_;simp
theorem mvStep_ok {b:Dk} {s s':List Int} (hs:ShareOk b s) (h:mvStep b s=some s'):ShareOk b s'∧pot b s'<pot b s:=by
  have hg:=box_good hs.box
  have hcr:=hg.cr
  have hbl:=hg.len
  have hsl:=hs.len
  unfold mvStep at h
  split at h
  · cases h
  · rename_i m ms hm
    obtain ⟨r,t⟩:=m
    simp only [Option.some.injEq] at h
    subst h
    obtain ⟨h1,h2,h3⟩:=mvs_mem (m:=(r,t)) (by rw [hm];simp:(r,t)∈mvs b (feesOf b) (feeS b s) s s.length)
    simp only at h1 h2 h3
    rw [mvOk_ref hs h1 (by omega)] at h3
    simp only [Bool.and_eq_true,decide_eq_true_eq] at h3
    obtain ⟨h4,h5,h6⟩:=h3
    rw [earnN_set h1 h4] at h6
    refine ⟨⟨hs.box,by simpa using hs.len,fun x hx=>?_,mayAll_t fun q hq=>?_⟩,?_⟩
    · rcases List.mem_or_eq_of_mem_set hx with hx | rfl
      · exact hs.rng x hx
      · omega
    · rw [getD_set]
      rw [List.length_set] at hq
      split
      · rename_i hq';rw [← hq'.1];exact h5
      · exact mayAll_get hs.may hq
    · have hb:=potI_bd (l:=s.set r (t:Int)) (fun r=>fee_bd hg r) (by simp;omega)
      have hd:=potI_dec (fun r=>(fee_bd hg r).1) (by omega) h1 (share_lt hs) (by omega:0≤(t:Int)∧(t:Int)<4) h4 h6
      unfold pot;omega
theorem settleN_fuel {b:Dk}:∀ (k k':Nat) (s:List Int),ShareOk b s→pot b s<k→pot b s<k'→settleN b k s=settleN b k' s
  | 0,_,_,_,h,_=>absurd h (Nat.not_lt_zero _)
  | _+1,0,_,_,_,h=>absurd h (Nat.not_lt_zero _)
  | k + 1,k'+1,s,hs,h1,h2=>by
    simp only [settleN]
    cases h:mvStep b s with
    | none=>rfl
    | some s' =>
      obtain ⟨h3,h4⟩:=mvStep_ok hs h
      simp only [settleN_fuel k k' s' h3 (by omega) (by omega)]
theorem settle_step {b:Dk} {s s':List Int} (hs:ShareOk b s) (h:mvStep b s=some s'):settle b s=((settle b s').1,(settle b s').2+1):=by
  obtain ⟨h3,h4⟩:=mvStep_ok hs h
  have e:settle b s=((settleN b (pot b s) s').1,(settleN b (pot b s) s').2+1):=by
    unfold settle;rw [settleN,h]
  rw [e,settleN_fuel (pot b s) (pot b s'+1) s' h3 (by omega) (by omega)];rfl
theorem settle_end {b:Dk} {s:List Int} (h:mvStep b s=none):settle b s=(s,0):=by
  unfold settle;rw [settleN,h]
def settleL (b:Dk) (l:List Int):List Int:=if shareErr b l=0 then (settle b l).1 else []
def settleK (b:Dk) (l:List Int):Int:=if shareErr b l=0 then ((settle b l).2:Int) else 0
theorem pot_bd {b:Dk} {s:List Int} (hs:ShareOk b s):pot b s≤4000000000000:=by
  have hg:=box_good hs.box
  have:=potI_bd (b:=b) (l:=s) (fun r=>fee_bd hg r) (by rw [hs.len];exact hg.len)
  unfold pot;omega
theorem f36 (b:Dk) (l:List Int) (hb:Small b) (hl:l.length<4294967296):FG 36 [boxV b,ints l] (.tup [.own 1 ((settleL b l).map I),I (settleK b l),I (shareErr b l)]):=by
  by_cases h:shareErr b l=0
  · have hs:=shr_ok h
    have hg:=box_good hs.box
    have hcr:=hg.cr
    have hbl:=hg.len
    have hsl:=hs.len
    have h88:=f88_1 b l hb h
    have e1:settleL b l=(settle b l).1:=by simp only [settleL,h,if_true]
    have e2:settleK b l=((settle b l).2:Int):=by simp only [settleK,h,if_true]
    rw [h,e1,e2]
    refine gives_ofX Try.f36 ?_
    refine V_seq (V_region (S_go 4 (S_end (V_seq (V_region (S_go 2 (S_a [(8,.ret (PV.tup [(deskV b (feesOf b)).ref,I 0]) ([]))] (ap (h88) an) (S_go 5 (S_end (V_seq (V_seq (V_region (S_go 2 (S_end (V_false (V_skip (V_seq (V_region (S_go 1 (S_a [(0,.n (l.length))] (ap ((by simp):some (List.map I l).length=some l.length) an) (S_a [(4,.ob),(0,.ob),(1,.v (PV.own 1 (List.map I (List.replicate l.length 0))))] (ap ((by exact dec_of (by omega)):decide (l.length≤l.length)=true) (ap ((by exact dec_of (by simp [limit]<;>omega)):decide (l.length≤limit)=true) (ap ((by simp):PV.own 1 (List.replicate l.length (I 0))=PV.own 1 (List.map I (List.replicate l.length 0))) an))) (S_go 2 (S_end (V_seq (V_region (S_a [(1,.v (PV.bor 9 [(0,0)] 1 0 (List.replicate l.length 0).length))] (ap ((by simp):PV.bor 9 [(0,0)] 1 0 (List.map I (List.replicate l.length 0)).length=PV.bor 9 [(0,0)] 1 0 (List.replicate l.length 0).length) an) (S_go 1 (S_copyN (fun q => .box q) 9 1 ((List.replicate l.length 0).length) (List.map I (List.replicate l.length 0)) (List.map I l) (List.map I l) (by first | rfl | (simp;done) | omega) (fits_map fun _ _=>(by first | exact fits_one | exact ⟨rfl,rfl,rfl,rfl,Nat.le_refl _,rfl⟩)) (by simp<;>omega) (map_all (by simp<;>omega)) Lens.box (S_end (V_seq (V_region (S_go 1 (S_end (V_block 0 ?_))))))))))))))))))))))))))))))))))
    refine V_loopS (fun (n,s)=>ShareOk b s∧settle b l=((settle b s).1,(settle b s).2+n)∧n+pot b s≤pot b l) (fun (n,s)=>[(9,.box (.own 1 (s.map I))),(10,I (n:Nat))]) (fun (_,s)=>pot b s) ((0:Nat),l) ⟨hs,rfl,by omega⟩ fun (n,s) ⟨hss,hse,hsp⟩=>?_
    have hpb:=pot_bd hs
    have hsl2:=hss.len
    have h93:=f93_2 b (feesOf b) s (share_lt hss) (feesOf_bd hg) (by omega) (by rw [feesOf_len];exact hsl2)
    have hmv:=mv_ok hss hb
    have hY:=f130a hmv
    have hst:mvStep b s=match mvs b (feesOf b) (feeS b s) s s.length with | []=>none | m::_=>some (s.set m.1 (m.2:Int)):=rfl
    unfold mvLog at hY
    have hmem:=fun m=>mvs_mem (b:=b) (fee:=feesOf b) (f:=feeS b s) (s:=s) (n:=s.length) (m:=m)
    generalize mvs b (feesOf b) (feeS b s) s s.length=L at *
    unfold feeS at hY
    obtain ⟨x0,x1,x2,x3,hx⟩:=four_of (addF_len (fee:=feesOf b) (share:=s) s.length)
    rw [hx] at hY h93
    clear hmv
    cases L with
    | nil =>
      have hend:mvStep b s=none:=hst
      have hse2:=settle_end hend
      rw [hse,hse2]
      refine V_seq (V_block 1 (V_scope (V_seq (V_region (S_go 2 (S_end (V_seq (V_label (V_seq (V_seq (V_region (S_go 1 (S_a [(1,.v (PV.bor 9 [(0,0)] 1 0 s.length))] (ap ((by simp):PV.bor 9 [(0,0)] 1 0 (List.map I s).length=PV.bor 9 [(0,0)] 1 0 s.length) an) (S_a [(5,.ret (PV.func 130 [] ((PV.bor 50000000 [(0,0)] 1 0 s.length).ref::(mvCaps b (feesOf b) [x0,x1,x2,x3] []).tail)) ([(PV.own 1 (List.map I s)).box]))] (ap (h93) an) (S_end (V_block 2 ?_))))))))))))))))
      refine V_rangeRg (t:=32) (R:=[9]) hY ?_ (hcl:=?_)
      · simp only [List.map_nil,Rg]
        refine V_seq (V_region (S_go 2 (S_end (V_true (V_seq (V_region (S_a [(1,.v (PV.bor 9 [(0,0)] 1 0 s.length))] (ap ((by simp):PV.bor 9 [(0,0)] 1 0 (List.map I s).length=PV.bor 9 [(0,0)] 1 0 s.length) an) (S_go 1 (S_a [(2,.yes)] (ap ((by exact beq_of (by simp<;>omega)):(Nat.beq 0 0&&s.length.beq (List.map I s).length)=true) an) (S_go 2 (S_end (V_ret (E_a [(1,.yes),(1,.v (PV.own 1 (List.map I s)))] (ap ((by exact ble_of (by simp only [List.length_map,List.length_set,List.length_append,List.length_cons,List.length_nil,limit]<;>omega)):(0+(List.map I s).length).ble (List.map I s).length=true) (ap ((own_ext take_allL):PV.own 1 (List.take (List.map I s).length (List.drop 0 (List.map I s)))=PV.own 1 (List.map I s)) an)) (PV.tup [PV.own 1 (List.map I s),I (↑n:Int),I 0]) ([]) (by simp [*]) rfl)))))))))))))
      · have hlen7:s.length≤7:=by omega
        clear hsl2 hbl hsl
        clear hst hse hse2 hsp hss hY h93 hx hend
        rcases s with _ | ⟨y0,_ | ⟨y1,_ | ⟨y2,_ | ⟨y3,_ | ⟨y4,_ | ⟨y5,_ | ⟨y6,_ | ⟨y7,tl⟩⟩⟩⟩⟩⟩⟩⟩
        · show _=_
          kernel_rfl
        · show _=_
          kernel_rfl
        · show _=_
          kernel_rfl
        · show _=_
          kernel_rfl
        · show _=_
          kernel_rfl
        · show _=_
          kernel_rfl
        · show _=_
          kernel_rfl
        · show _=_
          kernel_rfl
        · exfalso;simp at hlen7
    | cons m ms =>
      have hstep:mvStep b s=some (s.set m.1 (m.2:Int)):=hst
      obtain ⟨g1,g2⟩:=mvStep_ok hss hstep
      have g3:=settle_step hss hstep
      obtain ⟨g4,g5,_⟩:=hmem m (by simp)
      clear hmem
      refine V_seq (V_block 1 (V_scope (V_seq (V_region (S_go 2 (S_end (V_seq (V_label (V_seq (V_seq (V_region (S_go 1 (S_a [(1,.v (PV.bor 9 [(0,0)] 1 0 s.length))] (ap ((by simp):PV.bor 9 [(0,0)] 1 0 (List.map I s).length=PV.bor 9 [(0,0)] 1 0 s.length) an) (S_a [(5,.ret (PV.func 130 [] ((PV.bor 50000000 [(0,0)] 1 0 s.length).ref::(mvCaps b (feesOf b) [x0,x1,x2,x3] []).tail)) ([(PV.own 1 (List.map I s)).box]))] (ap (h93) an) (S_end (V_block 2 ?_))))))))))))))))
      refine V_rangeRg (t:=32) (R:=[9]) hY ?_ (hcl:=?_)
      rotate_left
      · have hlen7:s.length≤7:=by omega
        clear hsl2 hbl hsl g1 g2 g3 g4 g5
        clear hst hse hsp hss hY h93 hx hstep
        rcases s with _ | ⟨y0,_ | ⟨y1,_ | ⟨y2,_ | ⟨y3,_ | ⟨y4,_ | ⟨y5,_ | ⟨y6,_ | ⟨y7,tl⟩⟩⟩⟩⟩⟩⟩⟩
        · show _=_
          kernel_rfl
        · show _=_
          kernel_rfl
        · show _=_
          kernel_rfl
        · show _=_
          kernel_rfl
        · show _=_
          kernel_rfl
        · show _=_
          kernel_rfl
        · show _=_
          kernel_rfl
        · show _=_
          kernel_rfl
        · exfalso;simp at hlen7
      simp only [List.map_cons,Rg]
      refine Round_mk ?_
      refine V_region (S_go 2 (S_end ?_))
      refine ⟨rfl,by kernel_rfl,?_⟩
      refine V_block 3 (V_seq (V_region (S_a [(1,.v (PV.bor 9 [(0,0)] 1 0 s.length))] (ap ((by simp):PV.bor 9 [(0,0)] 1 0 (List.map I s).length=PV.bor 9 [(0,0)] 1 0 s.length) an) (S_go 4 (S_a [(2,.ob),(1,.n (m.fst))] (ap ((by exact dec_of (by omega)):decide (m.fst<s.length)=true) (ap ((by simp):some (0+m.fst)=some m.fst) an)) (S_a [(8,.root ((PV.own 1 (List.map I (s.set m.fst (↑m.snd:Int)))).box) true)] (ap (wr_at (wr_in (p:=(PV.own 1 (List.map I s)).box) (xs:=[PV.own 1 (List.map I s)]) (x:=PV.own 1 (List.map I s)) (q:=PV.own 1 (List.map I s)) (q':=PV.own 1 (List.map I (s.set m.fst (↑m.snd:Int)))) (y:=PV.own 1 (List.map I (s.set m.fst (↑m.snd:Int)))) (p':=(PV.own 1 (List.map I (s.set m.fst (↑m.snd:Int)))).box) rfl (wr_end (q:=PV.own 1 (List.map I s)) (xs:=List.map I s) (x:=I (s.getD m.fst 0)) (y:=I (↑m.snd:Int)) (q':=PV.own 1 (List.map I (s.set m.fst (↑m.snd:Int)))) (getm (0) (by omega)) rfl (we_own (u:=(↑m.snd:Int)))) rfl rfl) rfl:writeAt (PV.own 1 (List.map I s)).box [(0,0)] m.fst 0 (I (↑m.snd:Int)).cells=some (PV.own 1 (List.map I (s.set m.fst (↑m.snd:Int)))).box∧keptView (PV.own 1 (List.map I s)).box (PV.own 1 (List.map I (s.set m.fst (↑m.snd:Int)))).box [(0,0)]=true) an) (S_go 1 (S_end (V_exit 2 ?_)))))))))
      refine ⟨by kernel_rfl,?_⟩
      refine V_seq (V_region (S_go 2 (S_end (V_false (V_skip (V_region (S_go 1 (S_a [(1,.v (I (↑(n+1):Int)))] (ap ((wrapE (by omega) (by omega)):I (IntKind.i64.wrap ((↑n:Int)+1))=I (↑(n+1):Int)) an) (S_go 1 (S_end ?_))))))))))
      exact ⟨(n+1,s.set m.1 (m.2:Int)),⟨g1,by rw [hse,g3];simp only;congr 1;omega,by show n+1+pot b (s.set m.1 (m.2:Int))≤pot b l;omega⟩,g2,by kernel_rfl,by kernel_rfl⟩
  · refine gives_ofX Try.f36 ?_
    refine V_seq (V_region (S_go 4 (S_end (V_seq (V_region (S_go 2 (S_a [(8,.ret (PV.tup [PV.nilp,I (shareErr b l)]) ([]))] (ap (f88_2 (b) (l) (by omega) (by omega) (by omega)) an) (S_go 5 (S_end (V_seq (V_seq (V_region (S_go 2 (S_end (V_ndecT (shareErr b l=0) (by omega) (V_seq (V_region (S_go 4 (S_end (V_ret (E_a [] an (PV.tup [PV.own 1 [],I 0,I (shareErr b l)]) ([]) ?_ rfl)))))))))))))))))))))
    simp only [settleL,settleK,h,if_false];rfl
end Go.Eng
set_option maxRecDepth 10000
set_option maxHeartbeats 4000000
namespace Go.Eng
open Go Go.Proofs
theorem movesL_ok {b:Dk} {l:List Int} (hs:ShareOk b l):movesL b l=mvs b (feesOf b) (feeS b l) l l.length:=by simp only [movesL,share_err hs,if_true]
end Go.Eng
set_option maxRecDepth 10000
set_option maxHeartbeats 4000000
namespace Go.Eng
open Go Go.Proofs
def mx (a b:Int):Int:=if b>a then b else a
def swOk (b:Dk) (fee f s:List Int) (x y:Nat):Bool:=decide (¬ s.getD x 0=s.getD y 0)&&(has (rnd b x).may (s.getD y 0)&&(has (rnd b y).may (s.getD x 0)&&decide (mx (f.getD (s.getD x 0).toNat 0+(fee.getD y 0-fee.getD x 0)) (f.getD (s.getD y 0).toNat 0-(fee.getD y 0-fee.getD x 0))<mx (f.getD (s.getD x 0).toNat 0) (f.getD (s.getD y 0).toNat 0))))
def swRow (b:Dk) (fee f s:List Int) (x k:Nat):List (Nat×Nat):=((List.range k).filter fun j=>swOk b fee f s x (x+1+j)).map fun j=>(x,x+1+j)
def sws (b:Dk) (fee f s:List Int) (n:Nat):List (Nat×Nat):=(List.range n).flatMap fun x=>swRow b fee f s x (s.length-(x+1))
def swapsL (b:Dk) (l:List Int):List (Nat×Nat):=if shareErr b l=0 then sws b (feesOf b) (feeS b l) l l.length else []
section
variable [Yo]
end
end Go.Eng
set_option maxRecDepth 10000
set_option maxHeartbeats 4000000
namespace Go.Eng
open Go Go.Proofs
def swapd (l:List Int) (x y:Nat):List Int:=(l.set x (l.getD y 0)).set y (l.getD x 0)
section
variable [Yo]
end
end Go.Eng
set_option maxRecDepth 10000
set_option maxHeartbeats 4000000
namespace Go.Eng
open Go Go.Proofs
def isP (r t:Nat) (m:Nat×Nat):Bool:=decide ((r:Int)=(m.1:Int))&&decide ((t:Int)=(m.2:Int))
def hasP (L:List (Nat×Nat)) (r t:Nat):Bool:=L.any (isP r t)
theorem mem_mvs {b:Dk} {fee f s:List Int} {n r t:Nat}:(r,t)∈mvs b fee f s n↔r<n∧t<b.cr.toNat∧mvOk b fee f s r t=true:=by
  constructor
  · exact fun h=>mvs_mem h
  · rintro ⟨h1,h2,h3⟩
    simp only [mvs,List.mem_flatMap,List.mem_range,mvRow,List.mem_map,List.mem_filter]
    exact ⟨r,h1,t,⟨h2,h3⟩,rfl⟩
def ltP (a b:Nat×Nat):Prop:=a.1<b.1∨a.1=b.1∧a.2<b.2
section
variable [Yo]
end
end Go.Eng
set_option maxRecDepth 10000
namespace Go.Eng
open Go Go.Proofs
theorem feesL_at {b:Dk} {s:List Int} (hs:ShareOk b s) {c:Nat} (hc:c<b.cr.toNat):(feesL b s).getD c 0=earnN b s c s.length:=by
  rw [earn_list hs];simp [List.getD_eq_getElem?_getD,hc]
structure MvdOk (nums tries:List Int) (b:Dk) (s:List Int) (S:List (Nat×Nat)) (a1 a2:Nat) (t1 t2:Int):Prop where
  hm:Gives Try.prog feeH 21 [bellW,I 6] [bellV nums 0 0] (boxO b) [bellV nums a1 t1]
  hsh:Gives Try.prog feeH 23 [bellW,boxV b] [bellV tries 0 0] (.own 1 (s.map I)) [bellV tries a2 t2]
  hs:ShareOk b s
  hg:Good b
  h34:FG 34 [boxV b,ints s] (.tup [.own 2 (S.map mvV),I 0])
  hbl:(b.rs.length:Int)≤6
  hSl:S.length≤49
  hSw:∀ x y,x<y→y<s.length→hasP S x y=swOk b (feesOf b) (feeS b s) s x y
  hSs:S.Pairwise ltP
  h1:nums.length<9223372036854775808
  h2:tries.length<9223372036854775808
end Go.Eng
set_option maxRecDepth 10000
namespace Go.Eng
open Go Go.Proofs
theorem maxL_ge {l:List Int}:∀ x∈l,x≤maxL l:=by
  have key:∀ (l:List Int) (m:Int),∀ x∈l,x≤l.foldl (fun m x=>if x>m then x else m) m:=by
    intro l
    induction l with
    | nil=>intro m x hx;cases hx
    | cons y l ih =>
      intro m x hx
      simp only [List.foldl_cons]
      rcases List.mem_cons.1 hx with rfl | hx
      · have:=foldmax_ge l (if x>m then x else m)
        split at this<;>split<;>omega
      · exact ih _ x hx
  intro x hx
  cases l with
  | nil=>cases hx
  | cons y l =>
    rcases List.mem_cons.1 hx with rfl | hx
    · exact foldmax_ge l x
    · exact key l y x hx
theorem maxL_le {l:List Int} {B:Int} (hne:l≠[]) (h:∀ x∈l,x≤B):maxL l≤B:=by
  have key:∀ (l:List Int) (m:Int),(∀ x∈l,x≤B)→m≤B→l.foldl (fun m x=>if x>m then x else m) m≤B:=by
    intro l
    induction l with
    | nil=>intro m _ hm;exact hm
    | cons y l ih =>
      intro m h hm
      simp only [List.foldl_cons]
      refine ih _ (fun x hx=>h x (by simp [hx])) ?_
      have:=h y (by simp)
      split<;>omega
  cases l with
  | nil=>exact (hne rfl).elim
  | cons y l=>exact key l y (fun x hx=>h x (by simp [hx])) (h y (by simp))
theorem fees_ne {b:Dk} {s:List Int} (hs:ShareOk b s):feesL b s≠[]:=fun h=>by
  have h1:=fees_len hs
  have h2:=(box_good hs.box).cr
  rw [h] at h1;simp at h1;omega
theorem fees_mem {b:Dk} {s:List Int} (hs:ShareOk b s) {x:Int}:x∈feesL b s↔∃ c:Nat,c<b.cr.toNat∧x=earnN b s c s.length:=by
  rw [earn_list hs]
  simp only [List.mem_map,List.mem_range]
  exact ⟨fun ⟨c,h1,h2⟩=>⟨c,h1,h2.symm⟩,fun ⟨c,h1,h2⟩=>⟨c,h1,h2.symm⟩⟩
theorem mem_shN {b:Dk}:∀ {k:Nat} {l:List Int},k≤b.rs.length→l.length=k→(∀ j,j<k→l.getD j 0∈(rnd b (b.rs.length-k+j)).may)→l∈shN b k
  | 0,l,_,h,_=>by rw [List.eq_nil_of_length_eq_zero h];simp [shN]
  | k+1,[],_,h,_=>by simp at h
  | k+1,c::l,hk,h,hm=>by
    simp only [shN,List.mem_flatMap,List.mem_map]
    refine ⟨c,by have:=hm 0 (by omega);exact this,l,mem_shN (by omega) (by simpa using h) fun j hj=>?_,rfl⟩
    have:=hm (j+1) (by omega)
    rw [show b.rs.length-(k+1)+(j+1)=b.rs.length-k+j by omega] at this
    exact this
theorem has_mem {l:List Int} {v:Int} (h:has l v=true):v∈l:=by
  simp only [has,List.any_eq_true,decide_eq_true_eq] at h
  obtain ⟨x,hx,rfl⟩:=h
  exact hx
theorem share_mem {b:Dk} {s:List Int} (hs:ShareOk b s):s∈shN b b.rs.length:=by
  refine mem_shN (Nat.le_refl _) hs.len fun j hj=>?_
  rw [show b.rs.length-b.rs.length+j=j by omega]
  exact has_mem (mayAll_get hs.may (by rw [hs.len];exact hj))
theorem val_most {b:Dk} {l:List Int} (hs:ShareOk b l):valN b (wMost b) b.rs.length 0 0 0 0 l=maxL (feesL b l):=by
  rw [val_share hs,fees_four hs];rfl
theorem best_ok {b:Dk} (hg:Good b):ShareOk b (bestL b (wMost b))∧maxL (feesL b (bestL b (wMost b)))=bestV b (wMost b)∧∀ s,ShareOk b s→bestV b (wMost b)≤maxL (feesL b s):=by
  obtain ⟨⟨A,B,e,_,_⟩,hV,hle⟩:=best_first (w:=wMost b) hg (most_nn hg) b.rs.length 0 0 0 0 (Nat.le_refl _) (Int.le_refl _) (Int.le_refl _) (Int.le_refl _) (Int.le_refl _)
  have e1:bestL b (wMost b)=bestP b (wMost b) b.rs.length 0 0 0 0:=by simp only [bestL,good_box hg,if_true]
  have e2:bestV b (wMost b)=restS b (wMost b) b.rs.length 0 0 0 0:=by simp only [bestV,good_box hg,if_true]
  rw [e1,e2]
  have hm:bestP b (wMost b) b.rs.length 0 0 0 0∈shN b b.rs.length:=by rw [e];simp
  have hs:=shN_ok hg hm
  refine ⟨hs,by rw [← val_most hs];exact hV,fun s hs=>?_⟩
  rw [← val_most hs]
  exact hle s (share_mem hs)
theorem bound_most {b:Dk} (hg:Good b):(gotG b).2≤bestV b (wMost b):=by
  obtain ⟨hs,hm,_⟩:=best_ok hg
  obtain ⟨g1,g2,g3,g4⟩:=got_props hg
  rw [← hm]
  by_cases h0:(gotG b).1=[]
  · rw [g1,h0,bnd_nil]
    obtain ⟨x,hx⟩:=List.exists_mem_of_ne_nil _ (fees_ne hs)
    have h1:=maxL_ge x hx
    have h2:=(fees_bd hs x hx).1
    omega
  · obtain ⟨c,hc4,hcm,hcb⟩:=someone hs (incr_nodup g2) (fun x hx=>by have:=g3 x hx;omega) h0
    have hcc:c<b.cr.toNat:=by
      simp only [manB,List.any_eq_true] at hcm
      obtain ⟨r,hr,hrm⟩:=hcm
      have h1:=g3 r hr
      have h2:=(good_may hg (i:=r.toNat) (by omega)).2.1 _ (has_mem hrm)
      omega
    have:=maxL_ge _ ((fees_mem hs).2 ⟨c,hcc,rfl⟩)
    rw [g1];omega
theorem move_max {b:Dk} {s s':List Int} (hs:ShareOk b s) (h:mvStep b s=some s'):maxL (feesL b s')≤maxL (feesL b s):=by
  have hs':=(mvStep_ok hs h).1
  simp only [mvStep] at h
  split at h
  · cases h
  · rename_i m ms hms
    simp only [Option.some.injEq] at h
    have hm:m∈mvs b (feesOf b) (feeS b s) s s.length:=by rw [hms];simp
    obtain ⟨m1,m2,m3⟩:=mvs_mem hm
    have hcr:=(box_good hs.box).cr
    rw [mvOk_ref hs m1 (by omega)] at m3
    simp only [Bool.and_eq_true,decide_eq_true_eq] at m3
    obtain ⟨n1,n2,n3⟩:=m3
    have hrng:=getD_all hs.rng m.1 m1
    refine maxL_le (fees_ne hs') fun x hx=>?_
    obtain ⟨c,hc,rfl⟩:=(fees_mem hs').1 hx
    subst h
    rw [List.length_set]
    have hfee:=(fee_bd (box_good hs.box) m.1).1
    have hset:=earnG_set (g:=fun r=>feeOf b (rnd b r)) m1 (m.2:Int) (c:Int) s.length
    rw [← earn_G,← earn_G] at hset
    have hfrom:earnN b s (s.getD m.1 0) s.length≤maxL (feesL b s):=by
      have:=maxL_ge _ ((fees_mem hs).2 ⟨(s.getD m.1 0).toNat,by omega,rfl⟩)
      rwa [Int.toNat_of_nonneg hrng.1] at this
    by_cases hct:(m.2:Int)=c
    · rw [← hct];omega
    · have hself:=maxL_ge _ ((fees_mem hs).2 ⟨c,hc,rfl⟩)
      have e0:(if m.1<s.length∧(m.2:Int)=(c:Int) then feeOf b (rnd b m.1) else 0)=0:=if_neg (fun h=>hct h.2)
      rw [e0] at hset
      split at hset<;>omega
theorem settle_props {b:Dk} {s:List Int} (hs:ShareOk b s):ShareOk b (settleL b s)∧maxL (feesL b (settleL b s))≤maxL (feesL b s)∧mvStep b (settleL b s)=none∧0≤settleK b s∧(settleK b s=0→settleL b s=s):=by
  have key:∀ k s,ShareOk b s→pot b s<k→ShareOk b (settle b s).1∧maxL (feesL b (settle b s).1)≤maxL (feesL b s)∧mvStep b (settle b s).1=none∧((settle b s).2=0→(settle b s).1=s):=by
    intro k
    induction k with
    | zero=>intro s _ h;omega
    | succ k ih =>
      intro s hs hk
      cases h:mvStep b s with
      | none=>rw [settle_end h];exact ⟨hs,Int.le_refl _,h,fun _=>rfl⟩
      | some s' =>
        obtain ⟨h1,h2⟩:=mvStep_ok hs h
        obtain ⟨g1,g2,g3,g4⟩:=ih s' h1 (by omega)
        have hm:=move_max hs h
        rw [settle_step hs h]
        exact ⟨g1,Int.le_trans g2 hm,g3,fun h=>by simp at h⟩
  obtain ⟨g1,g2,g3,g4⟩:=key _ s hs (Nat.lt_succ_self _)
  have e1:settleL b s=(settle b s).1:=by simp only [settleL,share_err hs,if_true]
  have e2:settleK b s=((settle b s).2:Int):=by simp only [settleK,share_err hs,if_true]
  rw [e1,e2]
  exact ⟨g1,g2,g3,by omega,fun h=>g4 (by omega)⟩
theorem settled_even {b:Dk} {s:List Int} (hs:ShareOk b s) (h:mvStep b s=none):movesL b s=[]∧∀ r,r<s.length→∀ o∈(rnd b r).may,o≠s.getD r 0→earnN b s (s.getD r 0) s.length-earnN b s o s.length≤feeOf b (rnd b r):=by
  have hn:mvs b (feesOf b) (feeS b s) s s.length=[]:=by
    simp only [mvStep] at h
    split at h
    · assumption
    · cases h
  refine ⟨by rw [movesL_ok hs,hn],fun r hr o ho hne=>?_⟩
  have hg:=box_good hs.box
  have hmay:=(good_may hg (i:=r) (by rw [← hs.len];exact hr)).2.1 o ho
  have hno:¬ mvOk b (feesOf b) (feeS b s) s r o.toNat=true:=fun hok=>by
    have:(r,o.toNat)∈mvs b (feesOf b) (feeS b s) s s.length:=mem_mvs.2 ⟨hr,by omega,hok⟩
    rw [hn] at this;cases this
  rw [mvOk_ref hs hr (by omega),Int.toNat_of_nonneg hmay.1,earnN_set hr hne] at hno
  have hh:has (rnd b r).may o=true:=by
    simp only [has,List.any_eq_true,decide_eq_true_eq];exact ⟨o,ho,rfl⟩
  rw [hh] at hno
  simp only [Bool.true_and,Bool.and_eq_true,decide_eq_true_eq,not_and] at hno
  have:=hno hne
  omega
end Go.Eng
set_option maxRecDepth 10000
set_option maxHeartbeats 4000000
namespace Go.Eng
open Go Go.Proofs
theorem fees_ev {b:Dk} {z:List Int} (hz:ShareOk b z) (z7:∀ r,r<z.length→∀ o∈(rnd b r).may,o≠z.getD r 0→earnN b z (z.getD r 0) z.length-earnN b z o z.length≤feeOf b (rnd b r)) {r d:Nat} (hr:r<z.length) (hd:d<(b.rs.getD r default).may.length) (hne:¬ (b.rs.getD r default).may.getD d 0=z.getD r 0):(feesL b z).getD (z.getD r 0).toNat 0-(feesL b z).getD ((b.rs.getD r default).may.getD d 0).toNat 0≤feeOf b (rnd b r):=by
  have hg:=box_good hz.box
  have hm:(b.rs.getD r default).may.getD d 0∈(rnd b r).may:=by rw [getD_lt hd];exact List.getElem_mem _
  have h1:=(good_may hg (i:=r) (by rw [← hz.len];exact hr)).2.1 _ hm
  have h2:=getD_all hz.rng r hr
  have h3:=z7 r hr _ hm hne
  rw [feesL_at hz (by omega),feesL_at hz (by omega),Int.toNat_of_nonneg h1.1,Int.toNat_of_nonneg h2.1]
  exact h3
theorem f15 (nums tries:List Int) (h1:nums.length<9223372036854775808) (h2:tries.length<9223372036854775808):FG 15 [.sl (nums.map u8),.sl (tries.map u8)] (.bool true):=by
  obtain ⟨v,h',hm,b,a1,t1,rfl,rfl,hg,hbl,ha1⟩:=f21_ex nums 0 0 7 ⟨Nat.zero_le _,h1⟩ (by omega)
  have hcr:=hg.cr
  have hrl:=hg.len
  have hsm:Small b:=⟨by omega,fun r hr=>by have:=hg.may r hr;have:=incr_len this.2.2 this.2.1 hcr;omega⟩
  obtain ⟨hbo,hbm,hbest⟩:=best_ok hg
  have hbd:=bound_most hg
  have hgl:=(got_props hg).2.2.2
  have h41:=f41 b hsm
  have h71:=f71 b hsm
  have h58:=f58 b hsm
  rw [good_box hg] at h41 h71 h58
  have h25b:=f25_1 b _ hbo
  have hfb:=fees_len hbo
  have hbl2:=hbo.len
  generalize bestL b (wMost b)=best at *
  generalize bestV b (wMost b)=most at *
  refine gives_ofX Try.f15 ?_
  refine V_seq (V_region (S_go 1 (S_end (V_seq (V_region (S_go 1 (S_a [(6,.ret (bellV nums 0 0) ([]))] (ap (f22 (nums)) an) (S_a [(6,.ret (boxO b) ([bellV nums a1 t1]))] (ap (hm) an) (S_go 1 (S_a [(3,.v (PV.agg [I b.cr,I b.wd,I b.st,I b.fn,PV.sl (List.map (fun x=>PV.agg [I x.w,I x.s,PV.sl (List.map I x.may)]) b.rs)]))] (ap ((by simp only [show freezes (List.map rndO b.rs)=List.map (fun x=>PV.agg [I x.w,I x.s,PV.sl (List.map I x.may)]) b.rs from (by first | exact freezes_mapI _ | exact freezes_mapH _ | exact freezes_all (freezes_mapH _) | exact freezes_to (by simp [take_mapL]) (freezes_mapI _))]):PV.agg [I b.cr,I b.wd,I b.st,I b.fn,PV.sl (freezes (List.map rndO b.rs))]=PV.agg [I b.cr,I b.wd,I b.st,I b.fn,PV.sl (List.map (fun x=>PV.agg [I x.w,I x.s,PV.sl (List.map I x.may)]) b.rs)]) an) (S_end (V_seq (V_region (S_go 1 (S_a [(6,.ret (bellV tries 0 0) ([]))] (ap (f22 (tries)) an) (S_go 1 (S_end (V_seq (V_region (S_go 1 (S_a [(6,.ret (PV.tup [lstO best,I most,I 0]) ([]))] (ap (h41) an) (S_go 7 (S_end (V_seq (V_region (S_go 1 (S_a [(6,.ret (PV.tup [lstO (gotG b).fst,I (gotG b).snd,I 0]) ([]))] (ap (h71) an) (S_go 7 (S_end (V_seq (V_seq (V_region (S_go 1 (S_a [(6,.ret (I 0) ([]))] (ap (h58) an) (S_go 15 (S_decF 59 ((gotG b).snd>most) (by omega) (S_go 1 (S_a [(0,.n ((gotG b).fst.length))] (ap ((by simp):some (List.map I (gotG b).fst).length=some (gotG b).fst.length) an) (S_go 2 (S_a [(0,.n (b.rs.length))] (ap ((by simp):some (List.map (fun x=>PV.agg [I x.w,I x.s,PV.sl (List.map I x.may)]) b.rs).length=some b.rs.length) an) (S_go 2 (S_end (V_decF ((↑(gotG b).fst.length:Int)>(↑b.rs.length:Int)) (by omega) (V_skip (V_seq (V_region (S_go 2 (S_a [(5,.ob),(0,.v (PV.sl (List.map I best))),(2,.ret (PV.own 1 (List.map I (feesL b best))) ([])),(1,.yes)] (ap ((by exact ble_of (by simp only [List.length_map,List.length_set,List.length_append,List.length_cons,List.length_nil,limit]<;>omega)):(0+(List.map I best).length).ble (List.map I best).length=true) (ap ((sl_ext (freezes_all (freezes_mapH _))):PV.sl (freezes (List.take (List.map I best).length (List.drop 0 (List.map I best))))=PV.sl (List.map I best)) (ap (h25b) (ap ((by exact frees_map _):(PV.own 1 (List.map I (feesL b best))).free=true) an)))) (S_go 1 (S_end (V_seq (V_seq (V_region (S_go 1 (S_a [(0,.v (PV.bool false))] (ap (bv_nil1 (by first | omega | (simp<;>omega)):binV Try.prog BinOp.eql 22 (PV.bor 13 [] 1 0 (List.map I (feesL b best)).length) (constPV (Value.slice none 0 0))=some (PV.bool false)) an) (S_go 2 (S_a [(3,.ob),(0,.v (PV.sl (List.map I (feesL b best)))),(2,.ret (I (maxL (feesL b best))) ([]))] (ap ((by exact ble_of (by simp only [List.length_map,List.length_set,List.length_append,List.length_cons,List.length_nil,limit]<;>omega)):(0+(List.map I (feesL b best)).length).ble (List.map I (feesL b best)).length=true) (ap ((sl_ext (freezes_all (freezes_mapH _))):PV.sl (freezes (List.take (List.map I (feesL b best)).length (List.drop 0 (List.map I (feesL b best)))))=PV.sl (List.map I (feesL b best))) (ap (f53 (feesL b best) (by omega) (by omega)) an))) (S_go 3 (S_end (V_ndecF (maxL (feesL b best)=most) (by omega) (V_skip (V_seq (V_seq (V_region (S_go 1 (S_end (V_block 0 ?_)))))))))))))))))))))))))))))))))))))))))))))))))))))))))))))))))))
  refine V_loopS (fun (i,a,t)=>i≤6∧BellOk tries a) (fun (i,a,t)=>[(6,bellV tries a t),(78,I (i:Nat))]) (fun (i,_,_)=>6-i) ((0:Nat),(0:Nat),(0:Int)) ⟨by omega,Nat.zero_le _,h2⟩ fun (i,a,t) ⟨hi,ha⟩=>?_
  by_cases hi6:i<6
  · by_cases hi0:0<i
    · obtain ⟨v,h',hsh,s,a3,t3,rfl,rfl,hs,ha3⟩:=f23_ex tries a t b ha hg
      obtain ⟨z1,z2,z3,z4,z5⟩:=settle_props hs
      obtain ⟨z6,z7⟩:=settled_even z1 z3
      have h36:=f36 b s hsm (by have:=hs.len;omega)
      rw [share_err hs] at h36
      have hbs:=hbest s hs
      generalize hz:settleL b s=z at *
      have h25s:=f25_1 b s hs
      have h25z:=f25_1 b z z1
      have h32:=f32_2 b z hsm z1 z6
      have hfs:=fees_len hs
      have hfz:=fees_len z1
      have hsl:=hs.len
      have hzl:=z1.len
      have hzb:=fees_bd z1
      have hzr:=z1.rng
      have hev:=fun r d hr hd hne=>fees_ev z1 z7 (r:=r) (d:=d) hr hd hne
      have hzz:0<((feesL b z).map I).length:=by rw [List.length_map];omega
      clear hs hz hbest z1 z3 z6 z7
      by_cases hk0:settleK b s=0
      · have hzs:=z5 hk0
        clear z5
        refine V_seq (V_region (S_go 1 (S_end (V_seq (V_decT ((↑i:Int)<6) (by omega) (V_skip (V_seq (V_block 1 (V_seq (V_region (S_go 2 (S_end (V_seq (V_region (S_go 1 (S_a [(1,.v (PV.bor 7 [] 1 0 best.length))] (ap ((by simp):PV.bor 7 [] 1 0 (List.map I best).length=PV.bor 7 [] 1 0 best.length) an) (S_end (V_seq (V_seq (V_region (S_go 2 (S_end (V_decT ((↑i:Int)>0) (by omega) (V_region (S_go 2 (S_a [(6,.ret (PV.own 1 (List.map I s)) ([bellV tries a3 t3]))] (ap (hsh) an) (S_go 1 (S_end (V_seq (V_region (S_go 2 (S_a [(5,.ob),(0,.v (PV.sl (List.map I s))),(2,.ret (PV.own 1 (List.map I (feesL b s))) ([])),(1,.yes)] (ap ((by exact ble_of (by simp only [List.length_map,List.length_set,List.length_append,List.length_cons,List.length_nil,limit]<;>omega)):(0+(List.map I s).length).ble (List.map I s).length=true) (ap ((sl_ext (freezes_all (freezes_mapH _))):PV.sl (freezes (List.take (List.map I s).length (List.drop 0 (List.map I s))))=PV.sl (List.map I s)) (ap (h25s) (ap ((by exact frees_map _):(PV.own 1 (List.map I (feesL b s))).free=true) an)))) (S_a [(3,.ob),(0,.v (PV.sl (List.map I (feesL b s)))),(2,.ret (I (maxL (feesL b s))) ([]))] (ap ((by exact ble_of (by simp only [List.length_map,List.length_set,List.length_append,List.length_cons,List.length_nil,limit]<;>omega)):(0+(List.map I (feesL b s)).length).ble (List.map I (feesL b s)).length=true) (ap ((sl_ext (freezes_all (freezes_mapH _))):PV.sl (freezes (List.take (List.map I (feesL b s)).length (List.drop 0 (List.map I (feesL b s)))))=PV.sl (List.map I (feesL b s))) (ap (f53 (feesL b s) (by omega) (by omega)) an))) (S_go 1 (S_end (V_seq (V_region (S_go 2 (S_a [(5,.ob),(0,.v (PV.sl (List.map I s))),(2,.ret (PV.tup [PV.own 1 (List.map I z),I (settleK b s),I 0]) ([])),(1,.yes)] (ap ((by exact ble_of (by simp only [List.length_map,List.length_set,List.length_append,List.length_cons,List.length_nil,limit]<;>omega)):(0+(List.map I s).length).ble (List.map I s).length=true) (ap ((sl_ext (freezes_all (freezes_mapH _))):PV.sl (freezes (List.take (List.map I s).length (List.drop 0 (List.map I s))))=PV.sl (List.map I s)) (ap (h36) (ap ((by exact ob_and (frees_map _) rfl):(PV.tup [PV.own 1 (List.map I z),I (settleK b s),I 0]).free=true) an)))) (S_go 7 (S_end (V_seq (V_region (S_go 2 (S_a [(5,.ob),(0,.v (PV.sl (List.map I z))),(2,.ret (PV.own 1 (List.map I (feesL b z))) ([])),(1,.yes)] (ap ((by exact ble_of (by simp only [List.length_map,List.length_set,List.length_append,List.length_cons,List.length_nil,limit]<;>omega)):(0+(List.map I z).length).ble (List.map I z).length=true) (ap ((sl_ext (freezes_all (freezes_mapH _))):PV.sl (freezes (List.take (List.map I z).length (List.drop 0 (List.map I z))))=PV.sl (List.map I z)) (ap (h25z) (ap ((by exact frees_map _):(PV.own 1 (List.map I (feesL b z))).free=true) an)))) (S_go 1 (S_end (V_seq (V_seq (V_region (S_go 4 (S_a [(0,.v (PV.bool false))] (ap (bv_nil1 (by omega):binV Try.prog BinOp.eql 22 (PV.bor 20 [] 1 0 (List.map I (feesL b z)).length) (constPV (Value.slice none 0 0))=some (PV.bool false)) an) (S_go 6 (S_decF 111 (settleK b s<0) (by omega) (S_go 1 (S_a [(3,.ob),(0,.v (PV.sl (List.map I (feesL b z)))),(2,.ret (I (maxL (feesL b z))) ([]))] (ap ((by exact ble_of (by simp only [List.length_map,List.length_set,List.length_append,List.length_cons,List.length_nil,limit]<;>omega)):(0+(List.map I (feesL b z)).length).ble (List.map I (feesL b z)).length=true) (ap ((sl_ext (freezes_all (freezes_mapH _))):PV.sl (freezes (List.take (List.map I (feesL b z)).length (List.drop 0 (List.map I (feesL b z)))))=PV.sl (List.map I (feesL b z))) (ap (f53 (feesL b z) (by omega) (by omega)) an))) (S_go 4 (S_decF 117 (maxL (feesL b z)>maxL (feesL b s)) (by omega) (S_go 5 (S_decF 122 (maxL (feesL b s)<most) (by omega) (S_go 3 (S_decT 125 (settleK b s=0) (by omega) (S_go 2 (S_a [(3,.ob),(0,.v (PV.sl (List.map I z))),(1,.ob),(0,.v (PV.sl (List.map I s))),(2,.ret (PV.bool (decide (z=s))) ([]))] (ap ((by exact ble_of (by simp only [List.length_map,List.length_set,List.length_append,List.length_cons,List.length_nil,limit]<;>omega)):(0+(List.map I z).length).ble (List.map I z).length=true) (ap ((sl_ext (freezes_all (freezes_mapH _))):PV.sl (freezes (List.take (List.map I z).length (List.drop 0 (List.map I z))))=PV.sl (List.map I z)) (ap ((by exact ble_of (by simp only [List.length_map,List.length_set,List.length_append,List.length_cons,List.length_nil,limit]<;>omega)):(0+(List.map I s).length).ble (List.map I s).length=true) (ap ((sl_ext (freezes_all (freezes_mapH _))):PV.sl (freezes (List.take (List.map I s).length (List.drop 0 (List.map I s))))=PV.sl (List.map I s)) (ap (f20 (z) (s) (by omega)) an))))) (S_go 3 (S_end (V_ndecF (z=s) (by omega) (V_skip (V_seq (V_seq (V_region (S_go 1 (S_a [(0,.n (z.length))] (ap ((by simp):some (List.map I z).length=some z.length) an) (S_go 1 (S_end (V_block 2 ?_))))))))))))))))))))))))))))))))))))))))))))))))))))))))))))))))))))))))))))
        refine V_loopS (fun r=>r≤z.length) (fun r=>[(134,I (r:Nat))]) (fun r=>z.length-r) (0:Nat) (Nat.zero_le _) fun r hr=>?_
        by_cases hrl2:r<z.length
        · have hmay:=good_may hg (i:=r) (by omega)
          have hml:=incr_len hmay.2.2 hmay.2.1 hcr
          have hzc:=getD_all hzr r hrl2
          refine V_seq (V_region (S_go 1 (S_end (V_seq (V_decT ((↑r:Int)<(↑z.length:Int)) (by omega) (V_skip (V_seq (V_block 3 (V_seq (V_region (S_go 1 (S_a [(2,.ob),(1,.n (r))] (ap ((by exact dec_of (by simp only [List.length_map,List.length_set,List.length_append,List.length_cons,List.length_nil]<;>omega)):decide (r<(List.map I z).length)=true) (ap ((by simp):some (0+r)=some r) an)) (S_a [(0,.cs false ([I (z.getD r 0)]))] (ap (rc_at (q:=PV.own 1 (List.map I z)) (xs:=List.map I z) (x:=I (z.getD r 0)) rfl (getm (0) (by omega)):readCells 17 (PV.own 1 (List.map I z)) [] r 0 1=some (false,[I (z.getD r 0)])) an) (S_go 2 (S_end (V_seq (V_region (S_go 3 (S_a [(2,.v (PV.agg [I (b.rs.getD r default).w,I (b.rs.getD r default).s,PV.sl (List.map I (b.rs.getD r default).may)]))] (ap (getm (default) (by omega):(List.map (fun x=>PV.agg [I x.w,I x.s,PV.sl (List.map I x.may)]) b.rs)[r]? = some (PV.agg [I (b.rs.getD r default).w,I (b.rs.getD r default).s,PV.sl (List.map I (b.rs.getD r default).may)])) an) (S_go 2 (S_a [(0,.n ((b.rs.getD r default).may.length))] (ap ((by simp):some (List.map I (b.rs.getD r default).may).length=some (b.rs.getD r default).may.length) an) (S_go 1 (S_end (V_block 4 ?_))))))))))))))))))))))))
          refine V_loopS (fun d=>d≤(b.rs.getD r default).may.length) (fun d=>[(146,I (d:Nat))]) (fun d=>(b.rs.getD r default).may.length-d) (0:Nat) (Nat.zero_le _) fun d hd=>?_
          by_cases hdl:d<(b.rs.getD r default).may.length
          · have hmd:=getD_all hmay.2.1 d hdl
            by_cases he:(b.rs.getD r default).may.getD d 0=z.getD r 0
            · refine V_seq (V_region (S_go 1 (S_end (V_seq (V_decT ((↑d:Int)<(↑(b.rs.getD r default).may.length:Int)) (by omega) (V_skip (V_seq (V_block 5 (V_seq (V_region (S_a [(2,.v (I ((b.rs.getD r default).may.getD d 0)))] (ap (getm (0) (by omega):(List.map I (b.rs.getD r default).may)[d]? = some (I ((b.rs.getD r default).may.getD d 0))) an) (S_go 2 (S_end (V_seq (V_region (S_go 4 (S_ndecF 153 ((b.rs.getD r default).may.getD d 0=z.getD r 0) (by omega) (S_go 14 (S_end (V_false (V_skip (V_region (S_a [(1,.v (I (↑(d+1):Int)))] (ap ((wrapE (by omega) (by omega)):I (IntKind.i64.wrap ((↑d:Int)+1))=I (↑(d+1):Int)) an) (S_go 1 (S_end ?_)))))))))))))))))))))))))
              exact ⟨d+1,by omega,by omega,by kernel_rfl,by kernel_rfl⟩
            · have he2:=hev r d hrl2 hdl he
              have hv1:=getD_all hzb (z.getD r 0).toNat (by omega)
              have hv2:=getD_all hzb ((b.rs.getD r default).may.getD d 0).toNat (by omega)
              have h57:=f57 b r (by omega) hg
              clear hev
              refine V_seq (V_region (S_go 1 (S_end (V_seq (V_decT ((↑d:Int)<(↑(b.rs.getD r default).may.length:Int)) (by omega) (V_skip (V_seq (V_block 5 (V_seq (V_region (S_a [(2,.v (I ((b.rs.getD r default).may.getD d 0)))] (ap (getm (0) (by omega):(List.map I (b.rs.getD r default).may)[d]? = some (I ((b.rs.getD r default).may.getD d 0))) an) (S_go 2 (S_end (V_seq (V_region (S_go 4 (S_ndecT 153 ((b.rs.getD r default).may.getD d 0=z.getD r 0) (by omega) (S_go 2 (S_a [(0,.ob),(1,.ob),(1,.n ((z.getD r 0).toNat))] (ap ((by exact dec_of (by omega)):decide (0≤z.getD r 0)=true) (ap ((by exact dec_of (by simp only [List.length_map,List.length_set,List.length_append,List.length_cons,List.length_nil]<;>omega)):decide ((z.getD r 0).toNat<(List.map I (feesL b z)).length)=true) (ap ((by simp):some (0+(z.getD r 0).toNat)=some (z.getD r 0).toNat) an))) (S_a [(0,.cs false ([I ((feesL b z).getD (z.getD r 0).toNat 0)]))] (ap (rc_at (q:=PV.own 1 (List.map I (feesL b z))) (xs:=List.map I (feesL b z)) (x:=I ((feesL b z).getD (z.getD r 0).toNat 0)) rfl (getm (0) (by omega)):readCells 20 (PV.own 1 (List.map I (feesL b z))) [] (z.getD r 0).toNat 0 1=some (false,[I ((feesL b z).getD (z.getD r 0).toNat 0)])) an) (S_go 2 (S_a [(0,.ob),(1,.ob),(1,.n (((b.rs.getD r default).may.getD d 0).toNat))] (ap ((by exact dec_of (by omega)):decide (0≤(b.rs.getD r default).may.getD d 0)=true) (ap ((by exact dec_of (by simp only [List.length_map,List.length_set,List.length_append,List.length_cons,List.length_nil]<;>omega)):decide (((b.rs.getD r default).may.getD d 0).toNat<(List.map I (feesL b z)).length)=true) (ap ((by simp):some (0+((b.rs.getD r default).may.getD d 0).toNat)=some ((b.rs.getD r default).may.getD d 0).toNat) an))) (S_a [(0,.cs false ([I ((feesL b z).getD ((b.rs.getD r default).may.getD d 0).toNat 0)]))] (ap (rc_at (q:=PV.own 1 (List.map I (feesL b z))) (xs:=List.map I (feesL b z)) (x:=I ((feesL b z).getD ((b.rs.getD r default).may.getD d 0).toNat 0)) rfl (getm (0) (by omega)):readCells 20 (PV.own 1 (List.map I (feesL b z))) [] ((b.rs.getD r default).may.getD d 0).toNat 0 1=some (false,[I ((feesL b z).getD ((b.rs.getD r default).may.getD d 0).toNat 0)])) an) (S_a [(1,.v (I ((feesL b z).getD (z.getD r 0).toNat 0-(feesL b z).getD ((b.rs.getD r default).may.getD d 0).toNat 0)))] (ap ((wrapE rfl (by omega)):I (IntKind.i64.wrap ((feesL b z).getD (z.getD r 0).toNat 0-(feesL b z).getD ((b.rs.getD r default).may.getD d 0).toNat 0))=I ((feesL b z).getD (z.getD r 0).toNat 0-(feesL b z).getD ((b.rs.getD r default).may.getD d 0).toNat 0)) an) (S_go 2 (S_a [(8,.ret (I (feeOf b (rnd b r))) ([]))] (ap (h57) an) (S_go 2 (S_end (V_decF ((feesL b z).getD (z.getD r 0).toNat 0-(feesL b z).getD ((b.rs.getD r default).may.getD d 0).toNat 0>feeOf b (rnd b r)) (by omega) (V_skip (V_region (S_a [(1,.v (I (↑(d+1):Int)))] (ap ((wrapE (by omega) (by omega)):I (IntKind.i64.wrap ((↑d:Int)+1))=I (↑(d+1):Int)) an) (S_go 1 (S_end ?_))))))))))))))))))))))))))))))))))
              exact ⟨d+1,by omega,by omega,by kernel_rfl,by kernel_rfl⟩
          · refine V_seq (V_region (S_go 1 (S_end (V_seq (V_decF ((↑d:Int)<(↑(b.rs.getD r default).may.length:Int)) (by omega) (V_exit 4 (V_region (S_a [(1,.v (I (↑(r+1):Int)))] (ap ((wrapE (by omega) (by omega)):I (IntKind.i64.wrap ((↑r:Int)+1))=I (↑(r+1):Int)) an) (S_go 1 (S_end ?_))))))))))
            exact ⟨r+1,by omega,by omega,by kernel_rfl,by kernel_rfl⟩
        · refine V_seq (V_region (S_go 1 (S_end (V_seq (V_decF ((↑r:Int)<(↑z.length:Int)) (by omega) (V_exit 2 (V_seq (V_region (S_go 2 (S_a [(5,.ob),(0,.v (PV.sl (List.map I z))),(2,.ret (PV.tup [PV.nils 0,I 0]) ([]))] (ap ((by exact ble_of (by simp only [List.length_map,List.length_set,List.length_append,List.length_cons,List.length_nil,limit]<;>omega)):(0+(List.map I z).length).ble (List.map I z).length=true) (ap ((sl_ext (freezes_all (freezes_mapH _))):PV.sl (freezes (List.take (List.map I z).length (List.drop 0 (List.map I z))))=PV.sl (List.map I z)) (ap (h32) an))) (S_go 5 (S_end (V_seq (V_region (S_go 7 (S_end (V_false (V_skip (V_region (S_a [(1,.v (I (↑(i+1):Int)))] (ap ((wrapE (by omega) (by omega)):I (IntKind.i64.wrap ((↑i:Int)+1))=I (↑(i+1):Int)) an) (S_go 1 (S_end ?_))))))))))))))))))))))
          exact ⟨(i+1,a3,t3),⟨by omega,ha3⟩,by simp only;omega,by kernel_rfl,by kernel_rfl⟩
      · clear z5
        refine V_seq (V_region (S_go 1 (S_end (V_seq (V_decT ((↑i:Int)<6) (by omega) (V_skip (V_seq (V_block 1 (V_seq (V_region (S_go 2 (S_end (V_seq (V_region (S_go 1 (S_a [(1,.v (PV.bor 7 [] 1 0 best.length))] (ap ((by simp):PV.bor 7 [] 1 0 (List.map I best).length=PV.bor 7 [] 1 0 best.length) an) (S_end (V_seq (V_seq (V_region (S_go 2 (S_end (V_decT ((↑i:Int)>0) (by omega) (V_region (S_go 2 (S_a [(6,.ret (PV.own 1 (List.map I s)) ([bellV tries a3 t3]))] (ap (hsh) an) (S_go 1 (S_end (V_seq (V_region (S_go 2 (S_a [(5,.ob),(0,.v (PV.sl (List.map I s))),(2,.ret (PV.own 1 (List.map I (feesL b s))) ([])),(1,.yes)] (ap ((by exact ble_of (by simp only [List.length_map,List.length_set,List.length_append,List.length_cons,List.length_nil,limit]<;>omega)):(0+(List.map I s).length).ble (List.map I s).length=true) (ap ((sl_ext (freezes_all (freezes_mapH _))):PV.sl (freezes (List.take (List.map I s).length (List.drop 0 (List.map I s))))=PV.sl (List.map I s)) (ap (h25s) (ap ((by exact frees_map _):(PV.own 1 (List.map I (feesL b s))).free=true) an)))) (S_a [(3,.ob),(0,.v (PV.sl (List.map I (feesL b s)))),(2,.ret (I (maxL (feesL b s))) ([]))] (ap ((by exact ble_of (by simp only [List.length_map,List.length_set,List.length_append,List.length_cons,List.length_nil,limit]<;>omega)):(0+(List.map I (feesL b s)).length).ble (List.map I (feesL b s)).length=true) (ap ((sl_ext (freezes_all (freezes_mapH _))):PV.sl (freezes (List.take (List.map I (feesL b s)).length (List.drop 0 (List.map I (feesL b s)))))=PV.sl (List.map I (feesL b s))) (ap (f53 (feesL b s) (by omega) (by omega)) an))) (S_go 1 (S_end (V_seq (V_region (S_go 2 (S_a [(5,.ob),(0,.v (PV.sl (List.map I s))),(2,.ret (PV.tup [PV.own 1 (List.map I z),I (settleK b s),I 0]) ([])),(1,.yes)] (ap ((by exact ble_of (by simp only [List.length_map,List.length_set,List.length_append,List.length_cons,List.length_nil,limit]<;>omega)):(0+(List.map I s).length).ble (List.map I s).length=true) (ap ((sl_ext (freezes_all (freezes_mapH _))):PV.sl (freezes (List.take (List.map I s).length (List.drop 0 (List.map I s))))=PV.sl (List.map I s)) (ap (h36) (ap ((by exact ob_and (frees_map _) rfl):(PV.tup [PV.own 1 (List.map I z),I (settleK b s),I 0]).free=true) an)))) (S_go 7 (S_end (V_seq (V_region (S_go 2 (S_a [(5,.ob),(0,.v (PV.sl (List.map I z))),(2,.ret (PV.own 1 (List.map I (feesL b z))) ([])),(1,.yes)] (ap ((by exact ble_of (by simp only [List.length_map,List.length_set,List.length_append,List.length_cons,List.length_nil,limit]<;>omega)):(0+(List.map I z).length).ble (List.map I z).length=true) (ap ((sl_ext (freezes_all (freezes_mapH _))):PV.sl (freezes (List.take (List.map I z).length (List.drop 0 (List.map I z))))=PV.sl (List.map I z)) (ap (h25z) (ap ((by exact frees_map _):(PV.own 1 (List.map I (feesL b z))).free=true) an)))) (S_go 1 (S_end (V_seq (V_seq (V_region (S_go 4 (S_a [(0,.v (PV.bool false))] (ap (bv_nil1 (by omega):binV Try.prog BinOp.eql 22 (PV.bor 20 [] 1 0 (List.map I (feesL b z)).length) (constPV (Value.slice none 0 0))=some (PV.bool false)) an) (S_go 6 (S_decF 111 (settleK b s<0) (by omega) (S_go 1 (S_a [(3,.ob),(0,.v (PV.sl (List.map I (feesL b z)))),(2,.ret (I (maxL (feesL b z))) ([]))] (ap ((by exact ble_of (by simp only [List.length_map,List.length_set,List.length_append,List.length_cons,List.length_nil,limit]<;>omega)):(0+(List.map I (feesL b z)).length).ble (List.map I (feesL b z)).length=true) (ap ((sl_ext (freezes_all (freezes_mapH _))):PV.sl (freezes (List.take (List.map I (feesL b z)).length (List.drop 0 (List.map I (feesL b z)))))=PV.sl (List.map I (feesL b z))) (ap (f53 (feesL b z) (by omega) (by omega)) an))) (S_go 4 (S_decF 117 (maxL (feesL b z)>maxL (feesL b s)) (by omega) (S_go 5 (S_decF 122 (maxL (feesL b s)<most) (by omega) (S_go 3 (S_decF 125 (settleK b s=0) (by omega) (S_go 6 (S_end (V_false (V_skip (V_seq (V_seq (V_region (S_go 1 (S_a [(0,.n (z.length))] (ap ((by simp):some (List.map I z).length=some z.length) an) (S_go 1 (S_end (V_block 2 ?_))))))))))))))))))))))))))))))))))))))))))))))))))))))))))))))))))))))))))
        refine V_loopS (fun r=>r≤z.length) (fun r=>[(134,I (r:Nat))]) (fun r=>z.length-r) (0:Nat) (Nat.zero_le _) fun r hr=>?_
        by_cases hrl2:r<z.length
        · have hmay:=good_may hg (i:=r) (by omega)
          have hml:=incr_len hmay.2.2 hmay.2.1 hcr
          have hzc:=getD_all hzr r hrl2
          refine V_seq (V_region (S_go 1 (S_end (V_seq (V_decT ((↑r:Int)<(↑z.length:Int)) (by omega) (V_skip (V_seq (V_block 3 (V_seq (V_region (S_go 1 (S_a [(2,.ob),(1,.n (r))] (ap ((by exact dec_of (by simp only [List.length_map,List.length_set,List.length_append,List.length_cons,List.length_nil]<;>omega)):decide (r<(List.map I z).length)=true) (ap ((by simp):some (0+r)=some r) an)) (S_a [(0,.cs false ([I (z.getD r 0)]))] (ap (rc_at (q:=PV.own 1 (List.map I z)) (xs:=List.map I z) (x:=I (z.getD r 0)) rfl (getm (0) (by omega)):readCells 17 (PV.own 1 (List.map I z)) [] r 0 1=some (false,[I (z.getD r 0)])) an) (S_go 2 (S_end (V_seq (V_region (S_go 3 (S_a [(2,.v (PV.agg [I (b.rs.getD r default).w,I (b.rs.getD r default).s,PV.sl (List.map I (b.rs.getD r default).may)]))] (ap (getm (default) (by omega):(List.map (fun x=>PV.agg [I x.w,I x.s,PV.sl (List.map I x.may)]) b.rs)[r]? = some (PV.agg [I (b.rs.getD r default).w,I (b.rs.getD r default).s,PV.sl (List.map I (b.rs.getD r default).may)])) an) (S_go 2 (S_a [(0,.n ((b.rs.getD r default).may.length))] (ap ((by simp):some (List.map I (b.rs.getD r default).may).length=some (b.rs.getD r default).may.length) an) (S_go 1 (S_end (V_block 4 ?_))))))))))))))))))))))))
          refine V_loopS (fun d=>d≤(b.rs.getD r default).may.length) (fun d=>[(146,I (d:Nat))]) (fun d=>(b.rs.getD r default).may.length-d) (0:Nat) (Nat.zero_le _) fun d hd=>?_
          by_cases hdl:d<(b.rs.getD r default).may.length
          · have hmd:=getD_all hmay.2.1 d hdl
            by_cases he:(b.rs.getD r default).may.getD d 0=z.getD r 0
            · refine V_seq (V_region (S_go 1 (S_end (V_seq (V_decT ((↑d:Int)<(↑(b.rs.getD r default).may.length:Int)) (by omega) (V_skip (V_seq (V_block 5 (V_seq (V_region (S_a [(2,.v (I ((b.rs.getD r default).may.getD d 0)))] (ap (getm (0) (by omega):(List.map I (b.rs.getD r default).may)[d]? = some (I ((b.rs.getD r default).may.getD d 0))) an) (S_go 2 (S_end (V_seq (V_region (S_go 4 (S_ndecF 153 ((b.rs.getD r default).may.getD d 0=z.getD r 0) (by omega) (S_go 14 (S_end (V_false (V_skip (V_region (S_a [(1,.v (I (↑(d+1):Int)))] (ap ((wrapE (by omega) (by omega)):I (IntKind.i64.wrap ((↑d:Int)+1))=I (↑(d+1):Int)) an) (S_go 1 (S_end ?_)))))))))))))))))))))))))
              exact ⟨d+1,by omega,by omega,by kernel_rfl,by kernel_rfl⟩
            · have he2:=hev r d hrl2 hdl he
              have hv1:=getD_all hzb (z.getD r 0).toNat (by omega)
              have hv2:=getD_all hzb ((b.rs.getD r default).may.getD d 0).toNat (by omega)
              have h57:=f57 b r (by omega) hg
              clear hev
              refine V_seq (V_region (S_go 1 (S_end (V_seq (V_decT ((↑d:Int)<(↑(b.rs.getD r default).may.length:Int)) (by omega) (V_skip (V_seq (V_block 5 (V_seq (V_region (S_a [(2,.v (I ((b.rs.getD r default).may.getD d 0)))] (ap (getm (0) (by omega):(List.map I (b.rs.getD r default).may)[d]? = some (I ((b.rs.getD r default).may.getD d 0))) an) (S_go 2 (S_end (V_seq (V_region (S_go 4 (S_ndecT 153 ((b.rs.getD r default).may.getD d 0=z.getD r 0) (by omega) (S_go 2 (S_a [(0,.ob),(1,.ob),(1,.n ((z.getD r 0).toNat))] (ap ((by exact dec_of (by omega)):decide (0≤z.getD r 0)=true) (ap ((by exact dec_of (by simp only [List.length_map,List.length_set,List.length_append,List.length_cons,List.length_nil]<;>omega)):decide ((z.getD r 0).toNat<(List.map I (feesL b z)).length)=true) (ap ((by simp):some (0+(z.getD r 0).toNat)=some (z.getD r 0).toNat) an))) (S_a [(0,.cs false ([I ((feesL b z).getD (z.getD r 0).toNat 0)]))] (ap (rc_at (q:=PV.own 1 (List.map I (feesL b z))) (xs:=List.map I (feesL b z)) (x:=I ((feesL b z).getD (z.getD r 0).toNat 0)) rfl (getm (0) (by omega)):readCells 20 (PV.own 1 (List.map I (feesL b z))) [] (z.getD r 0).toNat 0 1=some (false,[I ((feesL b z).getD (z.getD r 0).toNat 0)])) an) (S_go 2 (S_a [(0,.ob),(1,.ob),(1,.n (((b.rs.getD r default).may.getD d 0).toNat))] (ap ((by exact dec_of (by omega)):decide (0≤(b.rs.getD r default).may.getD d 0)=true) (ap ((by exact dec_of (by simp only [List.length_map,List.length_set,List.length_append,List.length_cons,List.length_nil]<;>omega)):decide (((b.rs.getD r default).may.getD d 0).toNat<(List.map I (feesL b z)).length)=true) (ap ((by simp):some (0+((b.rs.getD r default).may.getD d 0).toNat)=some ((b.rs.getD r default).may.getD d 0).toNat) an))) (S_a [(0,.cs false ([I ((feesL b z).getD ((b.rs.getD r default).may.getD d 0).toNat 0)]))] (ap (rc_at (q:=PV.own 1 (List.map I (feesL b z))) (xs:=List.map I (feesL b z)) (x:=I ((feesL b z).getD ((b.rs.getD r default).may.getD d 0).toNat 0)) rfl (getm (0) (by omega)):readCells 20 (PV.own 1 (List.map I (feesL b z))) [] ((b.rs.getD r default).may.getD d 0).toNat 0 1=some (false,[I ((feesL b z).getD ((b.rs.getD r default).may.getD d 0).toNat 0)])) an) (S_a [(1,.v (I ((feesL b z).getD (z.getD r 0).toNat 0-(feesL b z).getD ((b.rs.getD r default).may.getD d 0).toNat 0)))] (ap ((wrapE rfl (by omega)):I (IntKind.i64.wrap ((feesL b z).getD (z.getD r 0).toNat 0-(feesL b z).getD ((b.rs.getD r default).may.getD d 0).toNat 0))=I ((feesL b z).getD (z.getD r 0).toNat 0-(feesL b z).getD ((b.rs.getD r default).may.getD d 0).toNat 0)) an) (S_go 2 (S_a [(8,.ret (I (feeOf b (rnd b r))) ([]))] (ap (h57) an) (S_go 2 (S_end (V_decF ((feesL b z).getD (z.getD r 0).toNat 0-(feesL b z).getD ((b.rs.getD r default).may.getD d 0).toNat 0>feeOf b (rnd b r)) (by omega) (V_skip (V_region (S_a [(1,.v (I (↑(d+1):Int)))] (ap ((wrapE (by omega) (by omega)):I (IntKind.i64.wrap ((↑d:Int)+1))=I (↑(d+1):Int)) an) (S_go 1 (S_end ?_))))))))))))))))))))))))))))))))))
              exact ⟨d+1,by omega,by omega,by kernel_rfl,by kernel_rfl⟩
          · refine V_seq (V_region (S_go 1 (S_end (V_seq (V_decF ((↑d:Int)<(↑(b.rs.getD r default).may.length:Int)) (by omega) (V_exit 4 (V_region (S_a [(1,.v (I (↑(r+1):Int)))] (ap ((wrapE (by omega) (by omega)):I (IntKind.i64.wrap ((↑r:Int)+1))=I (↑(r+1):Int)) an) (S_go 1 (S_end ?_))))))))))
            exact ⟨r+1,by omega,by omega,by kernel_rfl,by kernel_rfl⟩
        · refine V_seq (V_region (S_go 1 (S_end (V_seq (V_decF ((↑r:Int)<(↑z.length:Int)) (by omega) (V_exit 2 (V_seq (V_region (S_go 2 (S_a [(5,.ob),(0,.v (PV.sl (List.map I z))),(2,.ret (PV.tup [PV.nils 0,I 0]) ([]))] (ap ((by exact ble_of (by simp only [List.length_map,List.length_set,List.length_append,List.length_cons,List.length_nil,limit]<;>omega)):(0+(List.map I z).length).ble (List.map I z).length=true) (ap ((sl_ext (freezes_all (freezes_mapH _))):PV.sl (freezes (List.take (List.map I z).length (List.drop 0 (List.map I z))))=PV.sl (List.map I z)) (ap (h32) an))) (S_go 5 (S_end (V_seq (V_region (S_go 7 (S_end (V_false (V_skip (V_region (S_a [(1,.v (I (↑(i+1):Int)))] (ap ((wrapE (by omega) (by omega)):I (IntKind.i64.wrap ((↑i:Int)+1))=I (↑(i+1):Int)) an) (S_go 1 (S_end ?_))))))))))))))))))))))
          exact ⟨(i+1,a3,t3),⟨by omega,ha3⟩,by simp only;omega,by kernel_rfl,by kernel_rfl⟩
    · have hs := hbo
      obtain ⟨z1,z2,z3,z4,z5⟩:=settle_props hs
      obtain ⟨z6,z7⟩:=settled_even z1 z3
      have h36:=f36 b best hsm (by have:=hs.len;omega)
      rw [share_err hs] at h36
      have hbs:=hbest best hs
      generalize hz:settleL b best=z at *
      have h25s:=f25_1 b best hs
      have h25z:=f25_1 b z z1
      have h32:=f32_2 b z hsm z1 z6
      have hfs:=fees_len hs
      have hfz:=fees_len z1
      have hsl:=hs.len
      have hzl:=z1.len
      have hzb:=fees_bd z1
      have hzr:=z1.rng
      have hev:=fun r d hr hd hne=>fees_ev z1 z7 (r:=r) (d:=d) hr hd hne
      have hzz:0<((feesL b z).map I).length:=by rw [List.length_map];omega
      clear hs hz hbest z1 z3 z6 z7
      by_cases hk0:settleK b best=0
      · have hzs:=z5 hk0
        clear z5
        refine V_seq (V_region (S_go 1 (S_end (V_seq (V_decT ((↑i:Int)<6) (by omega) (V_skip (V_seq (V_block 1 (V_seq (V_region (S_go 2 (S_end (V_seq (V_region (S_go 1 (S_a [(1,.v (PV.bor 7 [] 1 0 best.length))] (ap ((by simp):PV.bor 7 [] 1 0 (List.map I best).length=PV.bor 7 [] 1 0 best.length) an) (S_end (V_seq (V_seq (V_region (S_go 2 (S_end (V_decF ((↑i:Int)>0) (by omega) (V_skip (V_seq (V_region (S_go 2 (S_a [(5,.ob),(0,.v (PV.sl (List.map I best))),(2,.ret (PV.own 1 (List.map I (feesL b best))) ([])),(1,.yes)] (ap ((by exact ble_of (by simp only [List.length_map,List.length_set,List.length_append,List.length_cons,List.length_nil,limit]<;>omega)):(0+best.length).ble (List.map I best).length=true) (ap ((sl_ext (freezes_to (by simp [take_mapL]) (freezes_mapI _))):PV.sl (freezes (List.take best.length (List.drop 0 (List.map I best))))=PV.sl (List.map I best)) (ap (h25b) (ap ((by exact frees_map _):(PV.own 1 (List.map I (feesL b best))).free=true) an)))) (S_a [(3,.ob),(0,.v (PV.sl (List.map I (feesL b best)))),(2,.ret (I (maxL (feesL b best))) ([]))] (ap ((by exact ble_of (by simp only [List.length_map,List.length_set,List.length_append,List.length_cons,List.length_nil,limit]<;>omega)):(0+(List.map I (feesL b best)).length).ble (List.map I (feesL b best)).length=true) (ap ((sl_ext (freezes_all (freezes_mapH _))):PV.sl (freezes (List.take (List.map I (feesL b best)).length (List.drop 0 (List.map I (feesL b best)))))=PV.sl (List.map I (feesL b best))) (ap (f53 (feesL b best) (by omega) (by omega)) an))) (S_go 1 (S_end (V_seq (V_region (S_go 2 (S_a [(5,.ob),(0,.v (PV.sl (List.map I best))),(2,.ret (PV.tup [PV.own 1 (List.map I z),I (settleK b best),I 0]) ([])),(1,.yes)] (ap ((by exact ble_of (by simp only [List.length_map,List.length_set,List.length_append,List.length_cons,List.length_nil,limit]<;>omega)):(0+best.length).ble (List.map I best).length=true) (ap ((sl_ext (freezes_to (by simp [take_mapL]) (freezes_mapI _))):PV.sl (freezes (List.take best.length (List.drop 0 (List.map I best))))=PV.sl (List.map I best)) (ap (h36) (ap ((by exact ob_and (frees_map _) rfl):(PV.tup [PV.own 1 (List.map I z),I (settleK b best),I 0]).free=true) an)))) (S_go 7 (S_end (V_seq (V_region (S_go 2 (S_a [(5,.ob),(0,.v (PV.sl (List.map I z))),(2,.ret (PV.own 1 (List.map I (feesL b z))) ([])),(1,.yes)] (ap ((by exact ble_of (by simp only [List.length_map,List.length_set,List.length_append,List.length_cons,List.length_nil,limit]<;>omega)):(0+(List.map I z).length).ble (List.map I z).length=true) (ap ((sl_ext (freezes_all (freezes_mapH _))):PV.sl (freezes (List.take (List.map I z).length (List.drop 0 (List.map I z))))=PV.sl (List.map I z)) (ap (h25z) (ap ((by exact frees_map _):(PV.own 1 (List.map I (feesL b z))).free=true) an)))) (S_go 1 (S_end (V_seq (V_seq (V_region (S_go 4 (S_a [(0,.v (PV.bool false))] (ap (bv_nil1 (by omega):binV Try.prog BinOp.eql 22 (PV.bor 20 [] 1 0 (List.map I (feesL b z)).length) (constPV (Value.slice none 0 0))=some (PV.bool false)) an) (S_go 6 (S_decF 111 (settleK b best<0) (by omega) (S_go 1 (S_a [(3,.ob),(0,.v (PV.sl (List.map I (feesL b z)))),(2,.ret (I (maxL (feesL b z))) ([]))] (ap ((by exact ble_of (by simp only [List.length_map,List.length_set,List.length_append,List.length_cons,List.length_nil,limit]<;>omega)):(0+(List.map I (feesL b z)).length).ble (List.map I (feesL b z)).length=true) (ap ((sl_ext (freezes_all (freezes_mapH _))):PV.sl (freezes (List.take (List.map I (feesL b z)).length (List.drop 0 (List.map I (feesL b z)))))=PV.sl (List.map I (feesL b z))) (ap (f53 (feesL b z) (by omega) (by omega)) an))) (S_go 4 (S_decF 117 (maxL (feesL b z)>maxL (feesL b best)) (by omega) (S_go 5 (S_decF 122 (maxL (feesL b best)<most) (by omega) (S_go 3 (S_decT 125 (settleK b best=0) (by omega) (S_go 2 (S_a [(3,.ob),(0,.v (PV.sl (List.map I z))),(1,.ob),(0,.v (PV.sl (List.map I best))),(2,.ret (PV.bool (decide (z=best))) ([]))] (ap ((by exact ble_of (by simp only [List.length_map,List.length_set,List.length_append,List.length_cons,List.length_nil,limit]<;>omega)):(0+(List.map I z).length).ble (List.map I z).length=true) (ap ((sl_ext (freezes_all (freezes_mapH _))):PV.sl (freezes (List.take (List.map I z).length (List.drop 0 (List.map I z))))=PV.sl (List.map I z)) (ap ((by exact ble_of (by simp only [List.length_map,List.length_set,List.length_append,List.length_cons,List.length_nil,limit]<;>omega)):(0+best.length).ble (List.map I best).length=true) (ap ((sl_ext (freezes_to (by simp [take_mapL]) (freezes_mapI _))):PV.sl (freezes (List.take best.length (List.drop 0 (List.map I best))))=PV.sl (List.map I best)) (ap (f20 (z) (best) (by omega)) an))))) (S_go 3 (S_end (V_ndecF (z=best) (by omega) (V_skip (V_seq (V_seq (V_region (S_go 1 (S_a [(0,.n (z.length))] (ap ((by simp):some (List.map I z).length=some z.length) an) (S_go 1 (S_end (V_block 2 ?_))))))))))))))))))))))))))))))))))))))))))))))))))))))))))))))))))))))))
        refine V_loopS (fun r=>r≤z.length) (fun r=>[(134,I (r:Nat))]) (fun r=>z.length-r) (0:Nat) (Nat.zero_le _) fun r hr=>?_
        by_cases hrl2:r<z.length
        · have hmay:=good_may hg (i:=r) (by omega)
          have hml:=incr_len hmay.2.2 hmay.2.1 hcr
          have hzc:=getD_all hzr r hrl2
          refine V_seq (V_region (S_go 1 (S_end (V_seq (V_decT ((↑r:Int)<(↑z.length:Int)) (by omega) (V_skip (V_seq (V_block 3 (V_seq (V_region (S_go 1 (S_a [(2,.ob),(1,.n (r))] (ap ((by exact dec_of (by simp only [List.length_map,List.length_set,List.length_append,List.length_cons,List.length_nil]<;>omega)):decide (r<(List.map I z).length)=true) (ap ((by simp):some (0+r)=some r) an)) (S_a [(0,.cs false ([I (z.getD r 0)]))] (ap (rc_at (q:=PV.own 1 (List.map I z)) (xs:=List.map I z) (x:=I (z.getD r 0)) rfl (getm (0) (by omega)):readCells 17 (PV.own 1 (List.map I z)) [] r 0 1=some (false,[I (z.getD r 0)])) an) (S_go 2 (S_end (V_seq (V_region (S_go 3 (S_a [(2,.v (PV.agg [I (b.rs.getD r default).w,I (b.rs.getD r default).s,PV.sl (List.map I (b.rs.getD r default).may)]))] (ap (getm (default) (by omega):(List.map (fun x=>PV.agg [I x.w,I x.s,PV.sl (List.map I x.may)]) b.rs)[r]? = some (PV.agg [I (b.rs.getD r default).w,I (b.rs.getD r default).s,PV.sl (List.map I (b.rs.getD r default).may)])) an) (S_go 2 (S_a [(0,.n ((b.rs.getD r default).may.length))] (ap ((by simp):some (List.map I (b.rs.getD r default).may).length=some (b.rs.getD r default).may.length) an) (S_go 1 (S_end (V_block 4 ?_))))))))))))))))))))))))
          refine V_loopS (fun d=>d≤(b.rs.getD r default).may.length) (fun d=>[(146,I (d:Nat))]) (fun d=>(b.rs.getD r default).may.length-d) (0:Nat) (Nat.zero_le _) fun d hd=>?_
          by_cases hdl:d<(b.rs.getD r default).may.length
          · have hmd:=getD_all hmay.2.1 d hdl
            by_cases he:(b.rs.getD r default).may.getD d 0=z.getD r 0
            · refine V_seq (V_region (S_go 1 (S_end (V_seq (V_decT ((↑d:Int)<(↑(b.rs.getD r default).may.length:Int)) (by omega) (V_skip (V_seq (V_block 5 (V_seq (V_region (S_a [(2,.v (I ((b.rs.getD r default).may.getD d 0)))] (ap (getm (0) (by omega):(List.map I (b.rs.getD r default).may)[d]? = some (I ((b.rs.getD r default).may.getD d 0))) an) (S_go 2 (S_end (V_seq (V_region (S_go 4 (S_ndecF 153 ((b.rs.getD r default).may.getD d 0=z.getD r 0) (by omega) (S_go 14 (S_end (V_false (V_skip (V_region (S_a [(1,.v (I (↑(d+1):Int)))] (ap ((wrapE (by omega) (by omega)):I (IntKind.i64.wrap ((↑d:Int)+1))=I (↑(d+1):Int)) an) (S_go 1 (S_end ?_)))))))))))))))))))))))))
              exact ⟨d+1,by omega,by omega,by kernel_rfl,by kernel_rfl⟩
            · have he2:=hev r d hrl2 hdl he
              have hv1:=getD_all hzb (z.getD r 0).toNat (by omega)
              have hv2:=getD_all hzb ((b.rs.getD r default).may.getD d 0).toNat (by omega)
              have h57:=f57 b r (by omega) hg
              clear hev
              refine V_seq (V_region (S_go 1 (S_end (V_seq (V_decT ((↑d:Int)<(↑(b.rs.getD r default).may.length:Int)) (by omega) (V_skip (V_seq (V_block 5 (V_seq (V_region (S_a [(2,.v (I ((b.rs.getD r default).may.getD d 0)))] (ap (getm (0) (by omega):(List.map I (b.rs.getD r default).may)[d]? = some (I ((b.rs.getD r default).may.getD d 0))) an) (S_go 2 (S_end (V_seq (V_region (S_go 4 (S_ndecT 153 ((b.rs.getD r default).may.getD d 0=z.getD r 0) (by omega) (S_go 2 (S_a [(0,.ob),(1,.ob),(1,.n ((z.getD r 0).toNat))] (ap ((by exact dec_of (by omega)):decide (0≤z.getD r 0)=true) (ap ((by exact dec_of (by simp only [List.length_map,List.length_set,List.length_append,List.length_cons,List.length_nil]<;>omega)):decide ((z.getD r 0).toNat<(List.map I (feesL b z)).length)=true) (ap ((by simp):some (0+(z.getD r 0).toNat)=some (z.getD r 0).toNat) an))) (S_a [(0,.cs false ([I ((feesL b z).getD (z.getD r 0).toNat 0)]))] (ap (rc_at (q:=PV.own 1 (List.map I (feesL b z))) (xs:=List.map I (feesL b z)) (x:=I ((feesL b z).getD (z.getD r 0).toNat 0)) rfl (getm (0) (by omega)):readCells 20 (PV.own 1 (List.map I (feesL b z))) [] (z.getD r 0).toNat 0 1=some (false,[I ((feesL b z).getD (z.getD r 0).toNat 0)])) an) (S_go 2 (S_a [(0,.ob),(1,.ob),(1,.n (((b.rs.getD r default).may.getD d 0).toNat))] (ap ((by exact dec_of (by omega)):decide (0≤(b.rs.getD r default).may.getD d 0)=true) (ap ((by exact dec_of (by simp only [List.length_map,List.length_set,List.length_append,List.length_cons,List.length_nil]<;>omega)):decide (((b.rs.getD r default).may.getD d 0).toNat<(List.map I (feesL b z)).length)=true) (ap ((by simp):some (0+((b.rs.getD r default).may.getD d 0).toNat)=some ((b.rs.getD r default).may.getD d 0).toNat) an))) (S_a [(0,.cs false ([I ((feesL b z).getD ((b.rs.getD r default).may.getD d 0).toNat 0)]))] (ap (rc_at (q:=PV.own 1 (List.map I (feesL b z))) (xs:=List.map I (feesL b z)) (x:=I ((feesL b z).getD ((b.rs.getD r default).may.getD d 0).toNat 0)) rfl (getm (0) (by omega)):readCells 20 (PV.own 1 (List.map I (feesL b z))) [] ((b.rs.getD r default).may.getD d 0).toNat 0 1=some (false,[I ((feesL b z).getD ((b.rs.getD r default).may.getD d 0).toNat 0)])) an) (S_a [(1,.v (I ((feesL b z).getD (z.getD r 0).toNat 0-(feesL b z).getD ((b.rs.getD r default).may.getD d 0).toNat 0)))] (ap ((wrapE rfl (by omega)):I (IntKind.i64.wrap ((feesL b z).getD (z.getD r 0).toNat 0-(feesL b z).getD ((b.rs.getD r default).may.getD d 0).toNat 0))=I ((feesL b z).getD (z.getD r 0).toNat 0-(feesL b z).getD ((b.rs.getD r default).may.getD d 0).toNat 0)) an) (S_go 2 (S_a [(8,.ret (I (feeOf b (rnd b r))) ([]))] (ap (h57) an) (S_go 2 (S_end (V_decF ((feesL b z).getD (z.getD r 0).toNat 0-(feesL b z).getD ((b.rs.getD r default).may.getD d 0).toNat 0>feeOf b (rnd b r)) (by omega) (V_skip (V_region (S_a [(1,.v (I (↑(d+1):Int)))] (ap ((wrapE (by omega) (by omega)):I (IntKind.i64.wrap ((↑d:Int)+1))=I (↑(d+1):Int)) an) (S_go 1 (S_end ?_))))))))))))))))))))))))))))))))))
              exact ⟨d+1,by omega,by omega,by kernel_rfl,by kernel_rfl⟩
          · refine V_seq (V_region (S_go 1 (S_end (V_seq (V_decF ((↑d:Int)<(↑(b.rs.getD r default).may.length:Int)) (by omega) (V_exit 4 (V_region (S_a [(1,.v (I (↑(r+1):Int)))] (ap ((wrapE (by omega) (by omega)):I (IntKind.i64.wrap ((↑r:Int)+1))=I (↑(r+1):Int)) an) (S_go 1 (S_end ?_))))))))))
            exact ⟨r+1,by omega,by omega,by kernel_rfl,by kernel_rfl⟩
        · refine V_seq (V_region (S_go 1 (S_end (V_seq (V_decF ((↑r:Int)<(↑z.length:Int)) (by omega) (V_exit 2 (V_seq (V_region (S_go 2 (S_a [(5,.ob),(0,.v (PV.sl (List.map I z))),(2,.ret (PV.tup [PV.nils 0,I 0]) ([]))] (ap ((by exact ble_of (by simp only [List.length_map,List.length_set,List.length_append,List.length_cons,List.length_nil,limit]<;>omega)):(0+(List.map I z).length).ble (List.map I z).length=true) (ap ((sl_ext (freezes_all (freezes_mapH _))):PV.sl (freezes (List.take (List.map I z).length (List.drop 0 (List.map I z))))=PV.sl (List.map I z)) (ap (h32) an))) (S_go 5 (S_end (V_seq (V_region (S_go 7 (S_end (V_false (V_skip (V_region (S_a [(1,.v (I (↑(i+1):Int)))] (ap ((wrapE (by omega) (by omega)):I (IntKind.i64.wrap ((↑i:Int)+1))=I (↑(i+1):Int)) an) (S_go 1 (S_end ?_))))))))))))))))))))))
          exact ⟨(i+1,a,t),⟨by omega,ha⟩,by simp only;omega,by kernel_rfl,by kernel_rfl⟩
      · clear z5
        refine V_seq (V_region (S_go 1 (S_end (V_seq (V_decT ((↑i:Int)<6) (by omega) (V_skip (V_seq (V_block 1 (V_seq (V_region (S_go 2 (S_end (V_seq (V_region (S_go 1 (S_a [(1,.v (PV.bor 7 [] 1 0 best.length))] (ap ((by simp):PV.bor 7 [] 1 0 (List.map I best).length=PV.bor 7 [] 1 0 best.length) an) (S_end (V_seq (V_seq (V_region (S_go 2 (S_end (V_decF ((↑i:Int)>0) (by omega) (V_skip (V_seq (V_region (S_go 2 (S_a [(5,.ob),(0,.v (PV.sl (List.map I best))),(2,.ret (PV.own 1 (List.map I (feesL b best))) ([])),(1,.yes)] (ap ((by exact ble_of (by simp only [List.length_map,List.length_set,List.length_append,List.length_cons,List.length_nil,limit]<;>omega)):(0+best.length).ble (List.map I best).length=true) (ap ((sl_ext (freezes_to (by simp [take_mapL]) (freezes_mapI _))):PV.sl (freezes (List.take best.length (List.drop 0 (List.map I best))))=PV.sl (List.map I best)) (ap (h25b) (ap ((by exact frees_map _):(PV.own 1 (List.map I (feesL b best))).free=true) an)))) (S_a [(3,.ob),(0,.v (PV.sl (List.map I (feesL b best)))),(2,.ret (I (maxL (feesL b best))) ([]))] (ap ((by exact ble_of (by simp only [List.length_map,List.length_set,List.length_append,List.length_cons,List.length_nil,limit]<;>omega)):(0+(List.map I (feesL b best)).length).ble (List.map I (feesL b best)).length=true) (ap ((sl_ext (freezes_all (freezes_mapH _))):PV.sl (freezes (List.take (List.map I (feesL b best)).length (List.drop 0 (List.map I (feesL b best)))))=PV.sl (List.map I (feesL b best))) (ap (f53 (feesL b best) (by omega) (by omega)) an))) (S_go 1 (S_end (V_seq (V_region (S_go 2 (S_a [(5,.ob),(0,.v (PV.sl (List.map I best))),(2,.ret (PV.tup [PV.own 1 (List.map I z),I (settleK b best),I 0]) ([])),(1,.yes)] (ap ((by exact ble_of (by simp only [List.length_map,List.length_set,List.length_append,List.length_cons,List.length_nil,limit]<;>omega)):(0+best.length).ble (List.map I best).length=true) (ap ((sl_ext (freezes_to (by simp [take_mapL]) (freezes_mapI _))):PV.sl (freezes (List.take best.length (List.drop 0 (List.map I best))))=PV.sl (List.map I best)) (ap (h36) (ap ((by exact ob_and (frees_map _) rfl):(PV.tup [PV.own 1 (List.map I z),I (settleK b best),I 0]).free=true) an)))) (S_go 7 (S_end (V_seq (V_region (S_go 2 (S_a [(5,.ob),(0,.v (PV.sl (List.map I z))),(2,.ret (PV.own 1 (List.map I (feesL b z))) ([])),(1,.yes)] (ap ((by exact ble_of (by simp only [List.length_map,List.length_set,List.length_append,List.length_cons,List.length_nil,limit]<;>omega)):(0+(List.map I z).length).ble (List.map I z).length=true) (ap ((sl_ext (freezes_all (freezes_mapH _))):PV.sl (freezes (List.take (List.map I z).length (List.drop 0 (List.map I z))))=PV.sl (List.map I z)) (ap (h25z) (ap ((by exact frees_map _):(PV.own 1 (List.map I (feesL b z))).free=true) an)))) (S_go 1 (S_end (V_seq (V_seq (V_region (S_go 4 (S_a [(0,.v (PV.bool false))] (ap (bv_nil1 (by omega):binV Try.prog BinOp.eql 22 (PV.bor 20 [] 1 0 (List.map I (feesL b z)).length) (constPV (Value.slice none 0 0))=some (PV.bool false)) an) (S_go 6 (S_decF 111 (settleK b best<0) (by omega) (S_go 1 (S_a [(3,.ob),(0,.v (PV.sl (List.map I (feesL b z)))),(2,.ret (I (maxL (feesL b z))) ([]))] (ap ((by exact ble_of (by simp only [List.length_map,List.length_set,List.length_append,List.length_cons,List.length_nil,limit]<;>omega)):(0+(List.map I (feesL b z)).length).ble (List.map I (feesL b z)).length=true) (ap ((sl_ext (freezes_all (freezes_mapH _))):PV.sl (freezes (List.take (List.map I (feesL b z)).length (List.drop 0 (List.map I (feesL b z)))))=PV.sl (List.map I (feesL b z))) (ap (f53 (feesL b z) (by omega) (by omega)) an))) (S_go 4 (S_decF 117 (maxL (feesL b z)>maxL (feesL b best)) (by omega) (S_go 5 (S_decF 122 (maxL (feesL b best)<most) (by omega) (S_go 3 (S_decF 125 (settleK b best=0) (by omega) (S_go 6 (S_end (V_false (V_skip (V_seq (V_seq (V_region (S_go 1 (S_a [(0,.n (z.length))] (ap ((by simp):some (List.map I z).length=some z.length) an) (S_go 1 (S_end (V_block 2 ?_))))))))))))))))))))))))))))))))))))))))))))))))))))))))))))))))))))))
        refine V_loopS (fun r=>r≤z.length) (fun r=>[(134,I (r:Nat))]) (fun r=>z.length-r) (0:Nat) (Nat.zero_le _) fun r hr=>?_
        by_cases hrl2:r<z.length
        · have hmay:=good_may hg (i:=r) (by omega)
          have hml:=incr_len hmay.2.2 hmay.2.1 hcr
          have hzc:=getD_all hzr r hrl2
          refine V_seq (V_region (S_go 1 (S_end (V_seq (V_decT ((↑r:Int)<(↑z.length:Int)) (by omega) (V_skip (V_seq (V_block 3 (V_seq (V_region (S_go 1 (S_a [(2,.ob),(1,.n (r))] (ap ((by exact dec_of (by simp only [List.length_map,List.length_set,List.length_append,List.length_cons,List.length_nil]<;>omega)):decide (r<(List.map I z).length)=true) (ap ((by simp):some (0+r)=some r) an)) (S_a [(0,.cs false ([I (z.getD r 0)]))] (ap (rc_at (q:=PV.own 1 (List.map I z)) (xs:=List.map I z) (x:=I (z.getD r 0)) rfl (getm (0) (by omega)):readCells 17 (PV.own 1 (List.map I z)) [] r 0 1=some (false,[I (z.getD r 0)])) an) (S_go 2 (S_end (V_seq (V_region (S_go 3 (S_a [(2,.v (PV.agg [I (b.rs.getD r default).w,I (b.rs.getD r default).s,PV.sl (List.map I (b.rs.getD r default).may)]))] (ap (getm (default) (by omega):(List.map (fun x=>PV.agg [I x.w,I x.s,PV.sl (List.map I x.may)]) b.rs)[r]? = some (PV.agg [I (b.rs.getD r default).w,I (b.rs.getD r default).s,PV.sl (List.map I (b.rs.getD r default).may)])) an) (S_go 2 (S_a [(0,.n ((b.rs.getD r default).may.length))] (ap ((by simp):some (List.map I (b.rs.getD r default).may).length=some (b.rs.getD r default).may.length) an) (S_go 1 (S_end (V_block 4 ?_))))))))))))))))))))))))
          refine V_loopS (fun d=>d≤(b.rs.getD r default).may.length) (fun d=>[(146,I (d:Nat))]) (fun d=>(b.rs.getD r default).may.length-d) (0:Nat) (Nat.zero_le _) fun d hd=>?_
          by_cases hdl:d<(b.rs.getD r default).may.length
          · have hmd:=getD_all hmay.2.1 d hdl
            by_cases he:(b.rs.getD r default).may.getD d 0=z.getD r 0
            · refine V_seq (V_region (S_go 1 (S_end (V_seq (V_decT ((↑d:Int)<(↑(b.rs.getD r default).may.length:Int)) (by omega) (V_skip (V_seq (V_block 5 (V_seq (V_region (S_a [(2,.v (I ((b.rs.getD r default).may.getD d 0)))] (ap (getm (0) (by omega):(List.map I (b.rs.getD r default).may)[d]? = some (I ((b.rs.getD r default).may.getD d 0))) an) (S_go 2 (S_end (V_seq (V_region (S_go 4 (S_ndecF 153 ((b.rs.getD r default).may.getD d 0=z.getD r 0) (by omega) (S_go 14 (S_end (V_false (V_skip (V_region (S_a [(1,.v (I (↑(d+1):Int)))] (ap ((wrapE (by omega) (by omega)):I (IntKind.i64.wrap ((↑d:Int)+1))=I (↑(d+1):Int)) an) (S_go 1 (S_end ?_)))))))))))))))))))))))))
              exact ⟨d+1,by omega,by omega,by kernel_rfl,by kernel_rfl⟩
            · have he2:=hev r d hrl2 hdl he
              have hv1:=getD_all hzb (z.getD r 0).toNat (by omega)
              have hv2:=getD_all hzb ((b.rs.getD r default).may.getD d 0).toNat (by omega)
              have h57:=f57 b r (by omega) hg
              clear hev
              refine V_seq (V_region (S_go 1 (S_end (V_seq (V_decT ((↑d:Int)<(↑(b.rs.getD r default).may.length:Int)) (by omega) (V_skip (V_seq (V_block 5 (V_seq (V_region (S_a [(2,.v (I ((b.rs.getD r default).may.getD d 0)))] (ap (getm (0) (by omega):(List.map I (b.rs.getD r default).may)[d]? = some (I ((b.rs.getD r default).may.getD d 0))) an) (S_go 2 (S_end (V_seq (V_region (S_go 4 (S_ndecT 153 ((b.rs.getD r default).may.getD d 0=z.getD r 0) (by omega) (S_go 2 (S_a [(0,.ob),(1,.ob),(1,.n ((z.getD r 0).toNat))] (ap ((by exact dec_of (by omega)):decide (0≤z.getD r 0)=true) (ap ((by exact dec_of (by simp only [List.length_map,List.length_set,List.length_append,List.length_cons,List.length_nil]<;>omega)):decide ((z.getD r 0).toNat<(List.map I (feesL b z)).length)=true) (ap ((by simp):some (0+(z.getD r 0).toNat)=some (z.getD r 0).toNat) an))) (S_a [(0,.cs false ([I ((feesL b z).getD (z.getD r 0).toNat 0)]))] (ap (rc_at (q:=PV.own 1 (List.map I (feesL b z))) (xs:=List.map I (feesL b z)) (x:=I ((feesL b z).getD (z.getD r 0).toNat 0)) rfl (getm (0) (by omega)):readCells 20 (PV.own 1 (List.map I (feesL b z))) [] (z.getD r 0).toNat 0 1=some (false,[I ((feesL b z).getD (z.getD r 0).toNat 0)])) an) (S_go 2 (S_a [(0,.ob),(1,.ob),(1,.n (((b.rs.getD r default).may.getD d 0).toNat))] (ap ((by exact dec_of (by omega)):decide (0≤(b.rs.getD r default).may.getD d 0)=true) (ap ((by exact dec_of (by simp only [List.length_map,List.length_set,List.length_append,List.length_cons,List.length_nil]<;>omega)):decide (((b.rs.getD r default).may.getD d 0).toNat<(List.map I (feesL b z)).length)=true) (ap ((by simp):some (0+((b.rs.getD r default).may.getD d 0).toNat)=some ((b.rs.getD r default).may.getD d 0).toNat) an))) (S_a [(0,.cs false ([I ((feesL b z).getD ((b.rs.getD r default).may.getD d 0).toNat 0)]))] (ap (rc_at (q:=PV.own 1 (List.map I (feesL b z))) (xs:=List.map I (feesL b z)) (x:=I ((feesL b z).getD ((b.rs.getD r default).may.getD d 0).toNat 0)) rfl (getm (0) (by omega)):readCells 20 (PV.own 1 (List.map I (feesL b z))) [] ((b.rs.getD r default).may.getD d 0).toNat 0 1=some (false,[I ((feesL b z).getD ((b.rs.getD r default).may.getD d 0).toNat 0)])) an) (S_a [(1,.v (I ((feesL b z).getD (z.getD r 0).toNat 0-(feesL b z).getD ((b.rs.getD r default).may.getD d 0).toNat 0)))] (ap ((wrapE rfl (by omega)):I (IntKind.i64.wrap ((feesL b z).getD (z.getD r 0).toNat 0-(feesL b z).getD ((b.rs.getD r default).may.getD d 0).toNat 0))=I ((feesL b z).getD (z.getD r 0).toNat 0-(feesL b z).getD ((b.rs.getD r default).may.getD d 0).toNat 0)) an) (S_go 2 (S_a [(8,.ret (I (feeOf b (rnd b r))) ([]))] (ap (h57) an) (S_go 2 (S_end (V_decF ((feesL b z).getD (z.getD r 0).toNat 0-(feesL b z).getD ((b.rs.getD r default).may.getD d 0).toNat 0>feeOf b (rnd b r)) (by omega) (V_skip (V_region (S_a [(1,.v (I (↑(d+1):Int)))] (ap ((wrapE (by omega) (by omega)):I (IntKind.i64.wrap ((↑d:Int)+1))=I (↑(d+1):Int)) an) (S_go 1 (S_end ?_))))))))))))))))))))))))))))))))))
              exact ⟨d+1,by omega,by omega,by kernel_rfl,by kernel_rfl⟩
          · refine V_seq (V_region (S_go 1 (S_end (V_seq (V_decF ((↑d:Int)<(↑(b.rs.getD r default).may.length:Int)) (by omega) (V_exit 4 (V_region (S_a [(1,.v (I (↑(r+1):Int)))] (ap ((wrapE (by omega) (by omega)):I (IntKind.i64.wrap ((↑r:Int)+1))=I (↑(r+1):Int)) an) (S_go 1 (S_end ?_))))))))))
            exact ⟨r+1,by omega,by omega,by kernel_rfl,by kernel_rfl⟩
        · refine V_seq (V_region (S_go 1 (S_end (V_seq (V_decF ((↑r:Int)<(↑z.length:Int)) (by omega) (V_exit 2 (V_seq (V_region (S_go 2 (S_a [(5,.ob),(0,.v (PV.sl (List.map I z))),(2,.ret (PV.tup [PV.nils 0,I 0]) ([]))] (ap ((by exact ble_of (by simp only [List.length_map,List.length_set,List.length_append,List.length_cons,List.length_nil,limit]<;>omega)):(0+(List.map I z).length).ble (List.map I z).length=true) (ap ((sl_ext (freezes_all (freezes_mapH _))):PV.sl (freezes (List.take (List.map I z).length (List.drop 0 (List.map I z))))=PV.sl (List.map I z)) (ap (h32) an))) (S_go 5 (S_end (V_seq (V_region (S_go 7 (S_end (V_false (V_skip (V_region (S_a [(1,.v (I (↑(i+1):Int)))] (ap ((wrapE (by omega) (by omega)):I (IntKind.i64.wrap ((↑i:Int)+1))=I (↑(i+1):Int)) an) (S_go 1 (S_end ?_))))))))))))))))))))))
          exact ⟨(i+1,a,t),⟨by omega,ha⟩,by simp only;omega,by kernel_rfl,by kernel_rfl⟩
  · refine V_seq (V_region (S_go 1 (S_end (V_seq (V_decF ((↑i:Int)<6) (by omega) (V_exit 0 (V_seq (V_region (S_a [(4,.ret (PV.bool true) ([]))] (ap (f16) an) (S_go 1 (S_end (V_ret (E_a [] an (PV.bool true) ([]) rfl rfl)))))))))))))
end Go.Eng
