/- The share with the least greatest fee, and that with the least spread, with both numbers, or the error, are as specified, for every box. -/
import Derived.Test.YtpmbobnmpehobaaPf
import Derived.Test.YtpmbobnmpehobaaPg
import Derived.Test.YtpmbobnmpehobaaPd
set_option linter.unusedVariables false
set_option linter.unusedSimpArgs false
set_option linter.unusedSectionVars false
set_option maxRecDepth 10000
set_option maxHeartbeats 4000000
namespace Go.Eng
open Go Go.Proofs
structure FinedOk (b:Dk) (s late:List Int) (n:Nat) (got less:List Int):Prop where
  err:fineErr b s late=0
  ge:fineGot b s late=got
  le:fineLess b s late=less.sum
  gl:got.length=n
  ll:less.length=n
  at_:∀ c,c<n→0≤(feesL b s).getD c 0∧(feesL b s).getD c 0≤1000000∧0≤less.getD c 0∧less.getD c 0=min ((feesL b s).getD c 0) (b.fn*late.getD c 0)∧got.getD c 0=(feesL b s).getD c 0-less.getD c 0
theorem fees_len {b:Dk} {s:List Int} (hs:ShareOk b s):(feesL b s).length=b.cr.toNat:=by
  have:=(box_good hs.box).cr
  rw [earn_list hs];simp
theorem fined {b:Dk} {s late:List Int} (hs:ShareOk b s) (hl:(late.length:Int)=b.cr) (hr:∀ x∈late,0≤x∧x≤60):∃ got less,FinedOk b s late b.cr.toNat got less:=by
  have hg:=box_good hs.box
  have hcr:=hg.cr
  have hfn:=hg.fn
  have hsl:=hs.len
  have hbl:=hg.len
  have hr':(!late.all (fun x=>decide (0≤x)&&decide (x≤60)))=false:=by
    simp only [Bool.not_eq_false',List.all_eq_true]
    intro x hx;have:=hr x hx;simp;omega
  have e:fineErr b s late=0:=by simp only [fineErr,share_err hs,hl,hr',if_true];rfl
  have hf:feesL b s=(addF (feesOf b) s s.length).take b.cr.toNat:=by simp only [feesL,share_err hs,if_true]
  refine ⟨gotL b (addF (feesOf b) s s.length) late b.cr.toNat,lessL b (addF (feesOf b) s s.length) late b.cr.toNat,e,by simp only [fineGot,e,if_true],by simp only [fineLess,e,if_true],by simp [gotL],by simp [lessL],fun c hc=>?_⟩
  have h1:(feesL b s).getD c 0=(addF (feesOf b) s s.length).getD c 0:=by rw [hf,take_getD hc]
  have hbd:=addF_bd (share:=s) (feesOf_bd hg) s.length c
  have h2:(lessL b (addF (feesOf b) s s.length) late b.cr.toNat).getD c 0=fineC b (addF (feesOf b) s s.length) late c:=by simp [lessL,List.getD_eq_getElem?_getD,hc]
  have h3:(gotL b (addF (feesOf b) s s.length) late b.cr.toNat).getD c 0=(addF (feesOf b) s s.length).getD c 0-fineC b (addF (feesOf b) s s.length) late c:=by simp [gotL,List.getD_eq_getElem?_getD,hc]
  have h4:=getD_all hr c (by omega)
  have h5:=Int.mul_nonneg hfn.1 h4.1
  rw [h1,h2,h3]
  unfold fineC minI
  refine ⟨hbd.1,by omega,?_,?_,rfl⟩
  · split<;>omega
  · split<;>omega
theorem sum_drop {l:List Int} {i:Nat} (h:i<l.length):(l.drop i).sum=l.getD i 0+(l.drop (i+1)).sum:=by
  rw [List.drop_eq_getElem_cons h,getD_lt h,List.sum_cons]
theorem sum_drop_bd {l:List Int} {B:Int} (h:∀ c,c<l.length→0≤l.getD c 0∧l.getD c 0≤B) (hB:0≤B) (i:Nat):0≤(l.drop i).sum∧(l.drop i).sum≤B*l.length:=by
  have h1:∀ x∈l.drop i,0≤x∧x≤B:=fun x hx=>by
    obtain ⟨j,hj,rfl⟩:=List.getElem_of_mem (List.mem_of_mem_drop hx)
    have:=h j hj;rwa [getD_lt hj] at this
  have h2:=sum_bd (B:=B) (l:=l.drop i) fun x hx=>by have:=h1 x hx;omega
  have h3:=sum_nn fun x hx=>(h1 x hx).1
  have h4:B*((l.drop i).length:Int)≤B*l.length:=Int.mul_le_mul_of_nonneg_left (by simp) hB
  omega
theorem f4 (nums tries mins:List Int) (which:Int) (h1:nums.length<9223372036854775808) (h2:tries.length<9223372036854775808) (h3:mins.length<9223372036854775808) (hw:0≤which∧which≤255):FG 4 [.sl (nums.map u8),.sl (tries.map u8),.sl (mins.map u8),.int .u8 which] (.bool true):=by
  obtain ⟨v,h',hm,b,a1,t1,rfl,rfl,hg,hbl,ha1⟩:=f21_ex nums 0 0 7 ⟨Nat.zero_le _,h1⟩ (by omega)
  obtain ⟨v,h',hsh,s,a2,t2,rfl,rfl,hs,ha2⟩:=f23_ex tries 0 0 b ⟨Nat.zero_le _,h2⟩ hg
  have h25:=f25_1 b s hs
  have hcr:=hg.cr
  have hfn:=hg.fn
  have hfl:=fees_len hs
  have hsl:=hs.len
  have hsm:Small b:=⟨by omega,fun r hr=>by have:=hg.may r hr;have:=incr_len this.2.2 this.2.1 hcr;omega⟩
  refine gives_ofX Try.f4 ?_
  refine V_seq (V_region (S_go 1 (S_end (V_seq (V_region (S_go 1 (S_a [(6,.ret (bellV nums 0 0) ([]))] (ap (f22 (nums)) an) (S_a [(6,.ret (boxO b) ([bellV nums a1 t1]))] (ap (hm) an) (S_go 1 (S_a [(3,.v (PV.agg [I b.cr,I b.wd,I b.st,I b.fn,PV.sl (List.map (fun x=>PV.agg [I x.w,I x.s,PV.sl (List.map I x.may)]) b.rs)]))] (ap ((by simp only [show freezes (List.map rndO b.rs)=List.map (fun x=>PV.agg [I x.w,I x.s,PV.sl (List.map I x.may)]) b.rs from (by first | exact freezes_mapI _ | exact freezes_mapH _ | exact freezes_all (freezes_mapH _) | exact freezes_to (by simp [take_mapL]) (freezes_mapI _))]):PV.agg [I b.cr,I b.wd,I b.st,I b.fn,PV.sl (freezes (List.map rndO b.rs))]=PV.agg [I b.cr,I b.wd,I b.st,I b.fn,PV.sl (List.map (fun x=>PV.agg [I x.w,I x.s,PV.sl (List.map I x.may)]) b.rs)]) an) (S_end (V_seq (V_region (S_go 1 (S_a [(6,.ret (bellV tries 0 0) ([]))] (ap (f22 (tries)) an) (S_go 1 (S_a [(6,.ret (PV.own 1 (List.map I s)) ([bellV tries a2 t2]))] (ap (hsh) an) (S_go 1 (S_end (V_seq (V_region (S_go 1 (S_a [(6,.ret (bellV mins 0 0) ([]))] (ap (f22 (mins)) an) (S_go 1 (S_end (V_seq (V_region (S_go 1 (S_end (V_seq (V_seq (V_region (S_go 3 (S_end (V_block 0 ?_)))))))))))))))))))))))))))))))))))
  refine V_loopS (fun (c,la,a,t)=>(c:Int)≤b.cr∧la.length=c∧(∀ x∈la,0≤x∧x≤20)∧BellOk mins a) (fun (c,la,a,t)=>[(11,bellV mins a t),(12,.own 1 (la.map I)),(35,I (c:Nat))]) (fun (c,_,_,_)=>b.cr.toNat-c) ((0:Nat),([]:List Int),(0:Nat),(0:Int)) ⟨by omega,rfl,by simp,Nat.zero_le _,h3⟩ fun (c,la,a,t) ⟨hc,hla,hlr,ha⟩=>?_
  by_cases hcc:(c:Int)=b.cr
  · obtain ⟨got,less,hF⟩:=fined hs (by omega) (fun x hx=>by have:=hlr x hx;omega:∀ x∈la,0≤x∧x≤60)
    have e1:=hF.err
    obtain rfl:=hF.ge
    have e3:=hF.le
    have e4:=hF.gl
    have e5:=hF.ll
    have hk1:=Int.tmod_nonneg b.cr hw.1
    have hk2:=Int.tmod_lt_of_pos which (show 0<b.cr by omega)
    have hkl:(which.tmod b.cr).toNat<la.length:=by omega
    have hk3:=getD_all hlr (which.tmod b.cr).toNat hkl
    obtain ⟨got2,less2,hF2⟩:=fined (late:=la.set (which.tmod b.cr).toNat (la.getD (which.tmod b.cr).toNat 0+1)) hs (by simp;omega) (fun x hx=>by
      rcases List.mem_or_eq_of_mem_set hx with hx | rfl
      · have:=hlr x hx;omega
      · omega)
    have d1:=hF2.err
    obtain rfl:=hF2.ge
    have d4:=hF2.gl
    have d5:=hF2.ll
    have d6k:=hF2.at_ (which.tmod b.cr).toNat (by omega)
    rw [getD_set,if_pos ⟨rfl,hkl⟩,Int.mul_add,Int.mul_one] at d6k
    have e6k:=hF.at_ (which.tmod b.cr).toNat (by omega)
    have hfin:(fineGot b s (la.set (which.tmod b.cr).toNat (la.getD (which.tmod b.cr).toNat 0+1))).getD (which.tmod b.cr).toNat 0≤(fineGot b s la).getD (which.tmod b.cr).toNat 0:=by omega
    clear d6k e6k h1 h2 h3 ha1 ha2
    have hsm':=hsm
    refine V_seq (V_region (S_go 1 (S_end (V_seq (V_decF ((↑c:Int)<b.cr) (by omega) (V_exit 0 (V_seq (V_region (S_go 2 (S_a [(5,.ob),(0,.v (PV.sl (List.map I s))),(2,.ret (PV.own 1 (List.map I (feesL b s))) ([])),(1,.yes)] (ap ((by exact ble_of (by simp only [List.length_map,List.length_set,List.length_append,List.length_cons,List.length_nil,limit]<;>omega)):(0+(List.map I s).length).ble (List.map I s).length=true) (ap ((sl_ext (freezes_all (freezes_mapH _))):PV.sl (freezes (List.take (List.map I s).length (List.drop 0 (List.map I s))))=PV.sl (List.map I s)) (ap (h25) (ap ((by exact frees_map _):(PV.own 1 (List.map I (feesL b s))).free=true) an)))) (S_go 1 (S_end (V_seq (V_region (S_go 3 (S_a [(5,.ob),(0,.v (PV.sl (List.map I s))),(1,.ob),(0,.v (PV.sl (List.map I la))),(2,.ret (PV.tup [PV.own 1 (List.map I (fineGot b s la)),I (fineLess b s la),I (fineErr b s la)]) ([])),(1,.yes)] (ap ((by exact ble_of (by simp only [List.length_map,List.length_set,List.length_append,List.length_cons,List.length_nil,limit]<;>omega)):(0+(List.map I s).length).ble (List.map I s).length=true) (ap ((sl_ext (freezes_all (freezes_mapH _))):PV.sl (freezes (List.take (List.map I s).length (List.drop 0 (List.map I s))))=PV.sl (List.map I s)) (ap ((by exact ble_of (by simp only [List.length_map,List.length_set,List.length_append,List.length_cons,List.length_nil,limit]<;>omega)):(0+(List.map I la).length).ble (List.map I la).length=true) (ap ((sl_ext (freezes_all (freezes_mapH _))):PV.sl (freezes (List.take (List.map I la).length (List.drop 0 (List.map I la))))=PV.sl (List.map I la)) (ap (f26 (b) (s) (la) (by omega) (by omega) (by omega)) (ap ((by exact ob_and (frees_map _) rfl):(PV.tup [PV.own 1 (List.map I (fineGot b s la)),I (fineLess b s la),I (fineErr b s la)]).free=true) an)))))) (S_go 7 (S_end (V_seq (V_seq (V_region (S_go 3 (S_ndecF 59 (fineErr b s la=0) (by omega) (S_go 1 (S_a [(0,.n ((fineGot b s la).length))] (ap ((by simp):some (List.map I (fineGot b s la)).length=some (fineGot b s la).length) an) (S_go 5 (S_ndecF 66 ((↑(fineGot b s la).length:Int)=b.cr) (by omega) (S_go 1 (S_a [(0,.n ((feesL b s).length))] (ap ((by simp):some (List.map I (feesL b s)).length=some (feesL b s).length) an) (S_go 4 (S_end (V_ndecF ((↑(feesL b s).length:Int)=b.cr) (by omega) (V_skip (V_seq (V_region (S_go 2 (S_end (V_seq (V_seq (V_region (S_go 1 (S_a [(0,.n ((fineGot b s la).length))] (ap ((by simp):some (List.map I (fineGot b s la)).length=some (fineGot b s la).length) an) (S_go 1 (S_end (V_block 2 ?_)))))))))))))))))))))))))))))))))))))))))))))
    refine V_loopS (fun (i,sm)=>i≤(fineGot b s la).length∧sm=(less.drop i).sum) (fun (i,sm)=>[(17,I sm),(76,I (i:Nat))]) (fun (i,_)=>(fineGot b s la).length-i) ((0:Nat),fineLess b s la) ⟨Nat.zero_le _,by rw [e3];simp⟩ fun (i,sm) ⟨hi,hsu⟩=>?_
    by_cases hil:i<(fineGot b s la).length
    · have e6i:(0≤(feesL b s).getD i 0∧(feesL b s).getD i 0≤1000000)∧(fineGot b s la).getD i 0=(feesL b s).getD i 0-less.getD i 0∧0≤less.getD i 0∧less.getD i 0≤(feesL b s).getD i 0∧less.getD i 0≤b.fn*la.getD i 0∧(less.getD i 0=(feesL b s).getD i 0∨less.getD i 0=b.fn*la.getD i 0):=by have:=hF.at_ i (by omega);omega
      have hz:la.getD i 0=0→b.fn*la.getD i 0=0:=fun h=>by rw [h];simp
      have hla2:0≤la.getD i 0∧la.getD i 0≤20:=getD_all hlr i (by omega)
      have hmb:0≤b.fn*la.getD i 0∧b.fn*la.getD i 0≤20*20:=⟨Int.mul_nonneg hfn.1 hla2.1,Int.mul_le_mul (by omega) hla2.2 hla2.1 (by omega)⟩
      have hsb:=sum_drop_bd (l:=less) (B:=1000000) (fun c hc=>by have:=hF.at_ c (by omega);omega) (by omega) i
      have hsd:(less.drop i).sum=less.getD i 0+(less.drop (i+1)).sum:=sum_drop (by omega)
      rw [← hsu] at hsb hsd
      have hsm2:sm+((fineGot b s la).getD i 0-(feesL b s).getD i 0)=(less.drop (i+1)).sum:=by omega
      have hlal:la.length=b.cr.toNat:=by omega
      clear hF hF2 d1 d4 d5 hk1 hk2 hkl hk3 hfin hsm hcc e1 hlr
      refine V_seq (V_region (S_go 1 (S_end (V_seq (V_decT ((↑i:Int)<(↑(fineGot b s la).length:Int)) (by omega) (V_skip (V_seq (V_block 3 (V_seq (V_region (S_go 1 (S_a [(2,.ob),(1,.n (i))] (ap ((by exact dec_of (by simp only [List.length_map,List.length_set,List.length_append,List.length_cons,List.length_nil]<;>omega)):decide (i<(List.map I (fineGot b s la)).length)=true) (ap ((by simp):some (0+i)=some i) an)) (S_a [(0,.cs false ([I ((fineGot b s la).getD i 0)]))] (ap (rc_at (q:=PV.own 1 (List.map I (fineGot b s la))) (xs:=List.map I (fineGot b s la)) (x:=I ((fineGot b s la).getD i 0)) rfl (getm (0) (by omega)):readCells 14 (PV.own 1 (List.map I (fineGot b s la))) [] i 0 1=some (false,[I ((fineGot b s la).getD i 0)])) an) (S_go 2 (S_end (V_seq (V_region (S_go 4 (S_a [(2,.ob),(1,.n (i))] (ap ((by exact dec_of (by simp only [List.length_map,List.length_set,List.length_append,List.length_cons,List.length_nil]<;>omega)):decide (i<(List.map I (feesL b s)).length)=true) (ap ((by simp):some (0+i)=some i) an)) (S_a [(0,.cs false ([I ((feesL b s).getD i 0)]))] (ap (rc_at (q:=PV.own 1 (List.map I (feesL b s))) (xs:=List.map I (feesL b s)) (x:=I ((feesL b s).getD i 0)) rfl (getm (0) (by omega)):readCells 13 (PV.own 1 (List.map I (feesL b s))) [] i 0 1=some (false,[I ((feesL b s).getD i 0)])) an) (S_a [(1,.v (I ((fineGot b s la).getD i 0-(feesL b s).getD i 0)))] (ap ((wrapE rfl (by omega)):I (IntKind.i64.wrap ((fineGot b s la).getD i 0-(feesL b s).getD i 0))=I ((fineGot b s la).getD i 0-(feesL b s).getD i 0)) an) (S_a [(1,.v (I (sm+((fineGot b s la).getD i 0-(feesL b s).getD i 0))))] (ap ((wrapE rfl (by omega)):I (IntKind.i64.wrap (sm+((fineGot b s la).getD i 0-(feesL b s).getD i 0)))=I (sm+((fineGot b s la).getD i 0-(feesL b s).getD i 0))) an) (S_go 1 (S_end (V_seq (V_region (S_go 3 (S_decF 91 ((fineGot b s la).getD i 0<0) (by omega) (S_go 3 (S_a [(2,.ob),(1,.n (i))] (ap ((by exact dec_of (by simp only [List.length_map,List.length_set,List.length_append,List.length_cons,List.length_nil]<;>omega)):decide (i<(List.map I (feesL b s)).length)=true) (ap ((by simp):some (0+i)=some i) an)) (S_a [(0,.cs false ([I ((feesL b s).getD i 0)]))] (ap (rc_at (q:=PV.own 1 (List.map I (feesL b s))) (xs:=List.map I (feesL b s)) (x:=I ((feesL b s).getD i 0)) rfl (getm (0) (by omega)):readCells 13 (PV.own 1 (List.map I (feesL b s))) [] i 0 1=some (false,[I ((feesL b s).getD i 0)])) an) (S_go 3 (S_decF 99 ((fineGot b s la).getD i 0>(feesL b s).getD i 0) (by omega) (S_go 2 (S_a [(2,.ob),(1,.n (i))] (ap ((by exact dec_of (by simp only [List.length_map,List.length_set,List.length_append,List.length_cons,List.length_nil]<;>omega)):decide (i<(List.map I la).length)=true) (ap ((by simp):some (0+i)=some i) an)) (S_a [(0,.cs false ([I (la.getD i 0)]))] (ap (rc_at (q:=PV.own 1 (List.map I la)) (xs:=List.map I la) (x:=I (la.getD i 0)) rfl (getm (0) (by omega)):readCells 12 (PV.own 1 (List.map I la)) [] i 0 1=some (false,[I (la.getD i 0)])) an) (S_go 2 (S_dec 105 (la.getD i 0=0) (fun k0=>(S_go 3 (S_a [(2,.ob),(1,.n (i))] (ap ((by exact dec_of (by simp only [List.length_map,List.length_set,List.length_append,List.length_cons,List.length_nil]<;>omega)):decide (i<(List.map I (feesL b s)).length)=true) (ap ((by simp):some (0+i)=some i) an)) (S_a [(0,.cs false ([I ((feesL b s).getD i 0)]))] (ap (rc_at (q:=PV.own 1 (List.map I (feesL b s))) (xs:=List.map I (feesL b s)) (x:=I ((feesL b s).getD i 0)) rfl (getm (0) (by omega)):readCells 13 (PV.own 1 (List.map I (feesL b s))) [] i 0 1=some (false,[I ((feesL b s).getD i 0)])) an) (S_go 4 (S_ndecF 114 ((fineGot b s la).getD i 0=(feesL b s).getD i 0) (by omega) (S_go 3 (S_dec 117 ((fineGot b s la).getD i 0>0) (fun k1=>(S_go 2 (S_a [(2,.ob),(1,.n (i))] (ap ((by exact dec_of (by simp only [List.length_map,List.length_set,List.length_append,List.length_cons,List.length_nil]<;>omega)):decide (i<(List.map I (feesL b s)).length)=true) (ap ((by simp):some (0+i)=some i) an)) (S_a [(0,.cs false ([I ((feesL b s).getD i 0)]))] (ap (rc_at (q:=PV.own 1 (List.map I (feesL b s))) (xs:=List.map I (feesL b s)) (x:=I ((feesL b s).getD i 0)) rfl (getm (0) (by omega)):readCells 13 (PV.own 1 (List.map I (feesL b s))) [] i 0 1=some (false,[I ((feesL b s).getD i 0)])) an) (S_go 1 (S_a [(1,.v (I ((feesL b s).getD i 0-(fineGot b s la).getD i 0)))] (ap ((wrapE rfl (by omega)):I (IntKind.i64.wrap ((feesL b s).getD i 0-(fineGot b s la).getD i 0))=I ((feesL b s).getD i 0-(fineGot b s la).getD i 0)) an) (S_go 4 (S_a [(2,.ob),(1,.n (i))] (ap ((by exact dec_of (by simp only [List.length_map,List.length_set,List.length_append,List.length_cons,List.length_nil]<;>omega)):decide (i<(List.map I la).length)=true) (ap ((by simp):some (0+i)=some i) an)) (S_a [(0,.cs false ([I (la.getD i 0)]))] (ap (rc_at (q:=PV.own 1 (List.map I la)) (xs:=List.map I la) (x:=I (la.getD i 0)) rfl (getm (0) (by omega)):readCells 12 (PV.own 1 (List.map I la)) [] i 0 1=some (false,[I (la.getD i 0)])) an) (S_a [(1,.v (I (b.fn*la.getD i 0)))] (ap ((wrapE rfl (by omega)):I (IntKind.i64.wrap (b.fn*la.getD i 0))=I (b.fn*la.getD i 0)) an) (S_go 4 (S_ndecF 134 ((feesL b s).getD i 0-(fineGot b s la).getD i 0=b.fn*la.getD i 0) (by omega) (S_go 3 (S_decF 137 ((fineGot b s la).getD i 0=0) (by omega) (S_go 14 (S_end (V_false (V_skip (V_region (S_a [(1,.v (I (↑(i+1):Int)))] (ap ((wrapE (by omega) (by omega)):I (IntKind.i64.wrap ((↑i:Int)+1))=I (↑(i+1):Int)) an) (S_go 1 (S_end ?_)))))))))))))))))))))) (fun k1=>(S_go 20 (S_decT 137 ((fineGot b s la).getD i 0=0) (by omega) (S_go 2 (S_a [(2,.ob),(1,.n (i))] (ap ((by exact dec_of (by simp only [List.length_map,List.length_set,List.length_append,List.length_cons,List.length_nil]<;>omega)):decide (i<(List.map I (feesL b s)).length)=true) (ap ((by simp):some (0+i)=some i) an)) (S_a [(0,.cs false ([I ((feesL b s).getD i 0)]))] (ap (rc_at (q:=PV.own 1 (List.map I (feesL b s))) (xs:=List.map I (feesL b s)) (x:=I ((feesL b s).getD i 0)) rfl (getm (0) (by omega)):readCells 13 (PV.own 1 (List.map I (feesL b s))) [] i 0 1=some (false,[I ((feesL b s).getD i 0)])) an) (S_go 4 (S_a [(2,.ob),(1,.n (i))] (ap ((by exact dec_of (by simp only [List.length_map,List.length_set,List.length_append,List.length_cons,List.length_nil]<;>omega)):decide (i<(List.map I la).length)=true) (ap ((by simp):some (0+i)=some i) an)) (S_a [(0,.cs false ([I (la.getD i 0)]))] (ap (rc_at (q:=PV.own 1 (List.map I la)) (xs:=List.map I la) (x:=I (la.getD i 0)) rfl (getm (0) (by omega)):readCells 12 (PV.own 1 (List.map I la)) [] i 0 1=some (false,[I (la.getD i 0)])) an) (S_a [(1,.v (I (b.fn*la.getD i 0)))] (ap ((wrapE rfl (by omega)):I (IntKind.i64.wrap (b.fn*la.getD i 0))=I (b.fn*la.getD i 0)) an) (S_go 3 (S_end (V_decF ((feesL b s).getD i 0>b.fn*la.getD i 0) (by omega) (V_skip (V_region (S_a [(1,.v (I (↑(i+1):Int)))] (ap ((wrapE (by omega) (by omega)):I (IntKind.i64.wrap ((↑i:Int)+1))=I (↑(i+1):Int)) an) (S_go 1 (S_end ?_)))))))))))))))))))))))))) (fun k0=>(S_go 12 (S_dec 117 ((fineGot b s la).getD i 0>0) (fun k2=>(S_go 2 (S_a [(2,.ob),(1,.n (i))] (ap ((by exact dec_of (by simp only [List.length_map,List.length_set,List.length_append,List.length_cons,List.length_nil]<;>omega)):decide (i<(List.map I (feesL b s)).length)=true) (ap ((by simp):some (0+i)=some i) an)) (S_a [(0,.cs false ([I ((feesL b s).getD i 0)]))] (ap (rc_at (q:=PV.own 1 (List.map I (feesL b s))) (xs:=List.map I (feesL b s)) (x:=I ((feesL b s).getD i 0)) rfl (getm (0) (by omega)):readCells 13 (PV.own 1 (List.map I (feesL b s))) [] i 0 1=some (false,[I ((feesL b s).getD i 0)])) an) (S_go 1 (S_a [(1,.v (I ((feesL b s).getD i 0-(fineGot b s la).getD i 0)))] (ap ((wrapE rfl (by omega)):I (IntKind.i64.wrap ((feesL b s).getD i 0-(fineGot b s la).getD i 0))=I ((feesL b s).getD i 0-(fineGot b s la).getD i 0)) an) (S_go 4 (S_a [(2,.ob),(1,.n (i))] (ap ((by exact dec_of (by simp only [List.length_map,List.length_set,List.length_append,List.length_cons,List.length_nil]<;>omega)):decide (i<(List.map I la).length)=true) (ap ((by simp):some (0+i)=some i) an)) (S_a [(0,.cs false ([I (la.getD i 0)]))] (ap (rc_at (q:=PV.own 1 (List.map I la)) (xs:=List.map I la) (x:=I (la.getD i 0)) rfl (getm (0) (by omega)):readCells 12 (PV.own 1 (List.map I la)) [] i 0 1=some (false,[I (la.getD i 0)])) an) (S_a [(1,.v (I (b.fn*la.getD i 0)))] (ap ((wrapE rfl (by omega)):I (IntKind.i64.wrap (b.fn*la.getD i 0))=I (b.fn*la.getD i 0)) an) (S_go 4 (S_ndecF 134 ((feesL b s).getD i 0-(fineGot b s la).getD i 0=b.fn*la.getD i 0) (by omega) (S_go 3 (S_decF 137 ((fineGot b s la).getD i 0=0) (by omega) (S_go 14 (S_end (V_false (V_skip (V_region (S_a [(1,.v (I (↑(i+1):Int)))] (ap ((wrapE (by omega) (by omega)):I (IntKind.i64.wrap ((↑i:Int)+1))=I (↑(i+1):Int)) an) (S_go 1 (S_end ?_)))))))))))))))))))))) (fun k2=>(S_go 20 (S_decT 137 ((fineGot b s la).getD i 0=0) (by omega) (S_go 2 (S_a [(2,.ob),(1,.n (i))] (ap ((by exact dec_of (by simp only [List.length_map,List.length_set,List.length_append,List.length_cons,List.length_nil]<;>omega)):decide (i<(List.map I (feesL b s)).length)=true) (ap ((by simp):some (0+i)=some i) an)) (S_a [(0,.cs false ([I ((feesL b s).getD i 0)]))] (ap (rc_at (q:=PV.own 1 (List.map I (feesL b s))) (xs:=List.map I (feesL b s)) (x:=I ((feesL b s).getD i 0)) rfl (getm (0) (by omega)):readCells 13 (PV.own 1 (List.map I (feesL b s))) [] i 0 1=some (false,[I ((feesL b s).getD i 0)])) an) (S_go 4 (S_a [(2,.ob),(1,.n (i))] (ap ((by exact dec_of (by simp only [List.length_map,List.length_set,List.length_append,List.length_cons,List.length_nil]<;>omega)):decide (i<(List.map I la).length)=true) (ap ((by simp):some (0+i)=some i) an)) (S_a [(0,.cs false ([I (la.getD i 0)]))] (ap (rc_at (q:=PV.own 1 (List.map I la)) (xs:=List.map I la) (x:=I (la.getD i 0)) rfl (getm (0) (by omega)):readCells 12 (PV.own 1 (List.map I la)) [] i 0 1=some (false,[I (la.getD i 0)])) an) (S_a [(1,.v (I (b.fn*la.getD i 0)))] (ap ((wrapE rfl (by omega)):I (IntKind.i64.wrap (b.fn*la.getD i 0))=I (b.fn*la.getD i 0)) an) (S_go 3 (S_end (V_decF ((feesL b s).getD i 0>b.fn*la.getD i 0) (by omega) (V_skip (V_region (S_a [(1,.v (I (↑(i+1):Int)))] (ap ((wrapE (by omega) (by omega)):I (IntKind.i64.wrap ((↑i:Int)+1))=I (↑(i+1):Int)) an) (S_go 1 (S_end ?_)))))))))))))))))))))))))))))))))))))))))))))))))))))))))))
      all_goals exact ⟨(i+1,sm+((fineGot b s la).getD i 0-(feesL b s).getD i 0)),⟨by omega,hsm2⟩,by simp only;omega,by kernel_rfl,by kernel_rfl⟩
    · have hfr:=frees_map (g:=I) (fineGot b s (la.set (which.tmod b.cr).toNat (la.getD (which.tmod b.cr).toNat 0+1)))
      have hsz:sm=0:=by rw [hsu,List.drop_eq_nil_of_le (by omega)];rfl
      clear hF hF2
      refine V_seq (V_region (S_go 1 (S_end (V_seq (V_decF ((↑i:Int)<(↑(fineGot b s la).length:Int)) (by omega) (V_exit 2 (V_seq (V_region (S_go 1 (S_a [(3,.ob),(0,.v (PV.sl (List.map I la))),(2,.ret (PV.own 1 (List.map I la)) ([])),(1,.yes)] (ap ((by exact ble_of (by simp only [List.length_map,List.length_set,List.length_append,List.length_cons,List.length_nil,limit]<;>omega)):(0+(List.map I la).length).ble (List.map I la).length=true) (ap ((sl_ext (freezes_all (freezes_mapH _))):PV.sl (freezes (List.take (List.map I la).length (List.drop 0 (List.map I la))))=PV.sl (List.map I la)) (ap (f17 (la) (by omega)) (ap ((by exact frees_map _):(PV.own 1 (List.map I la)).free=true) an)))) (S_go 1 (S_end (V_seq (V_region (S_go 1 (S_a [(0,.v (I which))] (ap ((wrapE rfl (by omega)):I (IntKind.i64.wrap which)=I which) an) (S_go 2 (S_a [(0,.v (I (which.tmod b.cr)))] (ap (bv_rem (by omega) rfl:binV Try.prog BinOp.rem 3 (I which) (I b.cr)=some (I (which.tmod b.cr))) an) (S_go 1 (S_end (V_seq (V_region (S_go 2 (S_a [(0,.ob),(1,.ob),(1,.n ((which.tmod b.cr).toNat))] (ap ((by exact dec_of (by omega)):decide (0≤which.tmod b.cr)=true) (ap ((by exact dec_of (by simp only [List.length_map,List.length_set,List.length_append,List.length_cons,List.length_nil]<;>omega)):decide ((which.tmod b.cr).toNat<(List.map I la).length)=true) (ap ((by simp):some (0+(which.tmod b.cr).toNat)=some (which.tmod b.cr).toNat) an))) (S_a [(0,.cs false ([I (la.getD (which.tmod b.cr).toNat 0)]))] (ap (rc_at (q:=PV.own 1 (List.map I la)) (xs:=List.map I la) (x:=I (la.getD (which.tmod b.cr).toNat 0)) rfl (getm (0) (by omega)):readCells 20 (PV.own 1 (List.map I la)) [] (which.tmod b.cr).toNat 0 1=some (false,[I (la.getD (which.tmod b.cr).toNat 0)])) an) (S_a [(1,.v (I (la.getD (which.tmod b.cr).toNat 0+1)))] (ap ((wrapE rfl (by omega)):I (IntKind.i64.wrap (la.getD (which.tmod b.cr).toNat 0+1))=I (la.getD (which.tmod b.cr).toNat 0+1)) an) (S_a [(0,.ob),(1,.ob),(1,.n ((which.tmod b.cr).toNat))] (ap ((by exact dec_of (by omega)):decide (0≤which.tmod b.cr)=true) (ap ((by exact dec_of (by simp only [List.length_map,List.length_set,List.length_append,List.length_cons,List.length_nil]<;>omega)):decide ((which.tmod b.cr).toNat<(List.map I la).length)=true) (ap ((by simp):some (0+(which.tmod b.cr).toNat)=some (which.tmod b.cr).toNat) an))) (S_a [(8,.root (PV.own 1 (List.map I (la.set (which.tmod b.cr).toNat (la.getD (which.tmod b.cr).toNat 0+1)))) true)] (ap (wa_at (getm (0) (by omega)) map_set':writeAt (PV.own 1 (List.map I la)) [] (which.tmod b.cr).toNat 0 (I (la.getD (which.tmod b.cr).toNat 0+1)).cells=some (PV.own 1 (List.map I (la.set (which.tmod b.cr).toNat (la.getD (which.tmod b.cr).toNat 0+1))))∧keptView (PV.own 1 (List.map I la)) (PV.own 1 (List.map I (la.set (which.tmod b.cr).toNat (la.getD (which.tmod b.cr).toNat 0+1)))) []=true) an) (S_end (V_seq (V_region (S_go 3 (S_a [(5,.ob),(0,.v (PV.sl (List.map I s))),(1,.ob),(0,.v (PV.sl (List.map I (la.set (which.tmod b.cr).toNat (la.getD (which.tmod b.cr).toNat 0+1))))),(2,.ret (PV.tup [PV.own 1 (List.map I (fineGot b s (la.set (which.tmod b.cr).toNat (la.getD (which.tmod b.cr).toNat 0+1)))),I (fineLess b s (la.set (which.tmod b.cr).toNat (la.getD (which.tmod b.cr).toNat 0+1))),I (fineErr b s (la.set (which.tmod b.cr).toNat (la.getD (which.tmod b.cr).toNat 0+1)))]) ([])),(1,.yes)] (ap ((by exact ble_of (by simp only [List.length_map,List.length_set,List.length_append,List.length_cons,List.length_nil,limit]<;>omega)):(0+(List.map I s).length).ble (List.map I s).length=true) (ap ((sl_ext (freezes_all (freezes_mapH _))):PV.sl (freezes (List.take (List.map I s).length (List.drop 0 (List.map I s))))=PV.sl (List.map I s)) (ap ((by exact ble_of (by simp only [List.length_map,List.length_set,List.length_append,List.length_cons,List.length_nil,limit]<;>omega)):(0+(List.map I (la.set (which.tmod b.cr).toNat (la.getD (which.tmod b.cr).toNat 0+1))).length).ble (List.map I (la.set (which.tmod b.cr).toNat (la.getD (which.tmod b.cr).toNat 0+1))).length=true) (ap ((sl_ext (freezes_all (freezes_mapH _))):PV.sl (freezes (List.take (List.map I (la.set (which.tmod b.cr).toNat (la.getD (which.tmod b.cr).toNat 0+1))).length (List.drop 0 (List.map I (la.set (which.tmod b.cr).toNat (la.getD (which.tmod b.cr).toNat 0+1))))))=PV.sl (List.map I (la.set (which.tmod b.cr).toNat (la.getD (which.tmod b.cr).toNat 0+1)))) (ap (f26 (b) (s) (la.set (which.tmod b.cr).toNat (la.getD (which.tmod b.cr).toNat 0+1)) (by omega) (by omega) (by first | omega | (simp<;>omega))) (ap ((by exact ob_and (frees_map _) rfl):(PV.tup [PV.own 1 (List.map I (fineGot b s (la.set (which.tmod b.cr).toNat (la.getD (which.tmod b.cr).toNat 0+1)))),I (fineLess b s (la.set (which.tmod b.cr).toNat (la.getD (which.tmod b.cr).toNat 0+1))),I (fineErr b s (la.set (which.tmod b.cr).toNat (la.getD (which.tmod b.cr).toNat 0+1)))]).free=true) an)))))) (S_go 7 (S_end (V_seq (V_region (S_go 3 (S_decT 176 (fineErr b s (la.set (which.tmod b.cr).toNat (la.getD (which.tmod b.cr).toNat 0+1))=0) (by omega) (S_go 1 (S_a [(0,.n ((fineGot b s (la.set (which.tmod b.cr).toNat (la.getD (which.tmod b.cr).toNat 0+1))).length))] (ap ((by simp):some (List.map I (fineGot b s (la.set (which.tmod b.cr).toNat (la.getD (which.tmod b.cr).toNat 0+1)))).length=some (fineGot b s (la.set (which.tmod b.cr).toNat (la.getD (which.tmod b.cr).toNat 0+1))).length) an) (S_go 5 (S_decT 183 ((↑(fineGot b s (la.set (which.tmod b.cr).toNat (la.getD (which.tmod b.cr).toNat 0+1))).length:Int)=b.cr) (by omega) (S_go 2 (S_a [(0,.ob),(1,.ob),(1,.n ((which.tmod b.cr).toNat))] (ap ((by exact dec_of (by omega)):decide (0≤which.tmod b.cr)=true) (ap ((by exact dec_of (by simp only [List.length_map,List.length_set,List.length_append,List.length_cons,List.length_nil]<;>omega)):decide ((which.tmod b.cr).toNat<(List.map I (fineGot b s (la.set (which.tmod b.cr).toNat (la.getD (which.tmod b.cr).toNat 0+1)))).length)=true) (ap ((by simp):some (0+(which.tmod b.cr).toNat)=some (which.tmod b.cr).toNat) an))) (S_a [(0,.cs false ([I ((fineGot b s (la.set (which.tmod b.cr).toNat (la.getD (which.tmod b.cr).toNat 0+1))).getD (which.tmod b.cr).toNat 0)]))] (ap (rc_at (q:=PV.own 1 (List.map I (fineGot b s (la.set (which.tmod b.cr).toNat (la.getD (which.tmod b.cr).toNat 0+1))))) (xs:=List.map I (fineGot b s (la.set (which.tmod b.cr).toNat (la.getD (which.tmod b.cr).toNat 0+1)))) (x:=I ((fineGot b s (la.set (which.tmod b.cr).toNat (la.getD (which.tmod b.cr).toNat 0+1))).getD (which.tmod b.cr).toNat 0)) rfl (getm (0) (by omega)):readCells 22 (PV.own 1 (List.map I (fineGot b s (la.set (which.tmod b.cr).toNat (la.getD (which.tmod b.cr).toNat 0+1))))) [] (which.tmod b.cr).toNat 0 1=some (false,[I ((fineGot b s (la.set (which.tmod b.cr).toNat (la.getD (which.tmod b.cr).toNat 0+1))).getD (which.tmod b.cr).toNat 0)])) an) (S_go 2 (S_a [(0,.ob),(1,.ob),(1,.n ((which.tmod b.cr).toNat))] (ap ((by exact dec_of (by omega)):decide (0≤which.tmod b.cr)=true) (ap ((by exact dec_of (by simp only [List.length_map,List.length_set,List.length_append,List.length_cons,List.length_nil]<;>omega)):decide ((which.tmod b.cr).toNat<(List.map I (fineGot b s la)).length)=true) (ap ((by simp):some (0+(which.tmod b.cr).toNat)=some (which.tmod b.cr).toNat) an))) (S_a [(0,.cs false ([I ((fineGot b s la).getD (which.tmod b.cr).toNat 0)]))] (ap (rc_at (q:=PV.own 1 (List.map I (fineGot b s la))) (xs:=List.map I (fineGot b s la)) (x:=I ((fineGot b s la).getD (which.tmod b.cr).toNat 0)) rfl (getm (0) (by omega)):readCells 14 (PV.own 1 (List.map I (fineGot b s la))) [] (which.tmod b.cr).toNat 0 1=some (false,[I ((fineGot b s la).getD (which.tmod b.cr).toNat 0)])) an) (S_go 3 (S_decT 194 ((fineGot b s (la.set (which.tmod b.cr).toNat (la.getD (which.tmod b.cr).toNat 0+1))).getD (which.tmod b.cr).toNat 0≤(fineGot b s la).getD (which.tmod b.cr).toNat 0) (by omega) (S_go 4 (S_decT 198 (sm=0) (by omega) (S_a [(4,.ret (PV.bool true) ([]))] (ap (f16) an) (S_go 2 (S_end (V_ret (E_a [] an (PV.bool true) ([]) rfl rfl))))))))))))))))))))))))))))))))))))))))))))))))))))))))))
  · have g1:=ringA_ok ha
    have g2:=ringA_ok g1
    have u1:=strokeN_bd mins a t 20
    have u2:=strokeN_bd mins (ringA mins a) (ringT mins a t) 1
    have u3:=Int.mul_nonneg u1.1 u2.1
    clear h1 h2 h3 hw ha1 ha2 hbl
    have u4:strokeN mins a t 20*strokeN mins (ringA mins a) (ringT mins a t) 1≤20*1:=Int.mul_le_mul (by omega) (by omega) (by omega) (by omega)
    refine V_seq (V_region (S_go 1 (S_end (V_seq (V_decT ((↑c:Int)<b.cr) (by omega) (V_skip (V_seq (V_block 1 (V_region (S_go 2 (S_a [(6,.ret (I (strokeN mins a t 20)) ([bellV mins (ringA mins a) (ringT mins a t)]))] (ap (f24 (mins) (a) (t) (20) (by omega) (by omega)) an) (S_go 1 (S_a [(6,.ret (I (strokeN mins (ringA mins a) (ringT mins a t) 1)) ([bellV mins (ringA mins (ringA mins a)) (ringT mins (ringA mins a) (ringT mins a t))]))] (ap (f24 (mins) (ringA mins a) (ringT mins a t) (1) (by omega) (by omega)) an) (S_a [(1,.v (I (strokeN mins a t 20*strokeN mins (ringA mins a) (ringT mins a t) 1)))] (ap ((wrapE rfl (by omega)):I (IntKind.i64.wrap (strokeN mins a t 20*strokeN mins (ringA mins a) (ringT mins a t) 1))=I (strokeN mins a t 20*strokeN mins (ringA mins a) (ringT mins a t) 1)) an) (S_go 1 (S_a [(4,.ob),(0,.ob),(0,.ob),(2,.v (PV.own 1 (List.map I (la++[strokeN mins a t 20*strokeN mins (ringA mins a) (ringT mins a t) 1]))))] (ap ((by exact ble_of (by simp only [List.length_map,List.length_set,List.length_append,List.length_cons,List.length_nil,limit]<;>omega)):(0+(List.map I la).length).ble (List.map I la).length=true) (ap ((by exact ble_of (by simp only [List.length_map,List.length_set,List.length_append,List.length_cons,List.length_nil,limit]<;>omega)):((List.map I la).length + [I (strokeN mins a t 20*strokeN mins (ringA mins a) (ringT mins a t) 1)].length).ble limit=true) (ap ((by exact beq_of (by simp<;>omega)):(0+(List.map I la).length).beq (List.map I la).length=true) (ap ((by simp):PV.own 1 (List.map I la++[I (strokeN mins a t 20*strokeN mins (ringA mins a) (ringT mins a t) 1)])=PV.own 1 (List.map I (la++[strokeN mins a t 20*strokeN mins (ringA mins a) (ringT mins a t) 1]))) an)))) (S_go 1 (S_end (V_region (S_a [(1,.v (I (↑(c+1):Int)))] (ap ((wrapE (by omega) (by omega)):I (IntKind.i64.wrap ((↑c:Int)+1))=I (↑(c+1):Int)) an) (S_go 1 (S_end ?_))))))))))))))))))))))
    exact ⟨(c+1,la++[strokeN mins a t 20*strokeN mins (ringA mins a) (ringT mins a t) 1],ringA mins (ringA mins a),ringT mins (ringA mins a) (ringT mins a t)),⟨by omega,by simp [hla],fun x hx=>by
      rcases List.mem_append.1 hx with hx | hx
      · exact hlr x hx
      · rw [List.mem_singleton] at hx;subst hx;omega,g2⟩,by simp only;omega,by kernel_rfl,by kernel_rfl⟩
end Go.Eng
set_option maxRecDepth 10000
set_option maxHeartbeats 4000000
namespace Go.Eng
open Go Go.Proofs
section
variable [Yo]
omit [Yo] in
theorem fees_bd {b:Dk} {l:List Int} (hs:ShareOk b l):∀ x∈feesL b l,0≤x∧x≤1000000:=fun x hx=>by
  have hg:=box_good hs.box
  have hsl:=hs.len
  have hbl:=hg.len
  have e:feesL b l=(addF (feesOf b) l l.length).take b.cr.toNat:=by simp only [feesL,share_err hs,if_true]
  rw [e] at hx
  exact addF_in (feesOf_bd hg) (n:=l.length) (by omega) x (List.mem_of_mem_take hx)
omit [Yo] in
theorem max_bd {l:List Int} {B:Int} (h:∀ x∈l,0≤x∧x≤B) (hB:0≤B):0≤maxL l∧maxL l≤B:=by
  refine fold_bd l.tail _ (fun x hx=>h x (List.mem_of_mem_tail hx)) ?_
  cases l with
  | nil=>simp;omega
  | cons x l=>exact h x (by simp)
omit [Yo] in
theorem min_bd {l:List Int} {B:Int} (h:∀ x∈l,0≤x∧x≤B) (hB:0≤B):0≤minL l∧minL l≤B:=by
  refine fold_bd l.tail _ (fun x hx=>h x (List.mem_of_mem_tail hx)) ?_
  cases l with
  | nil=>simp;omega
  | cons x l=>exact h x (by simp)
omit [Yo] in
theorem firstMin_one {V:List Int→Int} {l:List Int}:FirstMin V [l] l:=⟨[],[],rfl,fun y hy=>(by cases hy),fun y hy=>(by cases hy)⟩
theorem f42a (b:Dk) (hb:Small b):FG 42 [boxV b,.bool false] (.tup [ints (bestL b (wMost b)),I (bestV b (wMost b)),I (boxErr b)]):=by
  by_cases h:boxErr b=0
  · have hg:=box_good h
    have hbl:=hg.len
    have h104:=f104 b hg b.rs.length 0 (Nat.zero_add _)
    obtain ⟨hF,hV,_⟩:=best_first (w:=wMost b) hg (most_nn hg) b.rs.length 0 0 0 0 (Nat.le_refl _) (Int.le_refl _) (Int.le_refl _) (Int.le_refl _) (Int.le_refl _)
    have e1:bestL b (wMost b)=bestP b (wMost b) b.rs.length 0 0 0 0:=by simp only [bestL,h,if_true]
    have e2:bestV b (wMost b)=restS b (wMost b) b.rs.length 0 0 0 0:=by simp only [bestV,h,if_true]
    rw [← e1] at hF hV
    rw [← e2] at hV
    have hok:∀ l∈shN b b.rs.length,ShareOk b l:=fun l hl=>shN_ok hg hl
    have hRl:(shN b b.rs.length).length≤16384:=by
      have h1:=shN_len hg b.rs.length (Nat.le_refl _)
      have h2:4 ^ b.rs.length≤4 ^ 7:=Nat.pow_le_pow_right (by omega) (by omega)
      omega
    have hvl:∀ l,ShareOk b l→valN b (wMost b) b.rs.length 0 0 0 0 l=maxL (feesL b l):=fun l hs=>by
      rw [val_share hs,fees_four hs];rfl
    generalize valN b (wMost b) b.rs.length 0 0 0 0=V at *
    generalize shN b b.rs.length=R at *
    rw [h]
    refine gives_ofX Try.f42 ?_
    refine V_seq (V_region (S_go 4 (S_end (V_seq (V_seq (V_region (S_go 1 (S_a [(6,.ret (I (boxErr b)) ([]))] (ap (f59 (b) (by omega)) an) (S_go 1 (S_end (V_seq (V_region (S_go 2 (S_end (V_ndecF (boxErr b=0) (by omega) (V_skip (V_seq (V_region (S_go 1 (S_a [(8,.ret (PV.sl (List.map ints R)) ([]))] (ap (h104) an) (S_go 1 (S_end (V_seq (V_region (S_go 1 (S_end (V_seq (V_region (S_go 1 (S_end (V_seq (V_seq (V_region (S_go 1 (S_end (V_block 0 ?_))))))))))))))))))))))))))))))))))))
    refine V_loopS (fun (i,o,m)=>i≤R.length∧(o=none→i=0∧m=0)∧∀ x,o=some x→FirstMin V (R.take i) x∧m=V x∧0<i) (fun (i,o,m)=>[(9,match o with | none => .own 1 [] | some q=>ints q),(10,I m),(11,I (i:Nat))]) (fun (i,_)=>R.length-i) ((0:Nat),(none:Option (List Int)),(0:Int)) ⟨Nat.zero_le _,fun _=>⟨rfl,rfl⟩,fun q h=>nomatch h⟩ fun (i,o,m) ⟨hi,ho,hq⟩=>?_
    by_cases hil:i<R.length
    · have hs:=hok (R.getD i []) (by rw [getD_lt hil];exact List.getElem_mem _)
      have hse:=share_err hs
      have hsl:=hs.len
      have hfl:=fees_len hs
      have hcr:=hg.cr
      have hfb:=fees_bd hs
      have hmx:=max_bd hfb (by omega)
      have hmn:=min_bd hfb (by omega)
      have hv:=hvl _ hs
      have htk:R.take i++[R.getD i []]=R.take (i+1):=by rw [List.take_add_one,List.getElem?_eq_getElem hil,getD_lt hil];rfl
      cases o with
      | none =>
        obtain ⟨rfl,rfl⟩:=ho rfl
        clear ho hq hok hvl hF hV hfb
        refine V_seq (V_seq (V_region (S_go 2 (S_a [(0,.n (R.length))] (ap ((by simp):some (List.map ints R).length=some R.length) an) (S_go 1 (S_end (V_decT ((↑0:Int)<(↑R.length:Int)) (by omega) (V_skip (V_seq (V_block 1 (V_seq (V_region (S_go 3 (S_a [(2,.v (PV.sl (List.map I (R.getD 0 []))))] (ap (getm ([]) (by omega):(List.map ints R)[0]? = some (PV.sl (List.map I (R.getD 0 [])))) an) (S_go 1 (S_a [(8,.ret (PV.tup [PV.own 1 (List.map I (feesL b (R.getD 0 []))),I (shareErr b (R.getD 0 []))]) ([]))] (ap (f62 (b) (R.getD 0 []) (by omega) (by omega)) an) (S_go 5 (S_end (V_seq (V_region (S_go 1 (S_a [(3,.ob),(0,.v (PV.sl (List.map I (feesL b (R.getD 0 []))))),(2,.ret (I (maxL (feesL b (R.getD 0 [])))) ([]))] (ap ((by exact ble_of (by simp only [List.length_map,List.length_set,List.length_append,List.length_cons,List.length_nil,limit]<;>omega)):(0+(List.map I (feesL b (R.getD 0 []))).length).ble (List.map I (feesL b (R.getD 0 []))).length=true) (ap ((sl_ext (freezes_all (freezes_mapH _))):PV.sl (freezes (List.take (List.map I (feesL b (R.getD 0 []))).length (List.drop 0 (List.map I (feesL b (R.getD 0 []))))))=PV.sl (List.map I (feesL b (R.getD 0 [])))) (ap (f105 (feesL b (R.getD 0 [])) (by omega) (by omega)) an))) (S_go 1 (S_end (V_seq (V_seq (V_region (S_go 1 (S_end (V_false (V_skip (V_seq (V_region (S_go 7 (S_end (V_true (V_region (S_go 2 (S_a [(2,.v (PV.sl (List.map I (R.getD 0 []))))] (ap (getm ([]) (by omega):(List.map ints R)[0]? = some (PV.sl (List.map I (R.getD 0 [])))) an) (S_go 4 (S_end (V_region (S_go 3 (S_end ?_))))))))))))))))))))))))))))))))))))))))))))
        refine ⟨(1,some (R.getD 0 []),V (R.getD 0 [])),⟨by omega,fun h=>(by cases h),fun x hx=>?_⟩,by simp only;omega,by rw [hv];kernel_rfl,by kernel_rfl⟩
        cases hx
        exact ⟨by rw [← htk];exact firstMin_one,rfl,by omega⟩
      | some x =>
        have hx3:=hq x rfl
        have hx1:=hx3.1
        have hx2:=hx3.2.1
        have hx0:=hx3.2.2
        clear ho hq hok hvl hF hV hfb hx3
        refine V_seq (V_seq (V_region (S_go 2 (S_a [(0,.n (R.length))] (ap ((by simp):some (List.map ints R).length=some R.length) an) (S_go 1 (S_end (V_decT ((↑i:Int)<(↑R.length:Int)) (by omega) (V_skip (V_seq (V_block 1 (V_seq (V_region (S_go 3 (S_a [(2,.v (PV.sl (List.map I (R.getD i []))))] (ap (getm ([]) (by omega):(List.map ints R)[i]? = some (PV.sl (List.map I (R.getD i [])))) an) (S_go 1 (S_a [(8,.ret (PV.tup [PV.own 1 (List.map I (feesL b (R.getD i []))),I (shareErr b (R.getD i []))]) ([]))] (ap (f62 (b) (R.getD i []) (by omega) (by omega)) an) (S_go 5 (S_end (V_seq (V_region (S_go 1 (S_a [(3,.ob),(0,.v (PV.sl (List.map I (feesL b (R.getD i []))))),(2,.ret (I (maxL (feesL b (R.getD i [])))) ([]))] (ap ((by exact ble_of (by simp only [List.length_map,List.length_set,List.length_append,List.length_cons,List.length_nil,limit]<;>omega)):(0+(List.map I (feesL b (R.getD i []))).length).ble (List.map I (feesL b (R.getD i []))).length=true) (ap ((sl_ext (freezes_all (freezes_mapH _))):PV.sl (freezes (List.take (List.map I (feesL b (R.getD i []))).length (List.drop 0 (List.map I (feesL b (R.getD i []))))))=PV.sl (List.map I (feesL b (R.getD i [])))) (ap (f105 (feesL b (R.getD i [])) (by omega) (by omega)) an))) (S_go 1 (S_end (V_seq (V_seq (V_region (S_go 1 (S_end (V_false (V_skip (V_seq (V_region (S_go 3 (S_decF 46 ((↑i:Int)=0) (by omega) (S_go 4 (S_end (V_dec (maxL (feesL b (R.getD i []))<m) (fun k0=>(V_region (S_go 2 (S_a [(2,.v (PV.sl (List.map I (R.getD i []))))] (ap (getm ([]) (by omega):(List.map ints R)[i]? = some (PV.sl (List.map I (R.getD i [])))) an) (S_go 4 (S_end (V_region (S_go 1 (S_a [(1,.v (I (↑(i+1):Int)))] (ap ((wrapE (by omega) (by omega)):I (IntKind.i64.wrap ((↑i:Int)+1))=I (↑(i+1):Int)) an) (S_go 1 (S_end ?_))))))))))) (fun k0=>(V_skip (V_region (S_go 1 (S_a [(1,.v (I (↑(i+1):Int)))] (ap ((wrapE (by omega) (by omega)):I (IntKind.i64.wrap ((↑i:Int)+1))=I (↑(i+1):Int)) an) (S_go 1 (S_end ?_)))))))))))))))))))))))))))))))))))))))))))))
        · refine ⟨(i+1,some (R.getD i []),V (R.getD i [])),⟨by omega,fun h=>(by cases h),fun y hy=>?_⟩,by simp only;omega,by rw [hv];kernel_rfl,by kernel_rfl⟩
          cases hy
          exact ⟨by rw [← htk];exact firstMin_lt hx1 (by omega),rfl,by omega⟩
        · refine ⟨(i+1,some x,m),⟨by omega,fun h=>(by cases h),fun y hy=>?_⟩,by simp only;omega,by kernel_rfl,by kernel_rfl⟩
          cases hy
          exact ⟨by rw [← htk];exact firstMin_ge hx1 (by omega),hx2,by omega⟩
    · rw [List.take_of_length_le (by omega)] at hq
      cases o with
      | none =>
        have:=ho rfl
        obtain ⟨A,B,e,_⟩:=hF
        rw [e] at hil
        simp at hil;omega
      | some x =>
        have hx3:=hq x rfl
        have e3:=firstMin_unique hx3.1 hF
        have e4:=hx3.2.1
        rw [e3,hV] at e4
        subst e3 e4
        refine V_seq (V_seq (V_region (S_go 2 (S_a [(0,.n (R.length))] (ap ((by simp):some (List.map ints R).length=some R.length) an) (S_go 1 (S_end (V_decF ((↑i:Int)<(↑R.length:Int)) (by omega) (V_exit 0 (V_seq (V_region (S_go 5 (S_end (V_ret (E_a [] an (PV.tup [PV.sl (List.map I (bestL b (wMost b))),I (bestV b (wMost b)),I 0]) ([]) rfl rfl))))))))))))))
  · have e1:bestL b (wMost b)=[]:=by simp only [bestL,h,if_false]
    have e2:bestV b (wMost b)=0:=by simp only [bestV,h,if_false]
    rw [e1,e2]
    refine gives_ofX Try.f42 ?_
    refine V_seq (V_region (S_go 4 (S_end (V_seq (V_seq (V_region (S_go 1 (S_a [(6,.ret (I (boxErr b)) ([]))] (ap (f59 (b) (by omega)) an) (S_go 1 (S_end (V_seq (V_region (S_go 2 (S_end (V_ndecT (boxErr b=0) (by omega) (V_seq (V_region (S_go 4 (S_end (V_ret (E_a [] an (PV.tup [PV.sl [],I 0,I (boxErr b)]) ([]) rfl rfl)))))))))))))))))))))
theorem f42b (b:Dk) (hb:Small b):FG 42 [boxV b,.bool true] (.tup [ints (bestL b (wSpread b)),I (bestV b (wSpread b)),I (boxErr b)]):=by
  by_cases h:boxErr b=0
  · have hg:=box_good h
    have hbl:=hg.len
    have h104:=f104 b hg b.rs.length 0 (Nat.zero_add _)
    obtain ⟨hF,hV,_⟩:=best_first (w:=wSpread b) hg (spread_nn hg) b.rs.length 0 0 0 0 (Nat.le_refl _) (Int.le_refl _) (Int.le_refl _) (Int.le_refl _) (Int.le_refl _)
    have e1:bestL b (wSpread b)=bestP b (wSpread b) b.rs.length 0 0 0 0:=by simp only [bestL,h,if_true]
    have e2:bestV b (wSpread b)=restS b (wSpread b) b.rs.length 0 0 0 0:=by simp only [bestV,h,if_true]
    rw [← e1] at hF hV
    rw [← e2] at hV
    have hok:∀ l∈shN b b.rs.length,ShareOk b l:=fun l hl=>shN_ok hg hl
    have hRl:(shN b b.rs.length).length≤16384:=by
      have h1:=shN_len hg b.rs.length (Nat.le_refl _)
      have h2:4 ^ b.rs.length≤4 ^ 7:=Nat.pow_le_pow_right (by omega) (by omega)
      omega
    have hvl:∀ l,ShareOk b l→valN b (wSpread b) b.rs.length 0 0 0 0 l=maxL (feesL b l)-minL (feesL b l):=fun l hs=>by
      rw [val_share hs,fees_four hs];rfl
    generalize valN b (wSpread b) b.rs.length 0 0 0 0=V at *
    generalize shN b b.rs.length=R at *
    rw [h]
    refine gives_ofX Try.f42 ?_
    refine V_seq (V_region (S_go 4 (S_end (V_seq (V_seq (V_region (S_go 1 (S_a [(6,.ret (I (boxErr b)) ([]))] (ap (f59 (b) (by omega)) an) (S_go 1 (S_end (V_seq (V_region (S_go 2 (S_end (V_ndecF (boxErr b=0) (by omega) (V_skip (V_seq (V_region (S_go 1 (S_a [(8,.ret (PV.sl (List.map ints R)) ([]))] (ap (h104) an) (S_go 1 (S_end (V_seq (V_region (S_go 1 (S_end (V_seq (V_region (S_go 1 (S_end (V_seq (V_seq (V_region (S_go 1 (S_end (V_block 0 ?_))))))))))))))))))))))))))))))))))))
    refine V_loopS (fun (i,o,m)=>i≤R.length∧(o=none→i=0∧m=0)∧∀ x,o=some x→FirstMin V (R.take i) x∧m=V x∧0<i) (fun (i,o,m)=>[(9,match o with | none => .own 1 [] | some q=>ints q),(10,I m),(11,I (i:Nat))]) (fun (i,_)=>R.length-i) ((0:Nat),(none:Option (List Int)),(0:Int)) ⟨Nat.zero_le _,fun _=>⟨rfl,rfl⟩,fun q h=>nomatch h⟩ fun (i,o,m) ⟨hi,ho,hq⟩=>?_
    by_cases hil:i<R.length
    · have hs:=hok (R.getD i []) (by rw [getD_lt hil];exact List.getElem_mem _)
      have hse:=share_err hs
      have hsl:=hs.len
      have hfl:=fees_len hs
      have hcr:=hg.cr
      have hfb:=fees_bd hs
      have hmx:=max_bd hfb (by omega)
      have hmn:=min_bd hfb (by omega)
      have hv:=hvl _ hs
      have htk:R.take i++[R.getD i []]=R.take (i+1):=by rw [List.take_add_one,List.getElem?_eq_getElem hil,getD_lt hil];rfl
      cases o with
      | none =>
        obtain ⟨rfl,rfl⟩:=ho rfl
        clear ho hq hok hvl hF hV hfb
        refine V_seq (V_seq (V_region (S_go 2 (S_a [(0,.n (R.length))] (ap ((by simp):some (List.map ints R).length=some R.length) an) (S_go 1 (S_end (V_decT ((↑0:Int)<(↑R.length:Int)) (by omega) (V_skip (V_seq (V_block 1 (V_seq (V_region (S_go 3 (S_a [(2,.v (PV.sl (List.map I (R.getD 0 []))))] (ap (getm ([]) (by omega):(List.map ints R)[0]? = some (PV.sl (List.map I (R.getD 0 [])))) an) (S_go 1 (S_a [(8,.ret (PV.tup [PV.own 1 (List.map I (feesL b (R.getD 0 []))),I (shareErr b (R.getD 0 []))]) ([]))] (ap (f62 (b) (R.getD 0 []) (by omega) (by omega)) an) (S_go 5 (S_end (V_seq (V_region (S_go 1 (S_a [(3,.ob),(0,.v (PV.sl (List.map I (feesL b (R.getD 0 []))))),(2,.ret (I (maxL (feesL b (R.getD 0 [])))) ([]))] (ap ((by exact ble_of (by simp only [List.length_map,List.length_set,List.length_append,List.length_cons,List.length_nil,limit]<;>omega)):(0+(List.map I (feesL b (R.getD 0 []))).length).ble (List.map I (feesL b (R.getD 0 []))).length=true) (ap ((sl_ext (freezes_all (freezes_mapH _))):PV.sl (freezes (List.take (List.map I (feesL b (R.getD 0 []))).length (List.drop 0 (List.map I (feesL b (R.getD 0 []))))))=PV.sl (List.map I (feesL b (R.getD 0 [])))) (ap (f105 (feesL b (R.getD 0 [])) (by omega) (by omega)) an))) (S_go 1 (S_end (V_seq (V_seq (V_region (S_go 1 (S_end (V_true (V_region (S_go 2 (S_a [(3,.ob),(0,.v (PV.sl (List.map I (feesL b (R.getD 0 []))))),(2,.ret (I (minL (feesL b (R.getD 0 [])))) ([]))] (ap ((by exact ble_of (by simp only [List.length_map,List.length_set,List.length_append,List.length_cons,List.length_nil,limit]<;>omega)):(0+(List.map I (feesL b (R.getD 0 []))).length).ble (List.map I (feesL b (R.getD 0 []))).length=true) (ap ((sl_ext (freezes_all (freezes_mapH _))):PV.sl (freezes (List.take (List.map I (feesL b (R.getD 0 []))).length (List.drop 0 (List.map I (feesL b (R.getD 0 []))))))=PV.sl (List.map I (feesL b (R.getD 0 [])))) (ap (f106 (feesL b (R.getD 0 [])) (by omega) (by omega)) an))) (S_a [(1,.v (I (maxL (feesL b (R.getD 0 []))-minL (feesL b (R.getD 0 [])))))] (ap ((wrapE rfl (by omega)):I (IntKind.i64.wrap (maxL (feesL b (R.getD 0 []))-minL (feesL b (R.getD 0 []))))=I (maxL (feesL b (R.getD 0 []))-minL (feesL b (R.getD 0 [])))) an) (S_go 1 (S_end (V_seq (V_region (S_go 7 (S_end (V_true (V_region (S_go 2 (S_a [(2,.v (PV.sl (List.map I (R.getD 0 []))))] (ap (getm ([]) (by omega):(List.map ints R)[0]? = some (PV.sl (List.map I (R.getD 0 [])))) an) (S_go 4 (S_end (V_region (S_go 3 (S_end ?_)))))))))))))))))))))))))))))))))))))))))))))))))
        refine ⟨(1,some (R.getD 0 []),V (R.getD 0 [])),⟨by omega,fun h=>(by cases h),fun x hx=>?_⟩,by simp only;omega,by rw [hv];kernel_rfl,by kernel_rfl⟩
        cases hx
        exact ⟨by rw [← htk];exact firstMin_one,rfl,by omega⟩
      | some x =>
        have hx3:=hq x rfl
        have hx1:=hx3.1
        have hx2:=hx3.2.1
        have hx0:=hx3.2.2
        clear ho hq hok hvl hF hV hfb hx3
        refine V_seq (V_seq (V_region (S_go 2 (S_a [(0,.n (R.length))] (ap ((by simp):some (List.map ints R).length=some R.length) an) (S_go 1 (S_end (V_decT ((↑i:Int)<(↑R.length:Int)) (by omega) (V_skip (V_seq (V_block 1 (V_seq (V_region (S_go 3 (S_a [(2,.v (PV.sl (List.map I (R.getD i []))))] (ap (getm ([]) (by omega):(List.map ints R)[i]? = some (PV.sl (List.map I (R.getD i [])))) an) (S_go 1 (S_a [(8,.ret (PV.tup [PV.own 1 (List.map I (feesL b (R.getD i []))),I (shareErr b (R.getD i []))]) ([]))] (ap (f62 (b) (R.getD i []) (by omega) (by omega)) an) (S_go 5 (S_end (V_seq (V_region (S_go 1 (S_a [(3,.ob),(0,.v (PV.sl (List.map I (feesL b (R.getD i []))))),(2,.ret (I (maxL (feesL b (R.getD i [])))) ([]))] (ap ((by exact ble_of (by simp only [List.length_map,List.length_set,List.length_append,List.length_cons,List.length_nil,limit]<;>omega)):(0+(List.map I (feesL b (R.getD i []))).length).ble (List.map I (feesL b (R.getD i []))).length=true) (ap ((sl_ext (freezes_all (freezes_mapH _))):PV.sl (freezes (List.take (List.map I (feesL b (R.getD i []))).length (List.drop 0 (List.map I (feesL b (R.getD i []))))))=PV.sl (List.map I (feesL b (R.getD i [])))) (ap (f105 (feesL b (R.getD i [])) (by omega) (by omega)) an))) (S_go 1 (S_end (V_seq (V_seq (V_region (S_go 1 (S_end (V_true (V_region (S_go 2 (S_a [(3,.ob),(0,.v (PV.sl (List.map I (feesL b (R.getD i []))))),(2,.ret (I (minL (feesL b (R.getD i [])))) ([]))] (ap ((by exact ble_of (by simp only [List.length_map,List.length_set,List.length_append,List.length_cons,List.length_nil,limit]<;>omega)):(0+(List.map I (feesL b (R.getD i []))).length).ble (List.map I (feesL b (R.getD i []))).length=true) (ap ((sl_ext (freezes_all (freezes_mapH _))):PV.sl (freezes (List.take (List.map I (feesL b (R.getD i []))).length (List.drop 0 (List.map I (feesL b (R.getD i []))))))=PV.sl (List.map I (feesL b (R.getD i [])))) (ap (f106 (feesL b (R.getD i [])) (by omega) (by omega)) an))) (S_a [(1,.v (I (maxL (feesL b (R.getD i []))-minL (feesL b (R.getD i [])))))] (ap ((wrapE rfl (by omega)):I (IntKind.i64.wrap (maxL (feesL b (R.getD i []))-minL (feesL b (R.getD i []))))=I (maxL (feesL b (R.getD i []))-minL (feesL b (R.getD i [])))) an) (S_go 1 (S_end (V_seq (V_region (S_go 3 (S_decF 46 ((↑i:Int)=0) (by omega) (S_go 4 (S_end (V_dec (maxL (feesL b (R.getD i []))-minL (feesL b (R.getD i []))<m) (fun k0=>(V_region (S_go 2 (S_a [(2,.v (PV.sl (List.map I (R.getD i []))))] (ap (getm ([]) (by omega):(List.map ints R)[i]? = some (PV.sl (List.map I (R.getD i [])))) an) (S_go 4 (S_end (V_region (S_go 1 (S_a [(1,.v (I (↑(i+1):Int)))] (ap ((wrapE (by omega) (by omega)):I (IntKind.i64.wrap ((↑i:Int)+1))=I (↑(i+1):Int)) an) (S_go 1 (S_end ?_))))))))))) (fun k0=>(V_skip (V_region (S_go 1 (S_a [(1,.v (I (↑(i+1):Int)))] (ap ((wrapE (by omega) (by omega)):I (IntKind.i64.wrap ((↑i:Int)+1))=I (↑(i+1):Int)) an) (S_go 1 (S_end ?_))))))))))))))))))))))))))))))))))))))))))))))))))
        · refine ⟨(i+1,some (R.getD i []),V (R.getD i [])),⟨by omega,fun h=>(by cases h),fun y hy=>?_⟩,by simp only;omega,by rw [hv];kernel_rfl,by kernel_rfl⟩
          cases hy
          exact ⟨by rw [← htk];exact firstMin_lt hx1 (by omega),rfl,by omega⟩
        · refine ⟨(i+1,some x,m),⟨by omega,fun h=>(by cases h),fun y hy=>?_⟩,by simp only;omega,by kernel_rfl,by kernel_rfl⟩
          cases hy
          exact ⟨by rw [← htk];exact firstMin_ge hx1 (by omega),hx2,by omega⟩
    · rw [List.take_of_length_le (by omega)] at hq
      cases o with
      | none =>
        have:=ho rfl
        obtain ⟨A,B,e,_⟩:=hF
        rw [e] at hil
        simp at hil;omega
      | some x =>
        have hx3:=hq x rfl
        have e3:=firstMin_unique hx3.1 hF
        have e4:=hx3.2.1
        rw [e3,hV] at e4
        subst e3 e4
        refine V_seq (V_seq (V_region (S_go 2 (S_a [(0,.n (R.length))] (ap ((by simp):some (List.map ints R).length=some R.length) an) (S_go 1 (S_end (V_decF ((↑i:Int)<(↑R.length:Int)) (by omega) (V_exit 0 (V_seq (V_region (S_go 5 (S_end (V_ret (E_a [] an (PV.tup [PV.sl (List.map I (bestL b (wSpread b))),I (bestV b (wSpread b)),I 0]) ([]) rfl rfl))))))))))))))
  · have e1:bestL b (wSpread b)=[]:=by simp only [bestL,h,if_false]
    have e2:bestV b (wSpread b)=0:=by simp only [bestV,h,if_false]
    rw [e1,e2]
    refine gives_ofX Try.f42 ?_
    refine V_seq (V_region (S_go 4 (S_end (V_seq (V_seq (V_region (S_go 1 (S_a [(6,.ret (I (boxErr b)) ([]))] (ap (f59 (b) (by omega)) an) (S_go 1 (S_end (V_seq (V_region (S_go 2 (S_end (V_ndecT (boxErr b=0) (by omega) (V_seq (V_region (S_go 4 (S_end (V_ret (E_a [] an (PV.tup [PV.sl [],I 0,I (boxErr b)]) ([]) rfl rfl)))))))))))))))))))))
end
end Go.Eng
set_option maxRecDepth 10000
set_option maxHeartbeats 4000000
namespace Go.Eng
open Go Go.Proofs
theorem bestP_len {b:Dk} {w:Int→Int→Int→Int→Int}:∀ (k:Nat) (f0 f1 f2 f3:Int),(bestP b w k f0 f1 f2 f3).length=k
  | 0,_,_,_,_=>rfl
  | k+1,_,_,_,_=>by rw [bestP,List.length_cons,bestP_len k]
theorem bestL_len {b:Dk} {w:Int→Int→Int→Int→Int}:(bestL b w).length≤7:=by
  unfold bestL
  split
  · rename_i h
    rw [bestP_len];exact (box_good h).len
  · simp
theorem f8 (b:Dk):FG 8 [boxV b] (.bool true):=by
  cases hg:greatB b with
  | true =>
    have h29:FG 29 [boxV b] (.bool true):=hg▸f29 b
    refine gives_ofX Try.f8 ?_
    refine V_seq (V_region (S_go 2 (S_end (V_seq (V_seq (V_region (S_go 1 (S_a [(6,.ret (PV.bool true) ([]))] (ap (h29) an) (S_go 12 (S_end (V_true (V_seq (V_region (S_a [(4,.ret (PV.bool true) ([]))] (ap (f16) an) (S_go 1 (S_end (V_ret (E_a [] an (PV.bool true) ([]) rfl rfl))))))))))))))))))
  | false =>
    have h29:FG 29 [boxV b] (.bool false):=hg▸f29 b
    obtain ⟨hb,hb2⟩:=great_f hg
    have hsm:=great_small hg
    have hl1:=bestL_len (b:=b) (w:=wMost b)
    have hl2:=bestL_len (b:=b) (w:=wSpread b)
    by_cases hlen:5<b.rs.length∧b.rs.length≤7
    · obtain ⟨hx1,hx2⟩:=hlen
      refine gives_ofX Try.f8 ?_
      refine V_seq (V_region (S_go 2 (S_end (V_seq (V_seq (V_region (S_go 1 (S_a [(6,.ret (PV.bool false) ([]))] (ap (h29) an) (S_go 3 (S_a [(0,.n (b.rs.length))] (ap ((by simp):some (List.map rndV b.rs).length=some b.rs.length) an) (S_go 2 (S_decT 18 ((↑b.rs.length:Int)>5) (by omega) (S_go 2 (S_a [(0,.n (b.rs.length))] (ap ((by simp):some (List.map rndV b.rs).length=some b.rs.length) an) (S_go 3 (S_end (V_decT ((↑b.rs.length:Int)≤7) (by omega) (V_seq (V_region (S_a [(4,.ret (PV.bool true) ([]))] (ap (f16) an) (S_go 1 (S_end (V_ret (E_a [] an (PV.bool true) ([]) rfl rfl))))))))))))))))))))))))
    · by_cases h5:5<b.rs.length
      · refine gives_ofX Try.f8 ?_
        refine V_seq (V_region (S_go 2 (S_end (V_seq (V_seq (V_region (S_go 1 (S_a [(6,.ret (PV.bool false) ([]))] (ap (h29) an) (S_go 3 (S_a [(0,.n (b.rs.length))] (ap ((by simp):some (List.map rndV b.rs).length=some b.rs.length) an) (S_go 2 (S_decT 18 ((↑b.rs.length:Int)>5) (by omega) (S_go 2 (S_a [(0,.n (b.rs.length))] (ap ((by simp):some (List.map rndV b.rs).length=some b.rs.length) an) (S_go 3 (S_end (V_decF ((↑b.rs.length:Int)≤7) (by omega) (V_skip (V_seq (V_region (S_go 1 (S_a [(6,.ret (PV.agg [I b.cr,I b.wd,I b.st,I b.fn,PV.own 3 (List.map rndV b.rs)]) ([]))] (ap (f30 (b) (by omega) (by omega)) an) (S_go 1 (S_a [(6,.ret (PV.agg [I b.cr,I b.wd,I b.st,I b.fn,PV.own 3 (List.map rndO b.rs)]) ([]))] (ap (f31 (b) (by omega) (by omega)) an) (S_go 3 (S_a [(3,.v (PV.agg [I b.cr,I b.wd,I b.st,I b.fn,PV.sl (List.map (fun x=>PV.agg [I x.w,I x.s,PV.sl (List.map I x.may)]) b.rs)]))] (ap ((by simp only [show freezes (List.map rndO b.rs)=List.map (fun x=>PV.agg [I x.w,I x.s,PV.sl (List.map I x.may)]) b.rs from (by first | exact freezes_mapI _ | exact freezes_mapH _ | exact freezes_all (freezes_mapH _) | exact freezes_to (by simp [take_mapL]) (freezes_mapI _))]):PV.agg [I b.cr,I b.wd,I b.st,I b.fn,PV.sl (freezes (List.map rndO b.rs))]=PV.agg [I b.cr,I b.wd,I b.st,I b.fn,PV.sl (List.map (fun x=>PV.agg [I x.w,I x.s,PV.sl (List.map I x.may)]) b.rs)]) an) (S_end (V_seq (V_region (S_go 1 (S_a [(12,.ob),(0,.v (PV.sl (List.map rndV b.rs))),(2,.ret (PV.tup [lstO (bestL b (wMost b)),I (bestV b (wMost b)),I (boxErr b)]) ([])),(1,.yes)] (ap ((by exact ble_of (by simp only [List.length_map,List.length_set,List.length_append,List.length_cons,List.length_nil,limit]<;>omega)):(0+(List.map rndV b.rs).length).ble (List.map rndV b.rs).length=true) (ap ((sl_ext (freezes_all (freezes_mapH _))):PV.sl (freezes (List.take (List.map rndV b.rs).length (List.drop 0 (List.map rndV b.rs))))=PV.sl (List.map rndV b.rs)) (ap (f41 (b) (by omega)) (ap ((by exact ob_and (frees_map _) rfl):(PV.tup [lstO (bestL b (wMost b)),I (bestV b (wMost b)),I (boxErr b)]).free=true) an)))) (S_go 7 (S_end (V_seq (V_region (S_go 1 (S_a [(8,.ret (PV.tup [ints (bestL b (wMost b)),I (bestV b (wMost b)),I (boxErr b)]) ([]))] (ap (f42a (b) (by omega)) an) (S_go 7 (S_end (V_seq (V_seq (V_region (S_go 4 (S_ndecF 45 (bestV b (wMost b)=bestV b (wMost b)) (by omega) (S_go 5 (S_ndecF 50 (boxErr b=boxErr b) (by omega) (S_go 2 (S_a [(3,.ob),(0,.v (PV.sl (List.map I (bestL b (wMost b))))),(4,.ret (PV.bool (decide (bestL b (wMost b)=bestL b (wMost b)))) ([]))] (ap ((by exact ble_of (by simp only [List.length_map,List.length_set,List.length_append,List.length_cons,List.length_nil,limit]<;>omega)):(0+(List.map I (bestL b (wMost b))).length).ble (List.map I (bestL b (wMost b))).length=true) (ap ((sl_ext (freezes_all (freezes_mapH _))):PV.sl (freezes (List.take (List.map I (bestL b (wMost b))).length (List.drop 0 (List.map I (bestL b (wMost b))))))=PV.sl (List.map I (bestL b (wMost b)))) (ap (f20 (bestL b (wMost b)) (bestL b (wMost b)) (by omega)) an))) (S_go 2 (S_end (V_ndecF (bestL b (wMost b)=bestL b (wMost b)) (by (simp;done)) (V_skip (V_seq (V_region (S_go 1 (S_a [(12,.ob),(0,.v (PV.sl (List.map rndV b.rs))),(2,.ret (PV.tup [lstO (bestL b (wSpread b)),I (bestV b (wSpread b)),I (boxErr b)]) ([])),(1,.yes)] (ap ((by exact ble_of (by simp only [List.length_map,List.length_set,List.length_append,List.length_cons,List.length_nil,limit]<;>omega)):(0+(List.map rndV b.rs).length).ble (List.map rndV b.rs).length=true) (ap ((sl_ext (freezes_all (freezes_mapH _))):PV.sl (freezes (List.take (List.map rndV b.rs).length (List.drop 0 (List.map rndV b.rs))))=PV.sl (List.map rndV b.rs)) (ap (f43 (b) (by omega)) (ap ((by exact ob_and (frees_map _) rfl):(PV.tup [lstO (bestL b (wSpread b)),I (bestV b (wSpread b)),I (boxErr b)]).free=true) an)))) (S_go 7 (S_end (V_seq (V_region (S_go 1 (S_a [(8,.ret (PV.tup [ints (bestL b (wSpread b)),I (bestV b (wSpread b)),I (boxErr b)]) ([]))] (ap (f42b (b) (by omega)) an) (S_go 7 (S_end (V_seq (V_region (S_go 4 (S_decT 71 (bestV b (wSpread b)=bestV b (wSpread b)) (by omega) (S_go 5 (S_decT 76 (boxErr b=boxErr b) (by omega) (S_go 2 (S_a [(3,.ob),(0,.v (PV.sl (List.map I (bestL b (wSpread b))))),(4,.ret (PV.bool (decide (bestL b (wSpread b)=bestL b (wSpread b)))) ([]))] (ap ((by exact ble_of (by simp only [List.length_map,List.length_set,List.length_append,List.length_cons,List.length_nil,limit]<;>omega)):(0+(List.map I (bestL b (wSpread b))).length).ble (List.map I (bestL b (wSpread b))).length=true) (ap ((sl_ext (freezes_all (freezes_mapH _))):PV.sl (freezes (List.take (List.map I (bestL b (wSpread b))).length (List.drop 0 (List.map I (bestL b (wSpread b))))))=PV.sl (List.map I (bestL b (wSpread b)))) (ap (f20 (bestL b (wSpread b)) (bestL b (wSpread b)) (by omega)) an))) (S_go 2 (S_decT 81 (bestL b (wSpread b)=bestL b (wSpread b)) (by (simp;done)) (S_go 2 (S_a [(12,.ob),(0,.v (PV.sl (List.map rndV b.rs))),(4,.ret (PV.bool true) ([]))] (ap ((by exact ble_of (by simp only [List.length_map,List.length_set,List.length_append,List.length_cons,List.length_nil,limit]<;>omega)):(0+(List.map rndV b.rs).length).ble (List.map rndV b.rs).length=true) (ap ((sl_ext (freezes_all (freezes_mapH _))):PV.sl (freezes (List.take (List.map rndV b.rs).length (List.drop 0 (List.map rndV b.rs))))=PV.sl (List.map rndV b.rs)) (ap (f38 (b) (b) (by omega) (by omega) (by first | omega | (simp<;>omega))) an))) (S_go 2 (S_a [(4,.ret (PV.bool true) ([]))] (ap (f16) an) (S_go 2 (S_end (V_ret (E_a [] an (PV.bool true) ([]) rfl rfl))))))))))))))))))))))))))))))))))))))))))))))))))))))))))))))))))))))))))))))))))
      · refine gives_ofX Try.f8 ?_
        refine V_seq (V_region (S_go 2 (S_end (V_seq (V_seq (V_region (S_go 1 (S_a [(6,.ret (PV.bool false) ([]))] (ap (h29) an) (S_go 3 (S_a [(0,.n (b.rs.length))] (ap ((by simp):some (List.map rndV b.rs).length=some b.rs.length) an) (S_go 2 (S_decF 18 ((↑b.rs.length:Int)>5) (by omega) (S_go 6 (S_end (V_false (V_skip (V_seq (V_region (S_go 1 (S_a [(6,.ret (PV.agg [I b.cr,I b.wd,I b.st,I b.fn,PV.own 3 (List.map rndV b.rs)]) ([]))] (ap (f30 (b) (by omega) (by omega)) an) (S_go 1 (S_a [(6,.ret (PV.agg [I b.cr,I b.wd,I b.st,I b.fn,PV.own 3 (List.map rndO b.rs)]) ([]))] (ap (f31 (b) (by omega) (by omega)) an) (S_go 3 (S_a [(3,.v (PV.agg [I b.cr,I b.wd,I b.st,I b.fn,PV.sl (List.map (fun x=>PV.agg [I x.w,I x.s,PV.sl (List.map I x.may)]) b.rs)]))] (ap ((by simp only [show freezes (List.map rndO b.rs)=List.map (fun x=>PV.agg [I x.w,I x.s,PV.sl (List.map I x.may)]) b.rs from (by first | exact freezes_mapI _ | exact freezes_mapH _ | exact freezes_all (freezes_mapH _) | exact freezes_to (by simp [take_mapL]) (freezes_mapI _))]):PV.agg [I b.cr,I b.wd,I b.st,I b.fn,PV.sl (freezes (List.map rndO b.rs))]=PV.agg [I b.cr,I b.wd,I b.st,I b.fn,PV.sl (List.map (fun x=>PV.agg [I x.w,I x.s,PV.sl (List.map I x.may)]) b.rs)]) an) (S_end (V_seq (V_region (S_go 1 (S_a [(12,.ob),(0,.v (PV.sl (List.map rndV b.rs))),(2,.ret (PV.tup [lstO (bestL b (wMost b)),I (bestV b (wMost b)),I (boxErr b)]) ([])),(1,.yes)] (ap ((by exact ble_of (by simp only [List.length_map,List.length_set,List.length_append,List.length_cons,List.length_nil,limit]<;>omega)):(0+(List.map rndV b.rs).length).ble (List.map rndV b.rs).length=true) (ap ((sl_ext (freezes_all (freezes_mapH _))):PV.sl (freezes (List.take (List.map rndV b.rs).length (List.drop 0 (List.map rndV b.rs))))=PV.sl (List.map rndV b.rs)) (ap (f41 (b) (by omega)) (ap ((by exact ob_and (frees_map _) rfl):(PV.tup [lstO (bestL b (wMost b)),I (bestV b (wMost b)),I (boxErr b)]).free=true) an)))) (S_go 7 (S_end (V_seq (V_region (S_go 1 (S_a [(8,.ret (PV.tup [ints (bestL b (wMost b)),I (bestV b (wMost b)),I (boxErr b)]) ([]))] (ap (f42a (b) (by omega)) an) (S_go 7 (S_end (V_seq (V_seq (V_region (S_go 4 (S_ndecF 45 (bestV b (wMost b)=bestV b (wMost b)) (by omega) (S_go 5 (S_ndecF 50 (boxErr b=boxErr b) (by omega) (S_go 2 (S_a [(3,.ob),(0,.v (PV.sl (List.map I (bestL b (wMost b))))),(4,.ret (PV.bool (decide (bestL b (wMost b)=bestL b (wMost b)))) ([]))] (ap ((by exact ble_of (by simp only [List.length_map,List.length_set,List.length_append,List.length_cons,List.length_nil,limit]<;>omega)):(0+(List.map I (bestL b (wMost b))).length).ble (List.map I (bestL b (wMost b))).length=true) (ap ((sl_ext (freezes_all (freezes_mapH _))):PV.sl (freezes (List.take (List.map I (bestL b (wMost b))).length (List.drop 0 (List.map I (bestL b (wMost b))))))=PV.sl (List.map I (bestL b (wMost b)))) (ap (f20 (bestL b (wMost b)) (bestL b (wMost b)) (by omega)) an))) (S_go 2 (S_end (V_ndecF (bestL b (wMost b)=bestL b (wMost b)) (by (simp;done)) (V_skip (V_seq (V_region (S_go 1 (S_a [(12,.ob),(0,.v (PV.sl (List.map rndV b.rs))),(2,.ret (PV.tup [lstO (bestL b (wSpread b)),I (bestV b (wSpread b)),I (boxErr b)]) ([])),(1,.yes)] (ap ((by exact ble_of (by simp only [List.length_map,List.length_set,List.length_append,List.length_cons,List.length_nil,limit]<;>omega)):(0+(List.map rndV b.rs).length).ble (List.map rndV b.rs).length=true) (ap ((sl_ext (freezes_all (freezes_mapH _))):PV.sl (freezes (List.take (List.map rndV b.rs).length (List.drop 0 (List.map rndV b.rs))))=PV.sl (List.map rndV b.rs)) (ap (f43 (b) (by omega)) (ap ((by exact ob_and (frees_map _) rfl):(PV.tup [lstO (bestL b (wSpread b)),I (bestV b (wSpread b)),I (boxErr b)]).free=true) an)))) (S_go 7 (S_end (V_seq (V_region (S_go 1 (S_a [(8,.ret (PV.tup [ints (bestL b (wSpread b)),I (bestV b (wSpread b)),I (boxErr b)]) ([]))] (ap (f42b (b) (by omega)) an) (S_go 7 (S_end (V_seq (V_region (S_go 4 (S_decT 71 (bestV b (wSpread b)=bestV b (wSpread b)) (by omega) (S_go 5 (S_decT 76 (boxErr b=boxErr b) (by omega) (S_go 2 (S_a [(3,.ob),(0,.v (PV.sl (List.map I (bestL b (wSpread b))))),(4,.ret (PV.bool (decide (bestL b (wSpread b)=bestL b (wSpread b)))) ([]))] (ap ((by exact ble_of (by simp only [List.length_map,List.length_set,List.length_append,List.length_cons,List.length_nil,limit]<;>omega)):(0+(List.map I (bestL b (wSpread b))).length).ble (List.map I (bestL b (wSpread b))).length=true) (ap ((sl_ext (freezes_all (freezes_mapH _))):PV.sl (freezes (List.take (List.map I (bestL b (wSpread b))).length (List.drop 0 (List.map I (bestL b (wSpread b))))))=PV.sl (List.map I (bestL b (wSpread b)))) (ap (f20 (bestL b (wSpread b)) (bestL b (wSpread b)) (by omega)) an))) (S_go 2 (S_decT 81 (bestL b (wSpread b)=bestL b (wSpread b)) (by (simp;done)) (S_go 2 (S_a [(12,.ob),(0,.v (PV.sl (List.map rndV b.rs))),(4,.ret (PV.bool true) ([]))] (ap ((by exact ble_of (by simp only [List.length_map,List.length_set,List.length_append,List.length_cons,List.length_nil,limit]<;>omega)):(0+(List.map rndV b.rs).length).ble (List.map rndV b.rs).length=true) (ap ((sl_ext (freezes_all (freezes_mapH _))):PV.sl (freezes (List.take (List.map rndV b.rs).length (List.drop 0 (List.map rndV b.rs))))=PV.sl (List.map rndV b.rs)) (ap (f38 (b) (b) (by omega) (by omega) (by first | omega | (simp<;>omega))) an))) (S_go 2 (S_a [(4,.ret (PV.bool true) ([]))] (ap (f16) an) (S_go 2 (S_end (V_ret (E_a [] an (PV.bool true) ([]) rfl rfl))))))))))))))))))))))))))))))))))))))))))))))))))))))))))))))))))))))))))))))))
end Go.Eng
