/- Of the criers who may cry some rounds one has their bound at least, and no rounds that are tried are better than the ones that are told, for all numbers. -/
import Derived.Test.YtpmbobnmpehobaaPf
import Derived.Test.YtpmbobnmpehobaaPd
import Derived.Test.YtpmbobnmpehobaaPe
set_option linter.unusedVariables false
set_option linter.unusedSimpArgs false
set_option linter.unusedSectionVars false
namespace Go.Eng
open Go
theorem perm_sum {l m:List Int} (h:l.Perm m):l.sum=m.sum:=by
  induction h with
  | nil=>rfl
  | cons x _ ih=>simp only [List.sum_cons,ih]
  | swap x y l=>simp only [List.sum_cons];omega
  | trans _ _ h1 h2=>exact h1.trans h2
theorem costs_perm {b:Dk} {l m:List Int} (h:l.Perm m):costs b l=costs b m:=perm_sum (h.map _)
theorem man_perm {b:Dk} {l m:List Int} (h:l.Perm m) (c:Nat):manB b l c=manB b m c:=h.any_eq
theorem bnd_perm {b:Dk} {l m:List Int} (h:l.Perm m):bndS b l=bndS b m:=by
  have h1:menN b l=menN b m:=by
    unfold menN
    rw [show manB b l=manB b m from funext (man_perm h)]
  unfold bndS
  rw [h1,costs_perm h]
theorem subs_incr:∀ (k f:Nat) (l:List Int),l.Pairwise (· < ·)→(∀ x∈l,(f:Int)≤x∧x<((f+k:Nat):Int))→l∈subsF k f
  | 0,f,l,_,h=>by
    cases l with
    | nil=>simp [subsF]
    | cons x l=>have:=h x (by simp);omega
  | k + 1,f,l,hp,h=>by
    cases l with
    | nil=>simp [subsF]
    | cons x l =>
      have hx:=h x (by simp)
      obtain ⟨hp1,hp2⟩:=List.pairwise_cons.1 hp
      simp only [subsF,List.mem_cons,List.mem_append,List.mem_map]
      by_cases e:x=f
      · subst e
        refine .inr (.inl ⟨l,subs_incr k (f+1) l hp2 fun y hy=>?_,rfl⟩)
        have h1:=h y (by simp [hy])
        have h2:=hp1 y hy
        omega
      · have hm:=subs_incr k (f+1) (x::l) hp fun y hy=>by
          have h1:=h y hy
          rcases List.mem_cons.1 hy with rfl | hy
          · omega
          · have h2:=hp1 y hy;omega
        obtain ⟨T,hT⟩:=subs_head (n:=k) (f:=f+1)
        rw [hT] at hm ⊢
        rcases List.mem_cons.1 hm with hm | hm
        · cases hm
        · exact .inr (.inr hm)
def sortR (n:Nat) (l:List Int):List Int:=((List.range n).filter fun (r:Nat)=>l.any fun x=>decide (x=(r:Int))).map Int.ofNat
theorem sortR_incr (n:Nat) (l:List Int):(sortR n l).Pairwise (· < ·):=by
  unfold sortR
  rw [List.pairwise_map]
  refine List.Pairwise.imp (fun {a b} h=>?_) (List.Pairwise.filter _ List.pairwise_lt_range)
  exact Int.ofNat_lt.2 h
theorem sortR_mem {n:Nat} {l:List Int} (hr:∀ x∈l,0≤x∧x<(n:Int)) (x:Int):x∈sortR n l↔x∈l:=by
  simp only [sortR,List.mem_map,List.mem_filter,List.mem_range,List.any_eq_true,decide_eq_true_eq]
  constructor
  · rintro ⟨r,⟨_,y,hy,rfl⟩,rfl⟩;exact hy
  · intro h
    have:=hr x h
    exact ⟨x.toNat,⟨by omega,x,h,by omega⟩,by simp only [Int.ofNat_eq_natCast];omega⟩
theorem incr_nodup {l:List Int} (h:l.Pairwise (· < ·)):l.Nodup:=h.imp fun {a b} h=>by omega
theorem sortR_perm {n:Nat} {l:List Int} (hn:l.Nodup) (hr:∀ x∈l,0≤x∧x<(n:Int)):(sortR n l).Perm l :=
  (List.perm_ext_iff_of_nodup (incr_nodup (sortR_incr n l)) hn).2 (sortR_mem hr)
theorem tried_bnd {b:Dk} (hg:Good b) {l:List Int} (hn:l.Nodup) (hr:∀ x∈l,0≤x∧x<(b.rs.length:Int)) :
    bndS b l≤(gotG b).2∧(bndS b l=(gotG b).2→(gotG b).1.length≤l.length):=by
  have hp:=sortR_perm hn hr
  have hm:sortR b.rs.length l∈bitsAll b.rs.length:=by
    refine (bits_subs hg.len _).2 (subs_incr _ 0 _ (sortR_incr _ _) fun x hx=>?_)
    have:=hr x ((sortR_mem hr x).1 hx);omega
  have hb:=go_best (w:=bndS b) (bnd_nil b) b.rs.length
  have e:gotG b=goG (bndS b) (bitsAll b.rs.length):=by simp only [gotG,good_box hg,if_true]
  rw [← e] at hb
  have h1:=hb.all _ hm
  have h2:=hb.val
  have h3:=bnd_perm (b:=b) hp
  have h4:=hp.length_eq
  rcases h1 with h1 | h1 | ⟨h1,h5⟩
  · rw [h1] at h3 h4;exact ⟨by omega,fun _=>by omega⟩
  · exact ⟨by omega,fun _=>by omega⟩
  · refine ⟨by omega,fun _=>?_⟩
    rcases h5 with h5 | ⟨h5,_⟩
    · omega
    · omega
theorem got_props {b:Dk} (hg:Good b):(gotG b).2=bndS b (gotG b).1∧(gotG b).1.Pairwise (· < ·)∧(∀ x∈(gotG b).1,0≤x∧x≤(b.rs.length:Int)-1)∧(gotG b).1.length≤b.rs.length:=by
  have hb:=go_best (w:=bndS b) (bnd_nil b) b.rs.length
  have e:gotG b=goG (bndS b) (bitsAll b.rs.length):=by simp only [gotG,good_box hg,if_true]
  rw [← e] at hb
  obtain ⟨q,hq,e2⟩:=List.mem_map.1 hb.mem
  refine ⟨hb.val,?_,?_,?_⟩
  · rw [← e2];unfold bitsL
    rw [List.pairwise_map]
    refine List.Pairwise.imp (fun {a b} h=>?_) (List.Pairwise.filter _ List.pairwise_lt_range)
    exact Int.ofNat_lt.2 h
  · rw [← e2];exact bits_bd
  · rw [← e2];exact bits_len
def menSum (b:Dk) (l s:List Int) (k:Nat):Int:=((List.range 4).map fun c:Nat=>if manB b l c then earnN b s (c:Int) k else 0).sum
def inSum (b:Dk) (l:List Int) (k:Nat):Int:=costs b (sortR k l)
theorem sortR_next {k:Nat} {l:List Int}:sortR (k+1) l=sortR k l++(if l.any fun x=>decide (x=(k:Int)) then [(k:Int)] else []):=by
  simp only [sortR,List.range_succ,List.filter_append,List.map_append,List.filter_cons,List.filter_nil]
  split<;>rfl
theorem inSum_next {b:Dk} {k:Nat} {l:List Int}:inSum b l (k+1)=inSum b l k+(if l.any fun x=>decide (x=(k:Int)) then (feesOf b).getD k 0 else 0):=by
  unfold inSum costs
  rw [sortR_next,List.map_append,List.sum_append]
  split<;>simp
theorem menSum_next {b:Dk} {l s:List Int} {k:Nat} (h:0≤s.getD k 0∧s.getD k 0<4):menSum b l s (k+1)=menSum b l s k+(if manB b l (s.getD k 0).toNat then feeOf b (rnd b k) else 0):=by
  simp only [menSum,earnN,show List.range 4=[0,1,2,3] from rfl,List.map_cons,List.map_nil,List.sum_cons,List.sum_nil]
  generalize s.getD k 0=v at *
  obtain rfl | rfl | rfl | rfl:v=0∨v=1∨v=2∨v=3:=by omega
  · show _=_+(if manB b l 0 then _ else _)
    simp only [show ((0:Nat):Int)=0 from rfl,show ((1:Nat):Int)=1 from rfl,show ((2:Nat):Int)=2 from rfl,show ((3:Nat):Int)=3 from rfl]
    simp only [show ((0:Int)=1)=False by simp,show ((0:Int)=2)=False by simp,show ((0:Int)=3)=False by simp,if_false,if_true]
    cases h:manB b l 0<;>simp only [h,if_true,Bool.false_eq_true,if_false]<;>omega
  · show _=_+(if manB b l 1 then _ else _)
    simp only [show ((0:Nat):Int)=0 from rfl,show ((1:Nat):Int)=1 from rfl,show ((2:Nat):Int)=2 from rfl,show ((3:Nat):Int)=3 from rfl]
    simp only [show ((1:Int)=0)=False by simp,show ((1:Int)=2)=False by simp,show ((1:Int)=3)=False by simp,if_false,if_true]
    cases h:manB b l 1<;>simp only [h,if_true,Bool.false_eq_true,if_false]<;>omega
  · show _=_+(if manB b l 2 then _ else _)
    simp only [show ((0:Nat):Int)=0 from rfl,show ((1:Nat):Int)=1 from rfl,show ((2:Nat):Int)=2 from rfl,show ((3:Nat):Int)=3 from rfl]
    simp only [show ((2:Int)=0)=False by simp,show ((2:Int)=1)=False by simp,show ((2:Int)=3)=False by simp,if_false,if_true]
    cases h:manB b l 2<;>simp only [h,if_true,Bool.false_eq_true,if_false]<;>omega
  · show _=_+(if manB b l 3 then _ else _)
    simp only [show ((0:Nat):Int)=0 from rfl,show ((1:Nat):Int)=1 from rfl,show ((2:Nat):Int)=2 from rfl,show ((3:Nat):Int)=3 from rfl]
    simp only [show ((3:Int)=0)=False by simp,show ((3:Int)=1)=False by simp,show ((3:Int)=2)=False by simp,if_false,if_true]
    cases h:manB b l 3<;>simp only [h,if_true,Bool.false_eq_true,if_false]<;>omega
theorem in_le_men {b:Dk} {l s:List Int} (hs:ShareOk b s):∀ k,k≤s.length→inSum b l k≤menSum b l s k
  | 0,_=>by
    have:sortR 0 l=[]:=rfl
    simp [inSum,this,menSum,earnN,costs,show List.range 4=[0,1,2,3] from rfl]
  | k + 1,hk=>by
    have ih:=in_le_men (l:=l) hs k (by omega)
    have hg:=box_good hs.box
    have hlt:=getD_all (share_lt hs) k (by omega)
    rw [inSum_next,menSum_next hlt]
    have hsl:=hs.len
    have hf:=feesOf_at (b:=b) (i:=k) (by omega)
    have hfb:=feeOf_bd hg (rnd_num hg (i:=k) (by omega))
    rw [hf]
    have e:feeOf b (rnd b k)=feeOf b (b.rs.getD k default):=rfl
    rw [e]
    by_cases hin:(l.any fun x=>decide (x=(k:Int)))=true
    · have hm:manB b l (s.getD k 0).toNat=true:=by
        simp only [List.any_eq_true,decide_eq_true_eq] at hin
        obtain ⟨x,hx,rfl⟩:=hin
        simp only [manB,List.any_eq_true]
        refine ⟨_,hx,?_⟩
        rw [Int.toNat_of_nonneg hlt.1]
        exact mayAll_get hs.may (by omega)
      rw [if_pos hin,if_pos hm];omega
    · rw [if_neg hin]
      split<;>omega
theorem someone {b:Dk} {l s:List Int} (hs:ShareOk b s) (hn:l.Nodup) (hr:∀ x∈l,0≤x∧x<(b.rs.length:Int)) (h0:¬ l=[]):∃ c:Nat,c<4∧manB b l c=true∧bndS b l≤earnN b s (c:Int) s.length:=by
  have hg:=box_good hs.box
  have hsl:=hs.len
  have h1:=in_le_men (l:=l) hs s.length (Nat.le_refl _)
  have hp:=sortR_perm (n:=s.length) hn (by rw [hsl];exact hr)
  have h2:inSum b l s.length=costs b l:=costs_perm hp
  rw [h2] at h1
  have hcb:=costs_bd hg (l:=l)
  apply Classical.byContradiction
  intro hc
  have hall:∀ c:Nat,c<4→manB b l c=true→earnN b s (c:Int) s.length≤bndS b l-1:=fun c hc4 hcm=>by
    apply Classical.byContradiction
    intro h
    exact hc ⟨c,hc4,hcm,by omega⟩
  have h3:menSum b l s s.length≤(menN b l:Nat)*(bndS b l-1):=by
    simp only [menSum,menN,show List.range 4=[0,1,2,3] from rfl,List.map_cons,List.map_nil,List.sum_cons,List.sum_nil]
    have a0:=hall 0 (by omega)
    have a1:=hall 1 (by omega)
    have a2:=hall 2 (by omega)
    have a3:=hall 3 (by omega)
    generalize bndS b l-1=B at *
    generalize earnN b s ((0:Nat):Int) s.length=x0 at *
    generalize earnN b s ((1:Nat):Int) s.length=x1 at *
    generalize earnN b s ((2:Nat):Int) s.length=x2 at *
    generalize earnN b s ((3:Nat):Int) s.length=x3 at *
    cases e0:manB b l 0<;>cases e1:manB b l 1<;>cases e2:manB b l 2<;>cases e3:manB b l 3 <;>
      simp only [e0,e1,e2,e3,List.filter_cons,List.filter_nil,if_true,List.length_cons,List.length_nil,forall_const,Bool.false_eq_true,if_false] at * <;> omega
  have h4:menN b l≠0:=by
    cases l with
    | nil=>exact (h0 rfl).elim
    | cons x l =>
      have hx:=hr x (by simp)
      have hmay:=good_may hg (i:=x.toNat) (by omega)
      have hm0:=getD_all hmay.2.1 0 (by omega)
      have hcr:=hg.cr
      have hm:manB b (x::l) ((b.rs.getD x.toNat default).may.getD 0 0).toNat=true:=by
        simp only [manB,List.any_eq_true]
        refine ⟨x,by simp,?_⟩
        rw [Int.toNat_of_nonneg hm0.1]
        simp only [has,List.any_eq_true,decide_eq_true_eq]
        exact ⟨_,by rw [getD_lt (show 0<(b.rs.getD x.toNat default).may.length by omega)];exact List.getElem_mem _,rfl⟩
      intro hz
      have:((b.rs.getD x.toNat default).may.getD 0 0).toNat∈(List.range 4).filter (manB b (x::l)):=List.mem_filter.2 ⟨List.mem_range.2 (by omega),hm⟩
      rw [List.eq_nil_of_length_eq_zero hz] at this
      cases this
  have h5:(menN b l:Nat)*(bndS b l-1)<costs b l:=by
    have hm4:=menN_le b l
    have hb:bndS b l=(costs b l+(menN b l:Nat)-1).tdiv (menN b l:Nat):=by unfold bndS;rw [if_neg h4]
    rw [hb]
    generalize costs b l=s at *
    generalize menN b l=m at *
    rw [Int.tdiv_eq_ediv_of_nonneg (by omega)]
    have:m=1∨m=2∨m=3∨m=4:=by omega
    rcases this with rfl | rfl | rfl | rfl<;>omega
  omega
end Go.Eng
set_option maxRecDepth 10000
set_option maxHeartbeats 4000000
namespace Go.Eng
open Go Go.Proofs
section
variable [Yo]
end
end Go.Eng
set_option maxRecDepth 10000
set_option maxHeartbeats 4000000
namespace Go.Eng
open Go Go.Proofs
structure FinedOk (b:Dk) (s late:List Int) (n:Nat) (got less:List Int):Prop where
  err:fineErr b s late=0
  ge:fineGot b s late=got
  le:fineLess b s late=less.sum
  gl:got.length=n
  ll:less.length=n
  at_:∀ c,c<n→0≤(feesL b s).getD c 0∧(feesL b s).getD c 0≤1000000∧0≤less.getD c 0∧less.getD c 0=min ((feesL b s).getD c 0) (b.fn*late.getD c 0)∧got.getD c 0=(feesL b s).getD c 0-less.getD c 0
theorem fees_len {b:Dk} {s:List Int} (hs:ShareOk b s):(feesL b s).length=b.cr.toNat:=by
  have:=(box_good hs.box).cr
  rw [earn_list hs];simp
theorem fined {b:Dk} {s late:List Int} (hs:ShareOk b s) (hl:(late.length:Int)=b.cr) (hr:∀ x∈late,0≤x∧x≤60):∃ got less,FinedOk b s late b.cr.toNat got less:=by
  have hg:=box_good hs.box
  have hcr:=hg.cr
  have hfn:=hg.fn
  have hsl:=hs.len
  have hbl:=hg.len
  have hr':(!late.all (fun x=>decide (0≤x)&&decide (x≤60)))=false:=by
    simp only [Bool.not_eq_false',List.all_eq_true]
    intro x hx;have:=hr x hx;simp;omega
  have e:fineErr b s late=0:=by simp only [fineErr,share_err hs,hl,hr',if_true];rfl
  have hf:feesL b s=(addF (feesOf b) s s.length).take b.cr.toNat:=by simp only [feesL,share_err hs,if_true]
  refine ⟨gotL b (addF (feesOf b) s s.length) late b.cr.toNat,lessL b (addF (feesOf b) s s.length) late b.cr.toNat,e,by simp only [fineGot,e,if_true],by simp only [fineLess,e,if_true],by simp [gotL],by simp [lessL],fun c hc=>?_⟩
  have h1:(feesL b s).getD c 0=(addF (feesOf b) s s.length).getD c 0:=by rw [hf,take_getD hc]
  have hbd:=addF_bd (share:=s) (feesOf_bd hg) s.length c
  have h2:(lessL b (addF (feesOf b) s s.length) late b.cr.toNat).getD c 0=fineC b (addF (feesOf b) s s.length) late c:=by simp [lessL,List.getD_eq_getElem?_getD,hc]
  have h3:(gotL b (addF (feesOf b) s s.length) late b.cr.toNat).getD c 0=(addF (feesOf b) s s.length).getD c 0-fineC b (addF (feesOf b) s s.length) late c:=by simp [gotL,List.getD_eq_getElem?_getD,hc]
  have h4:=getD_all hr c (by omega)
  have h5:=Int.mul_nonneg hfn.1 h4.1
  rw [h1,h2,h3]
  unfold fineC minI
  refine ⟨hbd.1,by omega,?_,?_,rfl⟩
  · split<;>omega
  · split<;>omega
theorem sum_drop {l:List Int} {i:Nat} (h:i<l.length):(l.drop i).sum=l.getD i 0+(l.drop (i+1)).sum:=by
  rw [List.drop_eq_getElem_cons h,getD_lt h,List.sum_cons]
theorem sum_drop_bd {l:List Int} {B:Int} (h:∀ c,c<l.length→0≤l.getD c 0∧l.getD c 0≤B) (hB:0≤B) (i:Nat):0≤(l.drop i).sum∧(l.drop i).sum≤B*l.length:=by
  have h1:∀ x∈l.drop i,0≤x∧x≤B:=fun x hx=>by
    obtain ⟨j,hj,rfl⟩:=List.getElem_of_mem (List.mem_of_mem_drop hx)
    have:=h j hj;rwa [getD_lt hj] at this
  have h2:=sum_bd (B:=B) (l:=l.drop i) fun x hx=>by have:=h1 x hx;omega
  have h3:=sum_nn fun x hx=>(h1 x hx).1
  have h4:B*((l.drop i).length:Int)≤B*l.length:=Int.mul_le_mul_of_nonneg_left (by simp) hB
  omega
theorem f4 (nums tries mins:List Int) (which:Int) (h1:nums.length<9223372036854775808) (h2:tries.length<9223372036854775808) (h3:mins.length<9223372036854775808) (hw:0≤which∧which≤255):FG 4 [.sl (nums.map u8),.sl (tries.map u8),.sl (mins.map u8),.int .u8 which] (.bool true):=by
  obtain ⟨v,h',hm,b,a1,t1,rfl,rfl,hg,hbl,ha1⟩:=f21_ex nums 0 0 7 ⟨Nat.zero_le _,h1⟩ (by omega)
  obtain ⟨v,h',hsh,s,a2,t2,rfl,rfl,hs,ha2⟩:=f23_ex tries 0 0 b ⟨Nat.zero_le _,h2⟩ hg
  have h25:=f25_1 b s hs
  have hcr:=hg.cr
  have hfn:=hg.fn
  have hfl:=fees_len hs
  have hsl:=hs.len
  have hsm:Small b:=⟨by omega,fun r hr=>by have:=hg.may r hr;have:=incr_len this.2.2 this.2.1 hcr;omega⟩
  refine gives_ofX Try.f4 ?_
  refine V_seq (V_region (S_go 1 (S_end (V_seq (V_region (S_go 1 (S_a [(6,.ret (bellV nums 0 0) ([]))] (ap (f22 (nums)) an) (S_a [(6,.ret (boxO b) ([bellV nums a1 t1]))] (ap (hm) an) (S_go 1 (S_a [(3,.v (PV.agg [PV.int IntKind.i64 b.cr,PV.int IntKind.i64 b.wd,PV.int IntKind.i64 b.st,PV.int IntKind.i64 b.fn,PV.sl (List.map (fun x=>PV.agg [PV.int IntKind.i64 x.w,PV.int IntKind.i64 x.s,PV.sl (List.map I x.may)]) b.rs)]))] (ap ((by simp only [show freezes (List.map rndO b.rs)=List.map (fun x=>PV.agg [PV.int IntKind.i64 x.w,PV.int IntKind.i64 x.s,PV.sl (List.map I x.may)]) b.rs from (by first | exact freezes_mapI _ | exact freezes_mapH _ | exact freezes_all (freezes_mapH _) | exact freezes_to (by simp [take_mapL]) (freezes_mapI _))]):PV.agg [PV.int IntKind.i64 b.cr,PV.int IntKind.i64 b.wd,PV.int IntKind.i64 b.st,PV.int IntKind.i64 b.fn,PV.sl (freezes (List.map rndO b.rs))]=PV.agg [PV.int IntKind.i64 b.cr,PV.int IntKind.i64 b.wd,PV.int IntKind.i64 b.st,PV.int IntKind.i64 b.fn,PV.sl (List.map (fun x=>PV.agg [PV.int IntKind.i64 x.w,PV.int IntKind.i64 x.s,PV.sl (List.map I x.may)]) b.rs)]) an) (S_end (V_seq (V_region (S_go 1 (S_a [(6,.ret (bellV tries 0 0) ([]))] (ap (f22 (tries)) an) (S_go 1 (S_a [(6,.ret (PV.own 1 (List.map I s)) ([bellV tries a2 t2]))] (ap (hsh) an) (S_go 1 (S_end (V_seq (V_region (S_go 1 (S_a [(6,.ret (bellV mins 0 0) ([]))] (ap (f22 (mins)) an) (S_go 1 (S_end (V_seq (V_region (S_go 1 (S_end (V_seq (V_seq (V_region (S_go 3 (S_end (V_block 0 ?_)))))))))))))))))))))))))))))))))))
  refine V_loopS (fun (c,la,a,t)=>(c:Int)≤b.cr∧la.length=c∧(∀ x∈la,0≤x∧x≤20)∧BellOk mins a) (fun (c,la,a,t)=>[(11,bellV mins a t),(12,.own 1 (la.map I)),(35,I (c:Nat))]) (fun (c,_,_,_)=>b.cr.toNat-c) ((0:Nat),([]:List Int),(0:Nat),(0:Int)) ⟨by omega,rfl,by simp,Nat.zero_le _,h3⟩ fun (c,la,a,t) ⟨hc,hla,hlr,ha⟩=>?_
  by_cases hcc:(c:Int)=b.cr
  · obtain ⟨got,less,hF⟩:=fined hs (by omega) (fun x hx=>by have:=hlr x hx;omega:∀ x∈la,0≤x∧x≤60)
    have e1:=hF.err
    obtain rfl:=hF.ge
    have e3:=hF.le
    have e4:=hF.gl
    have e5:=hF.ll
    have hk1:=Int.tmod_nonneg b.cr hw.1
    have hk2:=Int.tmod_lt_of_pos which (show 0<b.cr by omega)
    have hkl:(which.tmod b.cr).toNat<la.length:=by omega
    have hk3:=getD_all hlr (which.tmod b.cr).toNat hkl
    obtain ⟨got2,less2,hF2⟩:=fined (late:=la.set (which.tmod b.cr).toNat (la.getD (which.tmod b.cr).toNat 0+1)) hs (by simp;omega) (fun x hx=>by
      rcases List.mem_or_eq_of_mem_set hx with hx | rfl
      · have:=hlr x hx;omega
      · omega)
    have d1:=hF2.err
    obtain rfl:=hF2.ge
    have d4:=hF2.gl
    have d5:=hF2.ll
    have d6k:=hF2.at_ (which.tmod b.cr).toNat (by omega)
    rw [getD_set,if_pos ⟨rfl,hkl⟩,Int.mul_add,Int.mul_one] at d6k
    have e6k:=hF.at_ (which.tmod b.cr).toNat (by omega)
    have hfin:(fineGot b s (la.set (which.tmod b.cr).toNat (la.getD (which.tmod b.cr).toNat 0+1))).getD (which.tmod b.cr).toNat 0≤(fineGot b s la).getD (which.tmod b.cr).toNat 0:=by omega
    clear d6k e6k h1 h2 h3 ha1 ha2
    have hsm':=hsm
    refine V_seq (V_region (S_go 1 (S_end (V_seq (V_decF ((↑c:Int)<b.cr) (by omega) (V_exit 0 (V_seq (V_region (S_go 2 (S_a [(5,.ob),(0,.v (PV.sl (List.map I s))),(2,.ret (PV.own 1 (List.map I (feesL b s))) ([])),(1,.yes)] (ap ((by exact ble_of (by simp only [List.length_map,List.length_set,List.length_append,List.length_cons,List.length_nil,limit]<;>omega)):(0+(List.map I s).length).ble (List.map I s).length=true) (ap ((sl_ext (freezes_all (freezes_mapH _))):PV.sl (freezes (List.take (List.map I s).length (List.drop 0 (List.map I s))))=PV.sl (List.map I s)) (ap (h25) (ap ((by exact frees_map _):(PV.own 1 (List.map I (feesL b s))).free=true) an)))) (S_go 1 (S_end (V_seq (V_region (S_go 3 (S_a [(5,.ob),(0,.v (PV.sl (List.map I s))),(1,.ob),(0,.v (PV.sl (List.map I la))),(2,.ret (PV.tup [PV.own 1 (List.map I (fineGot b s la)),I (fineLess b s la),I (fineErr b s la)]) ([])),(1,.yes)] (ap ((by exact ble_of (by simp only [List.length_map,List.length_set,List.length_append,List.length_cons,List.length_nil,limit]<;>omega)):(0+(List.map I s).length).ble (List.map I s).length=true) (ap ((sl_ext (freezes_all (freezes_mapH _))):PV.sl (freezes (List.take (List.map I s).length (List.drop 0 (List.map I s))))=PV.sl (List.map I s)) (ap ((by exact ble_of (by simp only [List.length_map,List.length_set,List.length_append,List.length_cons,List.length_nil,limit]<;>omega)):(0+(List.map I la).length).ble (List.map I la).length=true) (ap ((sl_ext (freezes_all (freezes_mapH _))):PV.sl (freezes (List.take (List.map I la).length (List.drop 0 (List.map I la))))=PV.sl (List.map I la)) (ap (f26 (b) (s) (la) (by omega) (by omega) (by omega)) (ap ((by exact ob_and (frees_map _) rfl):(PV.tup [PV.own 1 (List.map I (fineGot b s la)),I (fineLess b s la),I (fineErr b s la)]).free=true) an)))))) (S_go 7 (S_end (V_seq (V_seq (V_region (S_go 3 (S_ndecF 59 (fineErr b s la=0) (by omega) (S_go 1 (S_a [(0,.n ((fineGot b s la).length))] (ap ((by simp):some (List.map I (fineGot b s la)).length=some (fineGot b s la).length) an) (S_go 5 (S_ndecF 66 ((↑(fineGot b s la).length:Int)=b.cr) (by omega) (S_go 1 (S_a [(0,.n ((feesL b s).length))] (ap ((by simp):some (List.map I (feesL b s)).length=some (feesL b s).length) an) (S_go 4 (S_end (V_ndecF ((↑(feesL b s).length:Int)=b.cr) (by omega) (V_skip (V_seq (V_region (S_go 2 (S_end (V_seq (V_seq (V_region (S_go 1 (S_a [(0,.n ((fineGot b s la).length))] (ap ((by simp):some (List.map I (fineGot b s la)).length=some (fineGot b s la).length) an) (S_go 1 (S_end (V_block 2 ?_)))))))))))))))))))))))))))))))))))))))))))))
    refine V_loopS (fun (i,sm)=>i≤(fineGot b s la).length∧sm=(less.drop i).sum) (fun (i,sm)=>[(17,I sm),(76,I (i:Nat))]) (fun (i,_)=>(fineGot b s la).length-i) ((0:Nat),fineLess b s la) ⟨Nat.zero_le _,by rw [e3];simp⟩ fun (i,sm) ⟨hi,hsu⟩=>?_
    by_cases hil:i<(fineGot b s la).length
    · have e6i:(0≤(feesL b s).getD i 0∧(feesL b s).getD i 0≤1000000)∧(fineGot b s la).getD i 0=(feesL b s).getD i 0-less.getD i 0∧0≤less.getD i 0∧less.getD i 0≤(feesL b s).getD i 0∧less.getD i 0≤b.fn*la.getD i 0∧(less.getD i 0=(feesL b s).getD i 0∨less.getD i 0=b.fn*la.getD i 0):=by have:=hF.at_ i (by omega);omega
      have hz:la.getD i 0=0→b.fn*la.getD i 0=0:=fun h=>by rw [h];simp
      have hla2:0≤la.getD i 0∧la.getD i 0≤20:=getD_all hlr i (by omega)
      have hmb:0≤b.fn*la.getD i 0∧b.fn*la.getD i 0≤20*20:=⟨Int.mul_nonneg hfn.1 hla2.1,Int.mul_le_mul (by omega) hla2.2 hla2.1 (by omega)⟩
      have hsb:=sum_drop_bd (l:=less) (B:=1000000) (fun c hc=>by have:=hF.at_ c (by omega);omega) (by omega) i
      have hsd:(less.drop i).sum=less.getD i 0+(less.drop (i+1)).sum:=sum_drop (by omega)
      rw [← hsu] at hsb hsd
      have hsm2:sm+((fineGot b s la).getD i 0-(feesL b s).getD i 0)=(less.drop (i+1)).sum:=by omega
      have hlal:la.length=b.cr.toNat:=by omega
      clear hF hF2 d1 d4 d5 hk1 hk2 hkl hk3 hfin hsm hcc e1 hlr
      refine V_seq (V_region (S_go 1 (S_end (V_seq (V_decT ((↑i:Int)<(↑(fineGot b s la).length:Int)) (by omega) (V_skip (V_seq (V_block 3 (V_seq (V_region (S_go 1 (S_a [(2,.ob),(1,.n (i))] (ap ((by exact dec_of (by simp only [List.length_map,List.length_set,List.length_append,List.length_cons,List.length_nil]<;>omega)):decide (i<(List.map I (fineGot b s la)).length)=true) (ap ((by simp):some (0+i)=some i) an)) (S_a [(0,.cs false ([PV.int IntKind.i64 ((fineGot b s la).getD i 0)]))] (ap (rc_at (q:=PV.own 1 (List.map I (fineGot b s la))) (xs:=List.map I (fineGot b s la)) (x:=PV.int IntKind.i64 ((fineGot b s la).getD i 0)) rfl (getm (0) (by omega)):readCells 14 (PV.own 1 (List.map I (fineGot b s la))) [] i 0 1=some (false,[PV.int IntKind.i64 ((fineGot b s la).getD i 0)])) an) (S_go 2 (S_end (V_seq (V_region (S_go 4 (S_a [(2,.ob),(1,.n (i))] (ap ((by exact dec_of (by simp only [List.length_map,List.length_set,List.length_append,List.length_cons,List.length_nil]<;>omega)):decide (i<(List.map I (feesL b s)).length)=true) (ap ((by simp):some (0+i)=some i) an)) (S_a [(0,.cs false ([PV.int IntKind.i64 ((feesL b s).getD i 0)]))] (ap (rc_at (q:=PV.own 1 (List.map I (feesL b s))) (xs:=List.map I (feesL b s)) (x:=PV.int IntKind.i64 ((feesL b s).getD i 0)) rfl (getm (0) (by omega)):readCells 13 (PV.own 1 (List.map I (feesL b s))) [] i 0 1=some (false,[PV.int IntKind.i64 ((feesL b s).getD i 0)])) an) (S_a [(1,.v (PV.int IntKind.i64 ((fineGot b s la).getD i 0-(feesL b s).getD i 0)))] (ap ((wrapE rfl (by omega)):PV.int IntKind.i64 (IntKind.i64.wrap ((fineGot b s la).getD i 0-(feesL b s).getD i 0))=PV.int IntKind.i64 ((fineGot b s la).getD i 0-(feesL b s).getD i 0)) an) (S_a [(1,.v (PV.int IntKind.i64 (sm+((fineGot b s la).getD i 0-(feesL b s).getD i 0))))] (ap ((wrapE rfl (by omega)):PV.int IntKind.i64 (IntKind.i64.wrap (sm+((fineGot b s la).getD i 0-(feesL b s).getD i 0)))=PV.int IntKind.i64 (sm+((fineGot b s la).getD i 0-(feesL b s).getD i 0))) an) (S_go 1 (S_end (V_seq (V_region (S_go 3 (S_decF 91 ((fineGot b s la).getD i 0<0) (by omega) (S_go 3 (S_a [(2,.ob),(1,.n (i))] (ap ((by exact dec_of (by simp only [List.length_map,List.length_set,List.length_append,List.length_cons,List.length_nil]<;>omega)):decide (i<(List.map I (feesL b s)).length)=true) (ap ((by simp):some (0+i)=some i) an)) (S_a [(0,.cs false ([PV.int IntKind.i64 ((feesL b s).getD i 0)]))] (ap (rc_at (q:=PV.own 1 (List.map I (feesL b s))) (xs:=List.map I (feesL b s)) (x:=PV.int IntKind.i64 ((feesL b s).getD i 0)) rfl (getm (0) (by omega)):readCells 13 (PV.own 1 (List.map I (feesL b s))) [] i 0 1=some (false,[PV.int IntKind.i64 ((feesL b s).getD i 0)])) an) (S_go 3 (S_decF 99 ((fineGot b s la).getD i 0>(feesL b s).getD i 0) (by omega) (S_go 2 (S_a [(2,.ob),(1,.n (i))] (ap ((by exact dec_of (by simp only [List.length_map,List.length_set,List.length_append,List.length_cons,List.length_nil]<;>omega)):decide (i<(List.map I la).length)=true) (ap ((by simp):some (0+i)=some i) an)) (S_a [(0,.cs false ([PV.int IntKind.i64 (la.getD i 0)]))] (ap (rc_at (q:=PV.own 1 (List.map I la)) (xs:=List.map I la) (x:=PV.int IntKind.i64 (la.getD i 0)) rfl (getm (0) (by omega)):readCells 12 (PV.own 1 (List.map I la)) [] i 0 1=some (false,[PV.int IntKind.i64 (la.getD i 0)])) an) (S_go 2 (S_dec 105 (la.getD i 0=0) (fun k0=>(S_go 3 (S_a [(2,.ob),(1,.n (i))] (ap ((by exact dec_of (by simp only [List.length_map,List.length_set,List.length_append,List.length_cons,List.length_nil]<;>omega)):decide (i<(List.map I (feesL b s)).length)=true) (ap ((by simp):some (0+i)=some i) an)) (S_a [(0,.cs false ([PV.int IntKind.i64 ((feesL b s).getD i 0)]))] (ap (rc_at (q:=PV.own 1 (List.map I (feesL b s))) (xs:=List.map I (feesL b s)) (x:=PV.int IntKind.i64 ((feesL b s).getD i 0)) rfl (getm (0) (by omega)):readCells 13 (PV.own 1 (List.map I (feesL b s))) [] i 0 1=some (false,[PV.int IntKind.i64 ((feesL b s).getD i 0)])) an) (S_go 4 (S_ndecF 114 ((fineGot b s la).getD i 0=(feesL b s).getD i 0) (by omega) (S_go 3 (S_dec 117 ((fineGot b s la).getD i 0>0) (fun k1=>(S_go 2 (S_a [(2,.ob),(1,.n (i))] (ap ((by exact dec_of (by simp only [List.length_map,List.length_set,List.length_append,List.length_cons,List.length_nil]<;>omega)):decide (i<(List.map I (feesL b s)).length)=true) (ap ((by simp):some (0+i)=some i) an)) (S_a [(0,.cs false ([PV.int IntKind.i64 ((feesL b s).getD i 0)]))] (ap (rc_at (q:=PV.own 1 (List.map I (feesL b s))) (xs:=List.map I (feesL b s)) (x:=PV.int IntKind.i64 ((feesL b s).getD i 0)) rfl (getm (0) (by omega)):readCells 13 (PV.own 1 (List.map I (feesL b s))) [] i 0 1=some (false,[PV.int IntKind.i64 ((feesL b s).getD i 0)])) an) (S_go 1 (S_a [(1,.v (PV.int IntKind.i64 ((feesL b s).getD i 0-(fineGot b s la).getD i 0)))] (ap ((wrapE rfl (by omega)):PV.int IntKind.i64 (IntKind.i64.wrap ((feesL b s).getD i 0-(fineGot b s la).getD i 0))=PV.int IntKind.i64 ((feesL b s).getD i 0-(fineGot b s la).getD i 0)) an) (S_go 4 (S_a [(2,.ob),(1,.n (i))] (ap ((by exact dec_of (by simp only [List.length_map,List.length_set,List.length_append,List.length_cons,List.length_nil]<;>omega)):decide (i<(List.map I la).length)=true) (ap ((by simp):some (0+i)=some i) an)) (S_a [(0,.cs false ([PV.int IntKind.i64 (la.getD i 0)]))] (ap (rc_at (q:=PV.own 1 (List.map I la)) (xs:=List.map I la) (x:=PV.int IntKind.i64 (la.getD i 0)) rfl (getm (0) (by omega)):readCells 12 (PV.own 1 (List.map I la)) [] i 0 1=some (false,[PV.int IntKind.i64 (la.getD i 0)])) an) (S_a [(1,.v (PV.int IntKind.i64 (b.fn*la.getD i 0)))] (ap ((wrapE rfl (by omega)):PV.int IntKind.i64 (IntKind.i64.wrap (b.fn*la.getD i 0))=PV.int IntKind.i64 (b.fn*la.getD i 0)) an) (S_go 4 (S_ndecF 134 ((feesL b s).getD i 0-(fineGot b s la).getD i 0=b.fn*la.getD i 0) (by omega) (S_go 3 (S_decF 137 ((fineGot b s la).getD i 0=0) (by omega) (S_go 14 (S_end (V_false (V_skip (V_region (S_a [(1,.v (PV.int IntKind.i64 (↑(i+1):Int)))] (ap ((wrapE (by omega) (by omega)):PV.int IntKind.i64 (IntKind.i64.wrap ((↑i:Int)+1))=PV.int IntKind.i64 (↑(i+1):Int)) an) (S_go 1 (S_end ?_)))))))))))))))))))))) (fun k1=>(S_go 20 (S_decT 137 ((fineGot b s la).getD i 0=0) (by omega) (S_go 2 (S_a [(2,.ob),(1,.n (i))] (ap ((by exact dec_of (by simp only [List.length_map,List.length_set,List.length_append,List.length_cons,List.length_nil]<;>omega)):decide (i<(List.map I (feesL b s)).length)=true) (ap ((by simp):some (0+i)=some i) an)) (S_a [(0,.cs false ([PV.int IntKind.i64 ((feesL b s).getD i 0)]))] (ap (rc_at (q:=PV.own 1 (List.map I (feesL b s))) (xs:=List.map I (feesL b s)) (x:=PV.int IntKind.i64 ((feesL b s).getD i 0)) rfl (getm (0) (by omega)):readCells 13 (PV.own 1 (List.map I (feesL b s))) [] i 0 1=some (false,[PV.int IntKind.i64 ((feesL b s).getD i 0)])) an) (S_go 4 (S_a [(2,.ob),(1,.n (i))] (ap ((by exact dec_of (by simp only [List.length_map,List.length_set,List.length_append,List.length_cons,List.length_nil]<;>omega)):decide (i<(List.map I la).length)=true) (ap ((by simp):some (0+i)=some i) an)) (S_a [(0,.cs false ([PV.int IntKind.i64 (la.getD i 0)]))] (ap (rc_at (q:=PV.own 1 (List.map I la)) (xs:=List.map I la) (x:=PV.int IntKind.i64 (la.getD i 0)) rfl (getm (0) (by omega)):readCells 12 (PV.own 1 (List.map I la)) [] i 0 1=some (false,[PV.int IntKind.i64 (la.getD i 0)])) an) (S_a [(1,.v (PV.int IntKind.i64 (b.fn*la.getD i 0)))] (ap ((wrapE rfl (by omega)):PV.int IntKind.i64 (IntKind.i64.wrap (b.fn*la.getD i 0))=PV.int IntKind.i64 (b.fn*la.getD i 0)) an) (S_go 3 (S_end (V_decF ((feesL b s).getD i 0>b.fn*la.getD i 0) (by omega) (V_skip (V_region (S_a [(1,.v (PV.int IntKind.i64 (↑(i+1):Int)))] (ap ((wrapE (by omega) (by omega)):PV.int IntKind.i64 (IntKind.i64.wrap ((↑i:Int)+1))=PV.int IntKind.i64 (↑(i+1):Int)) an) (S_go 1 (S_end ?_)))))))))))))))))))))))))) (fun k0=>(S_go 12 (S_dec 117 ((fineGot b s la).getD i 0>0) (fun k2=>(S_go 2 (S_a [(2,.ob),(1,.n (i))] (ap ((by exact dec_of (by simp only [List.length_map,List.length_set,List.length_append,List.length_cons,List.length_nil]<;>omega)):decide (i<(List.map I (feesL b s)).length)=true) (ap ((by simp):some (0+i)=some i) an)) (S_a [(0,.cs false ([PV.int IntKind.i64 ((feesL b s).getD i 0)]))] (ap (rc_at (q:=PV.own 1 (List.map I (feesL b s))) (xs:=List.map I (feesL b s)) (x:=PV.int IntKind.i64 ((feesL b s).getD i 0)) rfl (getm (0) (by omega)):readCells 13 (PV.own 1 (List.map I (feesL b s))) [] i 0 1=some (false,[PV.int IntKind.i64 ((feesL b s).getD i 0)])) an) (S_go 1 (S_a [(1,.v (PV.int IntKind.i64 ((feesL b s).getD i 0-(fineGot b s la).getD i 0)))] (ap ((wrapE rfl (by omega)):PV.int IntKind.i64 (IntKind.i64.wrap ((feesL b s).getD i 0-(fineGot b s la).getD i 0))=PV.int IntKind.i64 ((feesL b s).getD i 0-(fineGot b s la).getD i 0)) an) (S_go 4 (S_a [(2,.ob),(1,.n (i))] (ap ((by exact dec_of (by simp only [List.length_map,List.length_set,List.length_append,List.length_cons,List.length_nil]<;>omega)):decide (i<(List.map I la).length)=true) (ap ((by simp):some (0+i)=some i) an)) (S_a [(0,.cs false ([PV.int IntKind.i64 (la.getD i 0)]))] (ap (rc_at (q:=PV.own 1 (List.map I la)) (xs:=List.map I la) (x:=PV.int IntKind.i64 (la.getD i 0)) rfl (getm (0) (by omega)):readCells 12 (PV.own 1 (List.map I la)) [] i 0 1=some (false,[PV.int IntKind.i64 (la.getD i 0)])) an) (S_a [(1,.v (PV.int IntKind.i64 (b.fn*la.getD i 0)))] (ap ((wrapE rfl (by omega)):PV.int IntKind.i64 (IntKind.i64.wrap (b.fn*la.getD i 0))=PV.int IntKind.i64 (b.fn*la.getD i 0)) an) (S_go 4 (S_ndecF 134 ((feesL b s).getD i 0-(fineGot b s la).getD i 0=b.fn*la.getD i 0) (by omega) (S_go 3 (S_decF 137 ((fineGot b s la).getD i 0=0) (by omega) (S_go 14 (S_end (V_false (V_skip (V_region (S_a [(1,.v (PV.int IntKind.i64 (↑(i+1):Int)))] (ap ((wrapE (by omega) (by omega)):PV.int IntKind.i64 (IntKind.i64.wrap ((↑i:Int)+1))=PV.int IntKind.i64 (↑(i+1):Int)) an) (S_go 1 (S_end ?_)))))))))))))))))))))) (fun k2=>(S_go 20 (S_decT 137 ((fineGot b s la).getD i 0=0) (by omega) (S_go 2 (S_a [(2,.ob),(1,.n (i))] (ap ((by exact dec_of (by simp only [List.length_map,List.length_set,List.length_append,List.length_cons,List.length_nil]<;>omega)):decide (i<(List.map I (feesL b s)).length)=true) (ap ((by simp):some (0+i)=some i) an)) (S_a [(0,.cs false ([PV.int IntKind.i64 ((feesL b s).getD i 0)]))] (ap (rc_at (q:=PV.own 1 (List.map I (feesL b s))) (xs:=List.map I (feesL b s)) (x:=PV.int IntKind.i64 ((feesL b s).getD i 0)) rfl (getm (0) (by omega)):readCells 13 (PV.own 1 (List.map I (feesL b s))) [] i 0 1=some (false,[PV.int IntKind.i64 ((feesL b s).getD i 0)])) an) (S_go 4 (S_a [(2,.ob),(1,.n (i))] (ap ((by exact dec_of (by simp only [List.length_map,List.length_set,List.length_append,List.length_cons,List.length_nil]<;>omega)):decide (i<(List.map I la).length)=true) (ap ((by simp):some (0+i)=some i) an)) (S_a [(0,.cs false ([PV.int IntKind.i64 (la.getD i 0)]))] (ap (rc_at (q:=PV.own 1 (List.map I la)) (xs:=List.map I la) (x:=PV.int IntKind.i64 (la.getD i 0)) rfl (getm (0) (by omega)):readCells 12 (PV.own 1 (List.map I la)) [] i 0 1=some (false,[PV.int IntKind.i64 (la.getD i 0)])) an) (S_a [(1,.v (PV.int IntKind.i64 (b.fn*la.getD i 0)))] (ap ((wrapE rfl (by omega)):PV.int IntKind.i64 (IntKind.i64.wrap (b.fn*la.getD i 0))=PV.int IntKind.i64 (b.fn*la.getD i 0)) an) (S_go 3 (S_end (V_decF ((feesL b s).getD i 0>b.fn*la.getD i 0) (by omega) (V_skip (V_region (S_a [(1,.v (PV.int IntKind.i64 (↑(i+1):Int)))] (ap ((wrapE (by omega) (by omega)):PV.int IntKind.i64 (IntKind.i64.wrap ((↑i:Int)+1))=PV.int IntKind.i64 (↑(i+1):Int)) an) (S_go 1 (S_end ?_)))))))))))))))))))))))))))))))))))))))))))))))))))))))))))
      all_goals exact ⟨(i+1,sm+((fineGot b s la).getD i 0-(feesL b s).getD i 0)),⟨by omega,hsm2⟩,by simp only;omega,by kernel_rfl,by kernel_rfl⟩
    · have hfr:=frees_map (g:=I) (fineGot b s (la.set (which.tmod b.cr).toNat (la.getD (which.tmod b.cr).toNat 0+1)))
      have hsz:sm=0:=by rw [hsu,List.drop_eq_nil_of_le (by omega)];rfl
      clear hF hF2
      refine V_seq (V_region (S_go 1 (S_end (V_seq (V_decF ((↑i:Int)<(↑(fineGot b s la).length:Int)) (by omega) (V_exit 2 (V_seq (V_region (S_go 1 (S_a [(3,.ob),(0,.v (PV.sl (List.map I la))),(2,.ret (PV.own 1 (List.map I la)) ([])),(1,.yes)] (ap ((by exact ble_of (by simp only [List.length_map,List.length_set,List.length_append,List.length_cons,List.length_nil,limit]<;>omega)):(0+(List.map I la).length).ble (List.map I la).length=true) (ap ((sl_ext (freezes_all (freezes_mapH _))):PV.sl (freezes (List.take (List.map I la).length (List.drop 0 (List.map I la))))=PV.sl (List.map I la)) (ap (f17 (la) (by omega)) (ap ((by exact frees_map _):(PV.own 1 (List.map I la)).free=true) an)))) (S_go 1 (S_end (V_seq (V_region (S_go 1 (S_a [(0,.v (PV.int IntKind.i64 which))] (ap ((wrapE rfl (by omega)):PV.int IntKind.i64 (IntKind.i64.wrap which)=PV.int IntKind.i64 which) an) (S_go 2 (S_a [(0,.v (PV.int IntKind.i64 (which.tmod b.cr)))] (ap (bv_rem (by omega) rfl:binV Try.prog BinOp.rem 3 (PV.int IntKind.i64 which) (PV.int IntKind.i64 b.cr)=some (PV.int IntKind.i64 (which.tmod b.cr))) an) (S_go 1 (S_end (V_seq (V_region (S_go 2 (S_a [(0,.ob),(1,.ob),(1,.n ((which.tmod b.cr).toNat))] (ap ((by exact dec_of (by omega)):decide (0≤which.tmod b.cr)=true) (ap ((by exact dec_of (by simp only [List.length_map,List.length_set,List.length_append,List.length_cons,List.length_nil]<;>omega)):decide ((which.tmod b.cr).toNat<(List.map I la).length)=true) (ap ((by simp):some (0+(which.tmod b.cr).toNat)=some (which.tmod b.cr).toNat) an))) (S_a [(0,.cs false ([PV.int IntKind.i64 (la.getD (which.tmod b.cr).toNat 0)]))] (ap (rc_at (q:=PV.own 1 (List.map I la)) (xs:=List.map I la) (x:=PV.int IntKind.i64 (la.getD (which.tmod b.cr).toNat 0)) rfl (getm (0) (by omega)):readCells 20 (PV.own 1 (List.map I la)) [] (which.tmod b.cr).toNat 0 1=some (false,[PV.int IntKind.i64 (la.getD (which.tmod b.cr).toNat 0)])) an) (S_a [(1,.v (PV.int IntKind.i64 (la.getD (which.tmod b.cr).toNat 0+1)))] (ap ((wrapE rfl (by omega)):PV.int IntKind.i64 (IntKind.i64.wrap (la.getD (which.tmod b.cr).toNat 0+1))=PV.int IntKind.i64 (la.getD (which.tmod b.cr).toNat 0+1)) an) (S_a [(0,.ob),(1,.ob),(1,.n ((which.tmod b.cr).toNat))] (ap ((by exact dec_of (by omega)):decide (0≤which.tmod b.cr)=true) (ap ((by exact dec_of (by simp only [List.length_map,List.length_set,List.length_append,List.length_cons,List.length_nil]<;>omega)):decide ((which.tmod b.cr).toNat<(List.map I la).length)=true) (ap ((by simp):some (0+(which.tmod b.cr).toNat)=some (which.tmod b.cr).toNat) an))) (S_a [(8,.root (PV.own 1 (List.map I (la.set (which.tmod b.cr).toNat (la.getD (which.tmod b.cr).toNat 0+1)))) true)] (ap (wa_at (getm (0) (by omega)) map_set':writeAt (PV.own 1 (List.map I la)) [] (which.tmod b.cr).toNat 0 (PV.int IntKind.i64 (la.getD (which.tmod b.cr).toNat 0+1)).cells=some (PV.own 1 (List.map I (la.set (which.tmod b.cr).toNat (la.getD (which.tmod b.cr).toNat 0+1))))∧keptView (PV.own 1 (List.map I la)) (PV.own 1 (List.map I (la.set (which.tmod b.cr).toNat (la.getD (which.tmod b.cr).toNat 0+1)))) []=true) an) (S_end (V_seq (V_region (S_go 3 (S_a [(5,.ob),(0,.v (PV.sl (List.map I s))),(1,.ob),(0,.v (PV.sl (List.map I (la.set (which.tmod b.cr).toNat (la.getD (which.tmod b.cr).toNat 0+1))))),(2,.ret (PV.tup [PV.own 1 (List.map I (fineGot b s (la.set (which.tmod b.cr).toNat (la.getD (which.tmod b.cr).toNat 0+1)))),I (fineLess b s (la.set (which.tmod b.cr).toNat (la.getD (which.tmod b.cr).toNat 0+1))),I (fineErr b s (la.set (which.tmod b.cr).toNat (la.getD (which.tmod b.cr).toNat 0+1)))]) ([])),(1,.yes)] (ap ((by exact ble_of (by simp only [List.length_map,List.length_set,List.length_append,List.length_cons,List.length_nil,limit]<;>omega)):(0+(List.map I s).length).ble (List.map I s).length=true) (ap ((sl_ext (freezes_all (freezes_mapH _))):PV.sl (freezes (List.take (List.map I s).length (List.drop 0 (List.map I s))))=PV.sl (List.map I s)) (ap ((by exact ble_of (by simp only [List.length_map,List.length_set,List.length_append,List.length_cons,List.length_nil,limit]<;>omega)):(0+(List.map I (la.set (which.tmod b.cr).toNat (la.getD (which.tmod b.cr).toNat 0+1))).length).ble (List.map I (la.set (which.tmod b.cr).toNat (la.getD (which.tmod b.cr).toNat 0+1))).length=true) (ap ((sl_ext (freezes_all (freezes_mapH _))):PV.sl (freezes (List.take (List.map I (la.set (which.tmod b.cr).toNat (la.getD (which.tmod b.cr).toNat 0+1))).length (List.drop 0 (List.map I (la.set (which.tmod b.cr).toNat (la.getD (which.tmod b.cr).toNat 0+1))))))=PV.sl (List.map I (la.set (which.tmod b.cr).toNat (la.getD (which.tmod b.cr).toNat 0+1)))) (ap (f26 (b) (s) (la.set (which.tmod b.cr).toNat (la.getD (which.tmod b.cr).toNat 0+1)) (by omega) (by omega) (by first | omega | (simp<;>omega))) (ap ((by exact ob_and (frees_map _) rfl):(PV.tup [PV.own 1 (List.map I (fineGot b s (la.set (which.tmod b.cr).toNat (la.getD (which.tmod b.cr).toNat 0+1)))),I (fineLess b s (la.set (which.tmod b.cr).toNat (la.getD (which.tmod b.cr).toNat 0+1))),I (fineErr b s (la.set (which.tmod b.cr).toNat (la.getD (which.tmod b.cr).toNat 0+1)))]).free=true) an)))))) (S_go 7 (S_end (V_seq (V_region (S_go 3 (S_decT 176 (fineErr b s (la.set (which.tmod b.cr).toNat (la.getD (which.tmod b.cr).toNat 0+1))=0) (by omega) (S_go 1 (S_a [(0,.n ((fineGot b s (la.set (which.tmod b.cr).toNat (la.getD (which.tmod b.cr).toNat 0+1))).length))] (ap ((by simp):some (List.map I (fineGot b s (la.set (which.tmod b.cr).toNat (la.getD (which.tmod b.cr).toNat 0+1)))).length=some (fineGot b s (la.set (which.tmod b.cr).toNat (la.getD (which.tmod b.cr).toNat 0+1))).length) an) (S_go 5 (S_decT 183 ((↑(fineGot b s (la.set (which.tmod b.cr).toNat (la.getD (which.tmod b.cr).toNat 0+1))).length:Int)=b.cr) (by omega) (S_go 2 (S_a [(0,.ob),(1,.ob),(1,.n ((which.tmod b.cr).toNat))] (ap ((by exact dec_of (by omega)):decide (0≤which.tmod b.cr)=true) (ap ((by exact dec_of (by simp only [List.length_map,List.length_set,List.length_append,List.length_cons,List.length_nil]<;>omega)):decide ((which.tmod b.cr).toNat<(List.map I (fineGot b s (la.set (which.tmod b.cr).toNat (la.getD (which.tmod b.cr).toNat 0+1)))).length)=true) (ap ((by simp):some (0+(which.tmod b.cr).toNat)=some (which.tmod b.cr).toNat) an))) (S_a [(0,.cs false ([PV.int IntKind.i64 ((fineGot b s (la.set (which.tmod b.cr).toNat (la.getD (which.tmod b.cr).toNat 0+1))).getD (which.tmod b.cr).toNat 0)]))] (ap (rc_at (q:=PV.own 1 (List.map I (fineGot b s (la.set (which.tmod b.cr).toNat (la.getD (which.tmod b.cr).toNat 0+1))))) (xs:=List.map I (fineGot b s (la.set (which.tmod b.cr).toNat (la.getD (which.tmod b.cr).toNat 0+1)))) (x:=PV.int IntKind.i64 ((fineGot b s (la.set (which.tmod b.cr).toNat (la.getD (which.tmod b.cr).toNat 0+1))).getD (which.tmod b.cr).toNat 0)) rfl (getm (0) (by omega)):readCells 22 (PV.own 1 (List.map I (fineGot b s (la.set (which.tmod b.cr).toNat (la.getD (which.tmod b.cr).toNat 0+1))))) [] (which.tmod b.cr).toNat 0 1=some (false,[PV.int IntKind.i64 ((fineGot b s (la.set (which.tmod b.cr).toNat (la.getD (which.tmod b.cr).toNat 0+1))).getD (which.tmod b.cr).toNat 0)])) an) (S_go 2 (S_a [(0,.ob),(1,.ob),(1,.n ((which.tmod b.cr).toNat))] (ap ((by exact dec_of (by omega)):decide (0≤which.tmod b.cr)=true) (ap ((by exact dec_of (by simp only [List.length_map,List.length_set,List.length_append,List.length_cons,List.length_nil]<;>omega)):decide ((which.tmod b.cr).toNat<(List.map I (fineGot b s la)).length)=true) (ap ((by simp):some (0+(which.tmod b.cr).toNat)=some (which.tmod b.cr).toNat) an))) (S_a [(0,.cs false ([PV.int IntKind.i64 ((fineGot b s la).getD (which.tmod b.cr).toNat 0)]))] (ap (rc_at (q:=PV.own 1 (List.map I (fineGot b s la))) (xs:=List.map I (fineGot b s la)) (x:=PV.int IntKind.i64 ((fineGot b s la).getD (which.tmod b.cr).toNat 0)) rfl (getm (0) (by omega)):readCells 14 (PV.own 1 (List.map I (fineGot b s la))) [] (which.tmod b.cr).toNat 0 1=some (false,[PV.int IntKind.i64 ((fineGot b s la).getD (which.tmod b.cr).toNat 0)])) an) (S_go 3 (S_decT 194 ((fineGot b s (la.set (which.tmod b.cr).toNat (la.getD (which.tmod b.cr).toNat 0+1))).getD (which.tmod b.cr).toNat 0≤(fineGot b s la).getD (which.tmod b.cr).toNat 0) (by omega) (S_go 4 (S_decT 198 (sm=0) (by omega) (S_a [(4,.ret (PV.bool true) ([]))] (ap (f16) an) (S_go 2 (S_end (V_ret (E_a [] an (PV.bool true) ([]) rfl rfl))))))))))))))))))))))))))))))))))))))))))))))))))))))))))
  · have g1:=ringA_ok ha
    have g2:=ringA_ok g1
    have u1:=strokeN_bd mins a t 20
    have u2:=strokeN_bd mins (ringA mins a) (ringT mins a t) 1
    have u3:=Int.mul_nonneg u1.1 u2.1
    clear h1 h2 h3 hw ha1 ha2 hbl
    have u4:strokeN mins a t 20*strokeN mins (ringA mins a) (ringT mins a t) 1≤20*1:=Int.mul_le_mul (by omega) (by omega) (by omega) (by omega)
    refine V_seq (V_region (S_go 1 (S_end (V_seq (V_decT ((↑c:Int)<b.cr) (by omega) (V_skip (V_seq (V_block 1 (V_region (S_go 2 (S_a [(6,.ret (I (strokeN mins a t 20)) ([bellV mins (ringA mins a) (ringT mins a t)]))] (ap (f24 (mins) (a) (t) (20) (by omega) (by omega)) an) (S_go 1 (S_a [(6,.ret (I (strokeN mins (ringA mins a) (ringT mins a t) 1)) ([bellV mins (ringA mins (ringA mins a)) (ringT mins (ringA mins a) (ringT mins a t))]))] (ap (f24 (mins) (ringA mins a) (ringT mins a t) (1) (by omega) (by omega)) an) (S_a [(1,.v (PV.int IntKind.i64 (strokeN mins a t 20*strokeN mins (ringA mins a) (ringT mins a t) 1)))] (ap ((wrapE rfl (by omega)):PV.int IntKind.i64 (IntKind.i64.wrap (strokeN mins a t 20*strokeN mins (ringA mins a) (ringT mins a t) 1))=PV.int IntKind.i64 (strokeN mins a t 20*strokeN mins (ringA mins a) (ringT mins a t) 1)) an) (S_go 1 (S_a [(4,.ob),(0,.ob),(0,.ob),(2,.v (PV.own 1 (List.map I (la++[strokeN mins a t 20*strokeN mins (ringA mins a) (ringT mins a t) 1]))))] (ap ((by exact ble_of (by simp only [List.length_map,List.length_set,List.length_append,List.length_cons,List.length_nil,limit]<;>omega)):(0+(List.map I la).length).ble (List.map I la).length=true) (ap ((by exact ble_of (by simp only [List.length_map,List.length_set,List.length_append,List.length_cons,List.length_nil,limit]<;>omega)):((List.map I la).length + [PV.int IntKind.i64 (strokeN mins a t 20*strokeN mins (ringA mins a) (ringT mins a t) 1)].length).ble limit=true) (ap ((by exact beq_of (by simp<;>omega)):(0+(List.map I la).length).beq (List.map I la).length=true) (ap ((by simp):PV.own 1 (List.map I la++[PV.int IntKind.i64 (strokeN mins a t 20*strokeN mins (ringA mins a) (ringT mins a t) 1)])=PV.own 1 (List.map I (la++[strokeN mins a t 20*strokeN mins (ringA mins a) (ringT mins a t) 1]))) an)))) (S_go 1 (S_end (V_region (S_a [(1,.v (PV.int IntKind.i64 (↑(c+1):Int)))] (ap ((wrapE (by omega) (by omega)):PV.int IntKind.i64 (IntKind.i64.wrap ((↑c:Int)+1))=PV.int IntKind.i64 (↑(c+1):Int)) an) (S_go 1 (S_end ?_))))))))))))))))))))))
    exact ⟨(c+1,la++[strokeN mins a t 20*strokeN mins (ringA mins a) (ringT mins a t) 1],ringA mins (ringA mins a),ringT mins (ringA mins a) (ringT mins a t)),⟨by omega,by simp [hla],fun x hx=>by
      rcases List.mem_append.1 hx with hx | hx
      · exact hlr x hx
      · rw [List.mem_singleton] at hx;subst hx;omega,g2⟩,by simp only;omega,by kernel_rfl,by kernel_rfl⟩
end Go.Eng
set_option maxRecDepth 10000
set_option maxHeartbeats 4000000
namespace Go.Eng
open Go Go.Proofs
theorem fees_at {b:Dk} {s:List Int} (hs:ShareOk b s) {c:Nat} (hc:c<b.cr.toNat):(feesL b s).getD c 0=earnN b s c s.length:=by
  rw [earn_list hs];simp [List.getD_eq_getElem?_getD,hc]
theorem dup_nodup {l:List Int} (h:l.Nodup):dupL l=false:=by
  refine dup_f fun i hi=>?_
  simp only [has,List.any_eq_false,decide_eq_true_eq]
  intro x hx e
  obtain ⟨j,hj,rfl⟩:=List.mem_take_iff_getElem.1 hx
  rw [getD_lt hi] at e
  have:=List.pairwise_iff_getElem.1 h j i (by omega) hi (by omega)
  exact this e.symm
theorem bnd_err0 {b:Dk} (hg:Good b) {l:List Int} (hn:l.Nodup) (hr:∀ x∈l,0≤x∧x<(b.rs.length:Int)):bndErr b l=0∧bndV b l=bndS b l:=by
  have h1:(!l.all (fun x=>decide (0≤x)&&decide (x≤(b.rs.length:Int)-1)))=false:=by
    simp only [Bool.not_eq_false',List.all_eq_true,Bool.and_eq_true,decide_eq_true_eq]
    intro x hx;have:=hr x hx;omega
  have e:bndErr b l=0:=by simp only [bndErr,good_box hg,h1,dup_nodup hn,if_true];rfl
  exact ⟨e,by simp only [bndV,e,if_true]⟩
theorem swap_perm {p:List Int} {i k:Nat} (hi:i<p.length) (hk:k<p.length):((p.set i (p.getD k 0)).set k (p.getD i 0)).Perm p:=by
  rw [getD_lt hi,getD_lt hk];exact List.set_set_perm hi hk
section
variable [Yo]
theorem f123 (x y:Int):FG 123 [I x,I y] (.bool (decide (x<y))):=by
  refine gives_ofX Try.f123 ?_
  refine V_seq (V_region (S_go 1 (S_end (V_seq (V_region (S_go 1 (S_a [(6,.ret (PV.bool false) ([]))] (ap (f141 (x)) an) (S_go 11 (S_end (V_ret (E_a [] an (PV.bool (decide (x<y))) ([]) rfl rfl)))))))))))
theorem f73 (l:List Int) (hl:l.length≤1000) (hp:l.Pairwise (· < ·)):FG 73 [ints l] (.bool true):=by
  refine gives_ofX Try.f73 ?_
  by_cases h0:l.length=0
  · obtain rfl:=List.eq_nil_of_length_eq_zero h0
    refine V_seq (V_region (S_go 1 (S_end (V_seq (V_seq (V_region (S_go 1 (S_go 1 (S_go 1 (S_go 1 (S_end (V_block 0 ?_))))))))))))
    refine V_loopS (fun i=>i=0) (fun i=>[(3,I (-1))]) (fun i=>0) (0:Nat) rfl fun i hi=>?_
    refine V_seq (V_seq (V_region (S_go 2 (S_end (V_false (V_exit 0 (V_seq (V_region (S_go 1 (S_end (V_ret (E_a [] an (PV.bool true) ([]) rfl rfl))))))))))))
  · refine V_seq (V_region (S_go 1 (S_end (V_seq (V_seq (V_region (S_go 1 (S_a [(0,.n (l.length))] (ap ((by simp):some (List.map I l).length=some l.length) an) (S_a [(1,.v (PV.int IntKind.i64 (↑(l.length-1):Int)))] (ap ((wrapE (by omega) (by omega)):PV.int IntKind.i64 (IntKind.i64.wrap ((↑l.length:Int)-1))=PV.int IntKind.i64 (↑(l.length-1):Int)) an) (S_go 1 (S_end (V_block 0 ?_))))))))))))
    refine V_loopS (fun i=>i<l.length) (fun i=>[(3,I (i:Nat))]) (fun i=>i) (l.length-1:Nat) (by omega) fun i hi=>?_
    by_cases hi0:0<i
    · have hlt:=List.pairwise_iff_getElem.1 hp (i-1) i (by omega) hi (by omega)
      rw [← getD_lt (d:=0),← getD_lt (d:=0)] at hlt
      refine V_seq (V_seq (V_region (S_go 2 (S_end (V_decT ((↑i:Int)>0) (by omega) (V_skip (V_seq (V_block 1 (V_seq (V_region (S_go 2 (S_a [(2,.v (PV.int IntKind.i64 (l.getD i 0)))] (ap (getm (0) (by omega):(List.map I l)[i]? = some (PV.int IntKind.i64 (l.getD i 0))) an) (S_go 3 (S_a [(1,.v (PV.int IntKind.i64 (↑(i-1):Int)))] (ap ((wrapE (by omega) (by omega)):PV.int IntKind.i64 (IntKind.i64.wrap ((↑i:Int)-1))=PV.int IntKind.i64 (↑(i-1):Int)) an) (S_a [(2,.v (PV.int IntKind.i64 (l.getD (i-1) 0)))] (ap (getm (0) (by omega):(List.map I l)[i-1]? = some (PV.int IntKind.i64 (l.getD (i-1) 0))) an) (S_go 1 (S_a [(8,.ret (PV.bool (decide (l.getD i 0<l.getD (i-1) 0))) ([]))] (ap (f123 (l.getD i 0) (l.getD (i-1) 0)) an) (S_end (V_decF (l.getD i 0<l.getD (i-1) 0) (by omega) (V_skip (V_region (S_go 1 (S_a [(1,.v (PV.int IntKind.i64 (↑(i-1):Int)))] (ap ((wrapE (by omega) (by omega)):PV.int IntKind.i64 (IntKind.i64.wrap ((↑i:Int)-1))=PV.int IntKind.i64 (↑(i-1):Int)) an) (S_go 1 (S_end ?_)))))))))))))))))))))))))
      exact ⟨i-1,by omega,by omega,by kernel_rfl,by kernel_rfl⟩
    · refine V_seq (V_seq (V_region (S_go 2 (S_end (V_decF ((↑i:Int)>0) (by omega) (V_exit 0 (V_seq (V_region (S_go 1 (S_end (V_ret (E_a [] an (PV.bool true) ([]) rfl rfl))))))))))))
theorem f74_ex (l:List Int) (a:Nat) (t:Int) (n:Nat) (h:BellOk l a) (hn:n≤7):∃ v h',Gives Try.prog feeH 74 [bellW,I n] [bellV l a t] v h'∧∃ p:List Int,∃ a' t',v = .own 1 (p.map I)∧h'=[bellV l a' t']∧p.Perm ((List.range n).map Int.ofNat)∧BellOk l a':=by
  refine gives_exX Try.f74 _ ?_
  refine V_seq (V_region (S_go 1 (S_end (V_seq (V_region (S_go 1 (S_end (V_seq (V_seq (V_region (S_go 3 (S_end (V_block 0 ?_)))))))))))))
  refine V_loopS (fun (k,p,a,t)=>k≤n∧p.Perm ((List.range k).map Int.ofNat)∧BellOk l a) (fun (k,p,a,t)=>[(5,.own 1 (p.map I)),(10,I (k:Nat)),(50000000,bellV l a t)]) (fun (k,_,_,_)=>n-k) ((0:Nat),([]:List Int),a,t) ⟨Nat.zero_le _,List.Perm.nil,h⟩ fun (k,p,a,t) ⟨hk,hp,ha⟩=>?_
  have hpl:p.length=k:=by have:=hp.length_eq;simpa using this
  have hs:=strokeN_bd l a t (k:Int)
  have hga:=ringA_ok ha
  by_cases hkn:k<n
  · have happ:(p++[(k:Int)]).length=k+1:=by simp [hpl]
    refine V_seq (V_region (S_go 1 (S_end (V_seq (V_decT ((↑k:Int)<if (↑n:Int)>0 then (↑n:Int) else 0) (by omega) (V_skip (V_seq (V_block 1 (V_seq (V_region (S_go 2 (S_end (V_seq (V_region (S_go 2 (S_a [(6,.ret (I (strokeN l a t (↑k:Int))) ([bellV l (ringA l a) (ringT l a t)]))] (ap (f24 (l) (a) (t) ((↑k:Int)) (by omega) (by omega)) an) (S_go 1 (S_end (V_seq (V_region (S_go 3 (S_a [(4,.ob),(0,.ob),(0,.ob),(2,.v (PV.own 1 (List.map I (p++[(↑k:Int)]))))] (ap ((by exact ble_of (by simp only [List.length_map,List.length_set,List.length_append,List.length_cons,List.length_nil,limit]<;>omega)):(0+(List.map I p).length).ble (List.map I p).length=true) (ap ((by exact ble_of (by simp only [List.length_map,List.length_set,List.length_append,List.length_cons,List.length_nil,limit]<;>omega)):((List.map I p).length + [PV.int IntKind.i64 (↑k:Int)].length).ble limit=true) (ap ((by exact beq_of (by simp<;>omega)):(0+(List.map I p).length).beq (List.map I p).length=true) (ap ((by simp):PV.own 1 (List.map I p++[PV.int IntKind.i64 (↑k:Int)])=PV.own 1 (List.map I (p++[(↑k:Int)]))) an)))) (S_go 1 (S_end (V_region (S_go 6 (S_a [(2,.ob),(1,.n (k))] (ap ((by exact dec_of (by simp only [List.length_map,List.length_set,List.length_append,List.length_cons,List.length_nil]<;>omega)):decide (k<(List.map I (p++[(↑k:Int)])).length)=true) (ap ((by simp):some (0+k)=some k) an)) (S_a [(0,.cs false ([PV.int IntKind.i64 ((p++[(↑k:Int)]).getD k 0)]))] (ap (rc_at (q:=PV.own 1 (List.map I (p++[(↑k:Int)]))) (xs:=List.map I (p++[(↑k:Int)])) (x:=PV.int IntKind.i64 ((p++[(↑k:Int)]).getD k 0)) rfl (getm (0) (by omega)):readCells 5 (PV.own 1 (List.map I (p++[(↑k:Int)]))) [] k 0 1=some (false,[PV.int IntKind.i64 ((p++[(↑k:Int)]).getD k 0)])) an) (S_go 2 (S_a [(0,.ob),(1,.ob),(1,.n ((strokeN l a t (↑k:Int)).toNat))] (ap ((by exact dec_of (by omega)):decide (0≤strokeN l a t (↑k:Int))=true) (ap ((by exact dec_of (by simp only [List.length_map,List.length_set,List.length_append,List.length_cons,List.length_nil]<;>omega)):decide ((strokeN l a t (↑k:Int)).toNat<(List.map I (p++[(↑k:Int)])).length)=true) (ap ((by simp):some (0+(strokeN l a t (↑k:Int)).toNat)=some (strokeN l a t (↑k:Int)).toNat) an))) (S_a [(0,.cs false ([PV.int IntKind.i64 ((p++[(↑k:Int)]).getD (strokeN l a t (↑k:Int)).toNat 0)]))] (ap (rc_at (q:=PV.own 1 (List.map I (p++[(↑k:Int)]))) (xs:=List.map I (p++[(↑k:Int)])) (x:=PV.int IntKind.i64 ((p++[(↑k:Int)]).getD (strokeN l a t (↑k:Int)).toNat 0)) rfl (getm (0) (by omega)):readCells 5 (PV.own 1 (List.map I (p++[(↑k:Int)]))) [] (strokeN l a t (↑k:Int)).toNat 0 1=some (false,[PV.int IntKind.i64 ((p++[(↑k:Int)]).getD (strokeN l a t (↑k:Int)).toNat 0)])) an) (S_a [(0,.ob),(1,.ob),(1,.n ((strokeN l a t (↑k:Int)).toNat))] (ap ((by exact dec_of (by omega)):decide (0≤strokeN l a t (↑k:Int))=true) (ap ((by exact dec_of (by simp only [List.length_map,List.length_set,List.length_append,List.length_cons,List.length_nil]<;>omega)):decide ((strokeN l a t (↑k:Int)).toNat<(List.map I (p++[(↑k:Int)])).length)=true) (ap ((by simp):some (0+(strokeN l a t (↑k:Int)).toNat)=some (strokeN l a t (↑k:Int)).toNat) an))) (S_a [(8,.root (PV.own 1 (List.map I ((p++[(↑k:Int)]).set (strokeN l a t (↑k:Int)).toNat ((p++[(↑k:Int)]).getD k 0)))) true)] (ap (wa_at (getm (0) (by omega)) map_set':writeAt (PV.own 1 (List.map I (p++[(↑k:Int)]))) [] (strokeN l a t (↑k:Int)).toNat 0 (PV.int IntKind.i64 ((p++[(↑k:Int)]).getD k 0)).cells=some (PV.own 1 (List.map I ((p++[(↑k:Int)]).set (strokeN l a t (↑k:Int)).toNat ((p++[(↑k:Int)]).getD k 0))))∧keptView (PV.own 1 (List.map I (p++[(↑k:Int)]))) (PV.own 1 (List.map I ((p++[(↑k:Int)]).set (strokeN l a t (↑k:Int)).toNat ((p++[(↑k:Int)]).getD k 0)))) []=true) an) (S_a [(2,.ob),(1,.n (k))] (ap ((by exact dec_of (by simp only [List.length_map,List.length_set,List.length_append,List.length_cons,List.length_nil]<;>omega)):decide (k<(List.map I (p++[(↑k:Int)])).length)=true) (ap ((by simp):some (0+k)=some k) an)) (S_a [(8,.root (PV.own 1 (List.map I (((p++[(↑k:Int)]).set (strokeN l a t (↑k:Int)).toNat ((p++[(↑k:Int)]).getD k 0)).set k ((p++[(↑k:Int)]).getD (strokeN l a t (↑k:Int)).toNat 0)))) true)] (ap (wa_at (getm (0) (by first | omega | (simp<;>omega))) map_set':writeAt (PV.own 1 (List.map I ((p++[(↑k:Int)]).set (strokeN l a t (↑k:Int)).toNat ((p++[(↑k:Int)]).getD k 0)))) [] k 0 (PV.int IntKind.i64 ((p++[(↑k:Int)]).getD (strokeN l a t (↑k:Int)).toNat 0)).cells=some (PV.own 1 (List.map I (((p++[(↑k:Int)]).set (strokeN l a t (↑k:Int)).toNat ((p++[(↑k:Int)]).getD k 0)).set k ((p++[(↑k:Int)]).getD (strokeN l a t (↑k:Int)).toNat 0))))∧keptView (PV.own 1 (List.map I ((p++[(↑k:Int)]).set (strokeN l a t (↑k:Int)).toNat ((p++[(↑k:Int)]).getD k 0)))) (PV.own 1 (List.map I (((p++[(↑k:Int)]).set (strokeN l a t (↑k:Int)).toNat ((p++[(↑k:Int)]).getD k 0)).set k ((p++[(↑k:Int)]).getD (strokeN l a t (↑k:Int)).toNat 0)))) []=true) an) (S_end (V_region (S_a [(1,.v (PV.int IntKind.i64 (↑(k+1):Int)))] (ap ((wrapE (by omega) (by omega)):PV.int IntKind.i64 (IntKind.i64.wrap ((↑k:Int)+1))=PV.int IntKind.i64 (↑(k+1):Int)) an) (S_go 1 (S_end ?_))))))))))))))))))))))))))))))))))))))))
    refine ⟨(k+1,((p++[(k:Int)]).set (strokeN l a t k).toNat ((p++[(k:Int)]).getD k 0)).set k ((p++[(k:Int)]).getD (strokeN l a t k).toNat 0),ringA l a,ringT l a t),⟨by omega,(swap_perm (by omega) (by omega)).trans ?_,hga⟩,by simp only;omega,by kernel_rfl,by kernel_rfl⟩
    rw [List.range_succ,List.map_append]
    exact hp.append_right _
  · obtain rfl:k=n:=by omega
    refine V_seq (V_region (S_go 1 (S_end (V_seq (V_decF ((↑k:Int)<if (↑k:Int)>0 then (↑k:Int) else 0) (by omega) (V_exit 0 (V_seq (V_region (S_go 1 (S_a [(2,.yes)] (ap ((by exact beq_of (by simp<;>omega)):(Nat.beq 0 0&&(List.map I p).length.beq (List.map I p).length)=true) an) (S_end (V_ret (E_q [(1,.yes),(1,.v (PV.own 1 (List.map I p)))] (ap ((by exact ble_of (by simp only [List.length_map,List.length_set,List.length_append,List.length_cons,List.length_nil,limit]<;>omega)):(0+(List.map I p).length).ble (List.map I p).length=true) (ap ((own_ext take_allL):PV.own 1 (List.take (List.map I p).length (List.drop 0 (List.map I p)))=PV.own 1 (List.map I p)) an)) (PV.own 1 (List.map I p)) ([(PV.agg [PV.sl (List.map u8 l),PV.int IntKind.i64 (↑a:Int),PV.int IntKind.u32 t]).box]) ?_)))))))))))))
    exact ⟨p,a,t,rfl,rfl,hp,ha⟩
end
theorem f14 (nums tries:List Int) (h1:nums.length<9223372036854775808) (h2:tries.length<9223372036854775808):FG 14 [.sl (nums.map u8),.sl (tries.map u8)] (.bool true):=by
  obtain ⟨v,h',hm,b,a1,t1,rfl,rfl,hg,hbl,ha1⟩:=f21_ex nums 0 0 7 ⟨Nat.zero_le _,h1⟩ (by omega)
  have hcr:=hg.cr
  have hrl:=hg.len
  have hsm:Small b:=⟨by omega,fun r hr=>by have:=hg.may r hr;have:=incr_len this.2.2 this.2.1 hcr;omega⟩
  obtain ⟨g1,g2,g3,g4⟩:=got_props hg
  obtain ⟨e1,e2⟩:=bnd_err0 hg (incr_nodup g2) fun x hx=>by have:=g3 x hx;omega
  have h71:=f71 b hsm
  have h69:=f69 b (gotG b).1 hsm (by omega)
  rw [e1,e2,← g1] at h69
  rw [good_box hg] at h71
  have htb:=fun l=>tried_bnd (l:=l) hg
  generalize hmo:(gotG b).2=most at *
  generalize hbe:(gotG b).1=best at *
  refine gives_ofX Try.f14 ?_
  refine V_seq (V_region (S_go 1 (S_end (V_seq (V_region (S_go 1 (S_a [(6,.ret (bellV nums 0 0) ([]))] (ap (f22 (nums)) an) (S_a [(6,.ret (boxO b) ([bellV nums a1 t1]))] (ap (hm) an) (S_go 1 (S_a [(3,.v (PV.agg [PV.int IntKind.i64 b.cr,PV.int IntKind.i64 b.wd,PV.int IntKind.i64 b.st,PV.int IntKind.i64 b.fn,PV.sl (List.map (fun x=>PV.agg [PV.int IntKind.i64 x.w,PV.int IntKind.i64 x.s,PV.sl (List.map I x.may)]) b.rs)]))] (ap ((by simp only [show freezes (List.map rndO b.rs)=List.map (fun x=>PV.agg [PV.int IntKind.i64 x.w,PV.int IntKind.i64 x.s,PV.sl (List.map I x.may)]) b.rs from (by first | exact freezes_mapI _ | exact freezes_mapH _ | exact freezes_all (freezes_mapH _) | exact freezes_to (by simp [take_mapL]) (freezes_mapI _))]):PV.agg [PV.int IntKind.i64 b.cr,PV.int IntKind.i64 b.wd,PV.int IntKind.i64 b.st,PV.int IntKind.i64 b.fn,PV.sl (freezes (List.map rndO b.rs))]=PV.agg [PV.int IntKind.i64 b.cr,PV.int IntKind.i64 b.wd,PV.int IntKind.i64 b.st,PV.int IntKind.i64 b.fn,PV.sl (List.map (fun x=>PV.agg [PV.int IntKind.i64 x.w,PV.int IntKind.i64 x.s,PV.sl (List.map I x.may)]) b.rs)]) an) (S_end (V_seq (V_region (S_go 1 (S_a [(6,.ret (bellV tries 0 0) ([]))] (ap (f22 (tries)) an) (S_go 1 (S_end (V_seq (V_region (S_go 1 (S_a [(6,.ret (PV.tup [lstO best,I most,I 0]) ([]))] (ap (h71) an) (S_go 7 (S_end (V_seq (V_region (S_go 2 (S_a [(5,.ob),(0,.v (PV.sl (List.map I best))),(2,.ret (PV.tup [I most,I 0]) ([]))] (ap ((by exact ble_of (by simp only [List.length_map,List.length_set,List.length_append,List.length_cons,List.length_nil,limit]<;>omega)):(0+(List.map I best).length).ble (List.map I best).length=true) (ap ((sl_ext (freezes_all (freezes_mapH _))):PV.sl (freezes (List.take (List.map I best).length (List.drop 0 (List.map I best))))=PV.sl (List.map I best)) (ap (h69) an))) (S_go 5 (S_end (V_seq (V_seq (V_region (S_go 12 (S_ndecF 50 (most=most) (by omega) (S_go 1 (S_a [(3,.ob),(0,.v (PV.sl (List.map I best))),(2,.ret (PV.bool true) ([]))] (ap ((by exact ble_of (by simp only [List.length_map,List.length_set,List.length_append,List.length_cons,List.length_nil,limit]<;>omega)):(0+(List.map I best).length).ble (List.map I best).length=true) (ap ((sl_ext (freezes_all (freezes_mapH _))):PV.sl (freezes (List.take (List.map I best).length (List.drop 0 (List.map I best))))=PV.sl (List.map I best)) (ap (f73 (best) (by omega) (by omega)) an))) (S_go 2 (S_end (V_false (V_skip (V_seq (V_seq (V_region (S_go 1 (S_end (V_block 0 ?_))))))))))))))))))))))))))))))))))))))))))))))
  refine V_loopS (fun (i,a,t)=>i≤8∧BellOk tries a) (fun (i,a,t)=>[(6,bellV tries a t),(55,I (i:Nat))]) (fun (i,_,_)=>8-i) ((0:Nat),(0:Nat),(0:Int)) ⟨by omega,Nat.zero_le _,h2⟩ fun (i,a,t) ⟨hi,ha⟩=>?_
  by_cases hi8:i<8
  · obtain ⟨v,h',hru,p,a2,t2,rfl,rfl,hp,ha2⟩:=f74_ex tries a t b.rs.length ha hrl
    have hpl:p.length=b.rs.length:=by have:=hp.length_eq;simpa using this
    have hst:=strokeN_bd tries a2 t2 (p.length:Int)
    have hsub:=List.take_sublist (strokeN tries a2 t2 (p.length:Int)).toNat p
    have hpn:p.Nodup:=hp.nodup_iff.2 (by
      have:=List.nodup_range (n:=b.rs.length)
      exact List.pairwise_map.2 (this.imp fun {a b} h e=>h (Int.ofNat.inj e)))
    have hpr:∀ x∈p,0≤x∧x<(b.rs.length:Int):=fun x hx=>by
      have:=hp.mem_iff.1 hx
      obtain ⟨r,hr,rfl⟩:=List.mem_map.1 this
      have:=List.mem_range.1 hr
      simp only [Int.ofNat_eq_natCast];omega
    have hqn:(p.take (strokeN tries a2 t2 (p.length:Int)).toNat).Nodup:=List.Nodup.sublist hsub hpn
    have hqr:∀ x∈p.take (strokeN tries a2 t2 (p.length:Int)).toNat,0≤x∧x<(b.rs.length:Int):=fun x hx=>hpr x (List.mem_of_mem_take hx)
    have hql:(p.take (strokeN tries a2 t2 (p.length:Int)).toNat).length≤7:=by rw [List.length_take];omega
    obtain ⟨e3,e4⟩:=bnd_err0 hg hqn hqr
    have htq:=htb _ hqn hqr
    have htq1:=htq.1
    have htq2:=htq.2
    rw [← e4] at htq1 htq2
    obtain ⟨v,h',hsh,s,a3,t3,rfl,rfl,hs,ha3⟩:=f23_ex tries _ (ringT tries a2 t2) b (ringA_ok ha2) hg
    have h25:=f25_1 b s hs
    have hsome:=fun h0=>someone hs hqn hqr h0
    have h69q:=f69 b (p.take (strokeN tries a2 t2 (p.length:Int)).toNat) hsm (by omega)
    rw [e3,e4] at h69q
    clear htq htb hsub
    have hql2:(p.take (strokeN tries a2 t2 (p.length:Int)).toNat).length=(strokeN tries a2 t2 (p.length:Int)).toNat:=by rw [List.length_take];omega
    refine V_seq (V_region (S_go 1 (S_end (V_seq (V_decT ((↑i:Int)<8) (by omega) (V_skip (V_seq (V_block 1 (V_seq (V_region (S_go 3 (S_a [(0,.n (b.rs.length))] (ap ((by simp):some (List.map (fun x=>PV.agg [PV.int IntKind.i64 x.w,PV.int IntKind.i64 x.s,PV.sl (List.map I x.may)]) b.rs).length=some b.rs.length) an) (S_a [(6,.ret (PV.own 1 (List.map I p)) ([bellV tries a2 t2]))] (ap (hru) an) (S_go 1 (S_end (V_seq (V_region (S_go 3 (S_a [(0,.n (p.length))] (ap ((by simp):some (List.map I p).length=some p.length) an) (S_a [(6,.ret (I (strokeN tries a2 t2 (↑p.length:Int))) ([bellV tries (ringA tries a2) (ringT tries a2 t2)]))] (ap (f24 (tries) (a2) (t2) ((↑p.length:Int)) (by omega) (by omega)) an) (S_a [(0,.ob),(3,.yes)] (ap ((by exact dec_of (by omega)):decide (0≤strokeN tries a2 t2 (↑p.length:Int))=true) (ap ((by exact ble_of (by simp only [List.length_map,List.length_set,List.length_append,List.length_cons,List.length_nil,limit]<;>omega)):(strokeN tries a2 t2 (↑p.length:Int)).toNat.ble (List.map I p).length=true) an)) (S_a [(1,.ob),(0,.v (PV.own 1 (List.map I (List.take (strokeN tries a2 t2 (↑p.length:Int)).toNat p))))] (ap ((by exact ble_of (by simp only [List.length_map,List.length_set,List.length_append,List.length_cons,List.length_nil,limit]<;>omega)):(0+((strokeN tries a2 t2 (↑p.length:Int)).toNat-0)).ble (List.map I p).length=true) (ap ((by simp):PV.own 1 (List.take ((strokeN tries a2 t2 (↑p.length:Int)).toNat-0) (List.drop 0 (List.map I p)))=PV.own 1 (List.map I (List.take (strokeN tries a2 t2 (↑p.length:Int)).toNat p))) an)) (S_end (V_seq (V_region (S_go 2 (S_a [(5,.ob),(0,.v (PV.sl (List.map I (List.take (strokeN tries a2 t2 (↑p.length:Int)).toNat p)))),(2,.ret (PV.tup [I (bndS b (List.take (strokeN tries a2 t2 (↑p.length:Int)).toNat p)),I 0]) ([]))] (ap ((by exact ble_of (by simp only [List.length_map,List.length_set,List.length_append,List.length_cons,List.length_nil,limit]<;>omega)):(0+(List.map I (List.take (strokeN tries a2 t2 (↑p.length:Int)).toNat p)).length).ble (List.map I (List.take (strokeN tries a2 t2 (↑p.length:Int)).toNat p)).length=true) (ap ((sl_ext (freezes_all (freezes_mapH _))):PV.sl (freezes (List.take (List.map I (List.take (strokeN tries a2 t2 (↑p.length:Int)).toNat p)).length (List.drop 0 (List.map I (List.take (strokeN tries a2 t2 (↑p.length:Int)).toNat p)))))=PV.sl (List.map I (List.take (strokeN tries a2 t2 (↑p.length:Int)).toNat p))) (ap (h69q) an))) (S_go 5 (S_end (V_seq (V_seq (V_region (S_go 8 (S_decF 81 (bndS b (List.take (strokeN tries a2 t2 (↑p.length:Int)).toNat p)>most) (by omega) (S_go 4 (S_dec 85 (bndS b (List.take (strokeN tries a2 t2 (↑p.length:Int)).toNat p)=most) (fun k0=>(S_go 1 (S_a [(0,.n ((List.take (strokeN tries a2 t2 (↑p.length:Int)).toNat p).length))] (ap ((by simp):some (List.map I (List.take (strokeN tries a2 t2 (↑p.length:Int)).toNat p)).length=some (List.take (strokeN tries a2 t2 (↑p.length:Int)).toNat p).length) an) (S_go 1 (S_a [(0,.n (best.length))] (ap ((by simp):some (List.map I best).length=some best.length) an) (S_go 3 (S_end (V_decF ((↑(List.take (strokeN tries a2 t2 (↑p.length:Int)).toNat p).length:Int)<(↑best.length:Int)) (by omega) (V_skip (V_seq (V_region (S_go 2 (S_a [(6,.ret (PV.own 1 (List.map I s)) ([bellV tries a3 t3]))] (ap (hsh) an) (S_go 1 (S_end (V_seq (V_region (S_go 2 (S_a [(5,.ob),(0,.v (PV.sl (List.map I s))),(2,.ret (PV.own 1 (List.map I (feesL b s))) ([])),(1,.yes)] (ap ((by exact ble_of (by simp only [List.length_map,List.length_set,List.length_append,List.length_cons,List.length_nil,limit]<;>omega)):(0+(List.map I s).length).ble (List.map I s).length=true) (ap ((sl_ext (freezes_all (freezes_mapH _))):PV.sl (freezes (List.take (List.map I s).length (List.drop 0 (List.map I s))))=PV.sl (List.map I s)) (ap (h25) (ap ((by exact frees_map _):(PV.own 1 (List.map I (feesL b s))).free=true) an)))) (S_go 1 (S_end (V_seq (V_region (S_go 1 (S_a [(0,.n ((List.take (strokeN tries a2 t2 (↑p.length:Int)).toNat p).length))] (ap ((by simp):some (List.map I (List.take (strokeN tries a2 t2 (↑p.length:Int)).toNat p)).length=some (List.take (strokeN tries a2 t2 (↑p.length:Int)).toNat p).length) an) (S_go 2 (S_dec 102 ((↑(List.take (strokeN tries a2 t2 (↑p.length:Int)).toNat p).length:Int)=0) (fun k1=>(S_go 4 (S_end (V_seq (V_seq (V_region (S_go 1 (S_a [(0,.n ((List.take (strokeN tries a2 t2 (↑p.length:Int)).toNat p).length))] (ap ((by simp):some (List.map I (List.take (strokeN tries a2 t2 (↑p.length:Int)).toNat p)).length=some (List.take (strokeN tries a2 t2 (↑p.length:Int)).toNat p).length) an) (S_go 1 (S_end (V_block 2 ?_))))))))))) (fun k1=>(S_go 4 (S_end (V_seq (V_seq (V_region (S_go 1 (S_a [(0,.n ((List.take (strokeN tries a2 t2 (↑p.length:Int)).toNat p).length))] (ap ((by simp):some (List.map I (List.take (strokeN tries a2 t2 (↑p.length:Int)).toNat p)).length=some (List.take (strokeN tries a2 t2 (↑p.length:Int)).toNat p).length) an) (S_go 1 (S_end (V_block 2 ?_)))))))))))))))))))))))))))))))))))))) (fun k0=>(S_go 7 (S_end (V_false (V_skip (V_seq (V_region (S_go 2 (S_a [(6,.ret (PV.own 1 (List.map I s)) ([bellV tries a3 t3]))] (ap (hsh) an) (S_go 1 (S_end (V_seq (V_region (S_go 2 (S_a [(5,.ob),(0,.v (PV.sl (List.map I s))),(2,.ret (PV.own 1 (List.map I (feesL b s))) ([])),(1,.yes)] (ap ((by exact ble_of (by simp only [List.length_map,List.length_set,List.length_append,List.length_cons,List.length_nil,limit]<;>omega)):(0+(List.map I s).length).ble (List.map I s).length=true) (ap ((sl_ext (freezes_all (freezes_mapH _))):PV.sl (freezes (List.take (List.map I s).length (List.drop 0 (List.map I s))))=PV.sl (List.map I s)) (ap (h25) (ap ((by exact frees_map _):(PV.own 1 (List.map I (feesL b s))).free=true) an)))) (S_go 1 (S_end (V_seq (V_region (S_go 1 (S_a [(0,.n ((List.take (strokeN tries a2 t2 (↑p.length:Int)).toNat p).length))] (ap ((by simp):some (List.map I (List.take (strokeN tries a2 t2 (↑p.length:Int)).toNat p)).length=some (List.take (strokeN tries a2 t2 (↑p.length:Int)).toNat p).length) an) (S_go 2 (S_dec 102 ((↑(List.take (strokeN tries a2 t2 (↑p.length:Int)).toNat p).length:Int)=0) (fun k2=>(S_go 4 (S_end (V_seq (V_seq (V_region (S_go 1 (S_a [(0,.n ((List.take (strokeN tries a2 t2 (↑p.length:Int)).toNat p).length))] (ap ((by simp):some (List.map I (List.take (strokeN tries a2 t2 (↑p.length:Int)).toNat p)).length=some (List.take (strokeN tries a2 t2 (↑p.length:Int)).toNat p).length) an) (S_go 1 (S_end (V_block 2 ?_))))))))))) (fun k2=>(S_go 4 (S_end (V_seq (V_seq (V_region (S_go 1 (S_a [(0,.n ((List.take (strokeN tries a2 t2 (↑p.length:Int)).toNat p).length))] (ap ((by simp):some (List.map I (List.take (strokeN tries a2 t2 (↑p.length:Int)).toNat p)).length=some (List.take (strokeN tries a2 t2 (↑p.length:Int)).toNat p).length) an) (S_go 1 (S_end (V_block 2 ?_))))))))))))))))))))))))))))))))))))))))))))))))))))))))))))))))))))))
    · have hb0:bndS b (p.take (strokeN tries a2 t2 (p.length:Int)).toNat)=0:=by rw [List.eq_nil_of_length_eq_zero (l:=(p.take (strokeN tries a2 t2 (p.length:Int)).toNat)) (by omega)];exact bnd_nil b
      refine V_loopS (fun i=>i=0) (fun i=>[(108,I (i:Nat))]) (fun i=>0) (0:Nat) rfl fun i hi=>?_
      subst hi
      refine V_seq (V_region (S_go 1 (S_end (V_seq (V_decF ((↑0:Int)<(↑(List.take (strokeN tries a2 t2 (↑p.length:Int)).toNat p).length:Int)) (by omega) (V_exit 2 (V_seq (V_region (S_go 2 (S_end (V_ndecF (bndS b (List.take (strokeN tries a2 t2 (↑p.length:Int)).toNat p)=0) (by omega) (V_skip (V_region (S_a [(1,.v (PV.int IntKind.i64 (↑(i+1):Int)))] (ap ((wrapE (by omega) (by omega)):PV.int IntKind.i64 (IntKind.i64.wrap ((↑i:Int)+1))=PV.int IntKind.i64 (↑(i+1):Int)) an) (S_go 1 (S_end ?_))))))))))))))))
      exact ⟨(i+1,a3,t3),⟨by omega,ha3⟩,by simp only;omega,by kernel_rfl,by kernel_rfl⟩
    · refine V_loopS (fun (r,h)=>r≤(p.take (strokeN tries a2 t2 (p.length:Int)).toNat).length∧(h=false→∀ j,j<r→∀ c∈(rnd b ((p.take (strokeN tries a2 t2 (p.length:Int)).toNat).getD j 0).toNat).may,(feesL b s).getD c.toNat 0<bndS b (p.take (strokeN tries a2 t2 (p.length:Int)).toNat))) (fun (r,h)=>[(17,.bool h),(108,I (r:Nat))]) (fun (r,_)=>(p.take (strokeN tries a2 t2 (p.length:Int)).toNat).length-r) ((0:Nat),false) ⟨Nat.zero_le _,fun _ j hj=>absurd hj (Nat.not_lt_zero _)⟩ fun (r,h) ⟨hr,hh⟩=>?_
      by_cases hrl:r<(p.take (strokeN tries a2 t2 (p.length:Int)).toNat).length
      · have hx:=getD_all hqr r hrl
        have hmay:=good_may hg (i:=((p.take (strokeN tries a2 t2 (p.length:Int)).toNat).getD r 0).toNat) (by omega)
        have hml:=incr_len hmay.2.2 hmay.2.1 hcr
        clear hqr hsome
        refine V_seq (V_region (S_go 1 (S_end (V_seq (V_decT ((↑r:Int)<(↑(List.take (strokeN tries a2 t2 (↑p.length:Int)).toNat p).length:Int)) (by omega) (V_skip (V_seq (V_block 3 (V_seq (V_region (S_a [(2,.ob),(1,.n (r))] (ap ((by exact dec_of (by simp only [List.length_map,List.length_set,List.length_append,List.length_cons,List.length_nil]<;>omega)):decide (r<(List.map I (List.take (strokeN tries a2 t2 (↑p.length:Int)).toNat p)).length)=true) (ap ((by simp):some (0+r)=some r) an)) (S_a [(0,.cs false ([PV.int IntKind.i64 ((List.take (strokeN tries a2 t2 (↑p.length:Int)).toNat p).getD r 0)]))] (ap (rc_at (q:=PV.own 1 (List.map I (List.take (strokeN tries a2 t2 (↑p.length:Int)).toNat p))) (xs:=List.map I (List.take (strokeN tries a2 t2 (↑p.length:Int)).toNat p)) (x:=PV.int IntKind.i64 ((List.take (strokeN tries a2 t2 (↑p.length:Int)).toNat p).getD r 0)) rfl (getm (0) (by omega)):readCells 12 (PV.own 1 (List.map I (List.take (strokeN tries a2 t2 (↑p.length:Int)).toNat p))) [] r 0 1=some (false,[PV.int IntKind.i64 ((List.take (strokeN tries a2 t2 (↑p.length:Int)).toNat p).getD r 0)])) an) (S_go 1 (S_end (V_seq (V_region (S_go 3 (S_a [(0,.ob),(1,.v (PV.agg [PV.int IntKind.i64 (b.rs.getD ((List.take (strokeN tries a2 t2 (↑p.length:Int)).toNat p).getD r 0).toNat default).w,PV.int IntKind.i64 (b.rs.getD ((List.take (strokeN tries a2 t2 (↑p.length:Int)).toNat p).getD r 0).toNat default).s,PV.sl (List.map I (b.rs.getD ((List.take (strokeN tries a2 t2 (↑p.length:Int)).toNat p).getD r 0).toNat default).may)]))] (ap ((by exact dec_of (by omega)):decide (0≤(List.take (strokeN tries a2 t2 (↑p.length:Int)).toNat p).getD r 0)=true) (ap (getm (default) (by omega):(List.map (fun x=>PV.agg [PV.int IntKind.i64 x.w,PV.int IntKind.i64 x.s,PV.sl (List.map I x.may)]) b.rs)[((List.take (strokeN tries a2 t2 (↑p.length:Int)).toNat p).getD r 0).toNat]? = some (PV.agg [PV.int IntKind.i64 (b.rs.getD ((List.take (strokeN tries a2 t2 (↑p.length:Int)).toNat p).getD r 0).toNat default).w,PV.int IntKind.i64 (b.rs.getD ((List.take (strokeN tries a2 t2 (↑p.length:Int)).toNat p).getD r 0).toNat default).s,PV.sl (List.map I (b.rs.getD ((List.take (strokeN tries a2 t2 (↑p.length:Int)).toNat p).getD r 0).toNat default).may)])) an)) (S_go 2 (S_a [(0,.n ((b.rs.getD ((List.take (strokeN tries a2 t2 (↑p.length:Int)).toNat p).getD r 0).toNat default).may.length))] (ap ((by simp):some (List.map I (b.rs.getD ((List.take (strokeN tries a2 t2 (↑p.length:Int)).toNat p).getD r 0).toNat default).may).length=some (b.rs.getD ((List.take (strokeN tries a2 t2 (↑p.length:Int)).toNat p).getD r 0).toNat default).may.length) an) (S_go 1 (S_end (V_block 4 ?_)))))))))))))))))))))))
        refine V_loopS (fun (d,h)=>d≤(b.rs.getD ((p.take (strokeN tries a2 t2 (p.length:Int)).toNat).getD r 0).toNat default).may.length∧(h=false→(∀ j,j<r→∀ c∈(rnd b ((p.take (strokeN tries a2 t2 (p.length:Int)).toNat).getD j 0).toNat).may,(feesL b s).getD c.toNat 0<bndS b (p.take (strokeN tries a2 t2 (p.length:Int)).toNat))∧∀ k,k<d→(feesL b s).getD ((b.rs.getD ((p.take (strokeN tries a2 t2 (p.length:Int)).toNat).getD r 0).toNat default).may.getD k 0).toNat 0<bndS b (p.take (strokeN tries a2 t2 (p.length:Int)).toNat))) (fun (d,h)=>[(17,.bool h),(119,I (d:Nat))]) (fun (d,_)=>(b.rs.getD ((p.take (strokeN tries a2 t2 (p.length:Int)).toNat).getD r 0).toNat default).may.length-d) ((0:Nat),h) ⟨Nat.zero_le _,fun e=>⟨hh e,fun k hk=>absurd hk (Nat.not_lt_zero _)⟩⟩ fun (d,h) ⟨hd,hh⟩=>?_
        by_cases hdl:d<(b.rs.getD ((p.take (strokeN tries a2 t2 (p.length:Int)).toNat).getD r 0).toNat default).may.length
        · have hc:=getD_all hmay.2.1 d hdl
          have hfl:=fees_len hs
          cases h with
          | true =>
            clear hh
            refine V_seq (V_region (S_go 1 (S_end (V_seq (V_decT ((↑d:Int)<(↑(b.rs.getD ((List.take (strokeN tries a2 t2 (↑p.length:Int)).toNat p).getD r 0).toNat default).may.length:Int)) (by omega) (V_skip (V_seq (V_block 5 (V_seq (V_region (S_a [(2,.v (PV.int IntKind.i64 ((b.rs.getD ((List.take (strokeN tries a2 t2 (↑p.length:Int)).toNat p).getD r 0).toNat default).may.getD d 0)))] (ap (getm (0) (by omega):(List.map I (b.rs.getD ((List.take (strokeN tries a2 t2 (↑p.length:Int)).toNat p).getD r 0).toNat default).may)[d]? = some (PV.int IntKind.i64 ((b.rs.getD ((List.take (strokeN tries a2 t2 (↑p.length:Int)).toNat p).getD r 0).toNat default).may.getD d 0))) an) (S_go 2 (S_end (V_region (S_go 10 (S_end (V_region (S_a [(1,.v (PV.int IntKind.i64 (↑(d+1):Int)))] (ap ((wrapE (by omega) (by omega)):PV.int IntKind.i64 (IntKind.i64.wrap ((↑d:Int)+1))=PV.int IntKind.i64 (↑(d+1):Int)) an) (S_go 1 (S_end ?_))))))))))))))))))))
            exact ⟨(d+1,true),⟨by omega,fun e=>nomatch e⟩,by simp only;omega,by kernel_rfl,by kernel_rfl⟩
          | false =>
            have hh3:=hh rfl
            have hh1:=hh3.1
            have hh2:=hh3.2
            clear hh hh3
            refine V_seq (V_region (S_go 1 (S_end (V_seq (V_decT ((↑d:Int)<(↑(b.rs.getD ((List.take (strokeN tries a2 t2 (↑p.length:Int)).toNat p).getD r 0).toNat default).may.length:Int)) (by omega) (V_skip (V_seq (V_block 5 (V_seq (V_region (S_a [(2,.v (PV.int IntKind.i64 ((b.rs.getD ((List.take (strokeN tries a2 t2 (↑p.length:Int)).toNat p).getD r 0).toNat default).may.getD d 0)))] (ap (getm (0) (by omega):(List.map I (b.rs.getD ((List.take (strokeN tries a2 t2 (↑p.length:Int)).toNat p).getD r 0).toNat default).may)[d]? = some (PV.int IntKind.i64 ((b.rs.getD ((List.take (strokeN tries a2 t2 (↑p.length:Int)).toNat p).getD r 0).toNat default).may.getD d 0))) an) (S_go 2 (S_end (V_region (S_go 4 (S_a [(0,.ob),(1,.ob),(1,.n (((b.rs.getD ((List.take (strokeN tries a2 t2 (↑p.length:Int)).toNat p).getD r 0).toNat default).may.getD d 0).toNat))] (ap ((by exact dec_of (by omega)):decide (0≤(b.rs.getD ((List.take (strokeN tries a2 t2 (↑p.length:Int)).toNat p).getD r 0).toNat default).may.getD d 0)=true) (ap ((by exact dec_of (by simp only [List.length_map,List.length_set,List.length_append,List.length_cons,List.length_nil]<;>omega)):decide (((b.rs.getD ((List.take (strokeN tries a2 t2 (↑p.length:Int)).toNat p).getD r 0).toNat default).may.getD d 0).toNat<(List.map I (feesL b s)).length)=true) (ap ((by simp):some (0+((b.rs.getD ((List.take (strokeN tries a2 t2 (↑p.length:Int)).toNat p).getD r 0).toNat default).may.getD d 0).toNat)=some ((b.rs.getD ((List.take (strokeN tries a2 t2 (↑p.length:Int)).toNat p).getD r 0).toNat default).may.getD d 0).toNat) an))) (S_a [(0,.cs false ([PV.int IntKind.i64 ((feesL b s).getD ((b.rs.getD ((List.take (strokeN tries a2 t2 (↑p.length:Int)).toNat p).getD r 0).toNat default).may.getD d 0).toNat 0)]))] (ap (rc_at (q:=PV.own 1 (List.map I (feesL b s))) (xs:=List.map I (feesL b s)) (x:=PV.int IntKind.i64 ((feesL b s).getD ((b.rs.getD ((List.take (strokeN tries a2 t2 (↑p.length:Int)).toNat p).getD r 0).toNat default).may.getD d 0).toNat 0)) rfl (getm (0) (by omega)):readCells 16 (PV.own 1 (List.map I (feesL b s))) [] ((b.rs.getD ((List.take (strokeN tries a2 t2 (↑p.length:Int)).toNat p).getD r 0).toNat default).may.getD d 0).toNat 0 1=some (false,[PV.int IntKind.i64 ((feesL b s).getD ((b.rs.getD ((List.take (strokeN tries a2 t2 (↑p.length:Int)).toNat p).getD r 0).toNat default).may.getD d 0).toNat 0)])) an) (S_go 4 (S_end (V_region (S_a [(1,.v (PV.int IntKind.i64 (↑(d+1):Int)))] (ap ((wrapE (by omega) (by omega)):PV.int IntKind.i64 (IntKind.i64.wrap ((↑d:Int)+1))=PV.int IntKind.i64 (↑(d+1):Int)) an) (S_go 1 (S_end ?_)))))))))))))))))))))))
            refine ⟨(d+1,decide ((feesL b s).getD ((b.rs.getD ((p.take (strokeN tries a2 t2 (p.length:Int)).toNat).getD r 0).toNat default).may.getD d 0).toNat 0≥bndS b (p.take (strokeN tries a2 t2 (p.length:Int)).toNat))),⟨by omega,fun e=>⟨hh1,fun k hk=>?_⟩⟩,by simp only;omega,by kernel_rfl,by kernel_rfl⟩
            rcases Nat.lt_succ_iff_lt_or_eq.1 hk with hk | rfl
            · exact hh2 k hk
            · have:=of_decide_eq_false e;omega
        · refine V_seq (V_region (S_go 1 (S_end (V_seq (V_decF ((↑d:Int)<(↑(b.rs.getD ((List.take (strokeN tries a2 t2 (↑p.length:Int)).toNat p).getD r 0).toNat default).may.length:Int)) (by omega) (V_exit 4 (V_region (S_a [(1,.v (PV.int IntKind.i64 (↑(r+1):Int)))] (ap ((wrapE (by omega) (by omega)):PV.int IntKind.i64 (IntKind.i64.wrap ((↑r:Int)+1))=PV.int IntKind.i64 (↑(r+1):Int)) an) (S_go 1 (S_end ?_))))))))))
          refine ⟨(r+1,h),⟨by omega,fun e j hj=>?_⟩,by simp only;omega,by kernel_rfl,by kernel_rfl⟩
          rcases Nat.lt_succ_iff_lt_or_eq.1 hj with hj | rfl
          · exact (hh e).1 j hj
          · intro c hc
            obtain ⟨k,hk,rfl⟩:=List.getElem_of_mem hc
            have:=(hh e).2 k (by have:k<(b.rs.getD ((p.take (strokeN tries a2 t2 (p.length:Int)).toNat).getD j 0).toNat default).may.length:=hk;omega)
            rwa [getD_lt (l:=(b.rs.getD ((p.take (strokeN tries a2 t2 (p.length:Int)).toNat).getD j 0).toNat default).may) (i:=k) hk] at this
      · cases h with
        | true =>
          refine V_seq (V_region (S_go 1 (S_end (V_seq (V_decF ((↑r:Int)<(↑(List.take (strokeN tries a2 t2 (↑p.length:Int)).toNat p).length:Int)) (by omega) (V_exit 2 (V_seq (V_region (S_go 2 (S_end (V_false (V_skip (V_region (S_a [(1,.v (PV.int IntKind.i64 (↑(i+1):Int)))] (ap ((wrapE (by omega) (by omega)):PV.int IntKind.i64 (IntKind.i64.wrap ((↑i:Int)+1))=PV.int IntKind.i64 (↑(i+1):Int)) an) (S_go 1 (S_end ?_))))))))))))))))
          exact ⟨(i+1,a3,t3),⟨by omega,ha3⟩,by simp only;omega,by kernel_rfl,by kernel_rfl⟩
        | false =>
          exfalso
          obtain ⟨c,hc4,hcm,hcb⟩:=hsome (fun e=>by have e5:=congrArg List.length e;rw [List.length_nil] at e5;omega)
          simp only [manB,List.any_eq_true] at hcm
          obtain ⟨x,hx,hxm⟩:=hcm
          obtain ⟨j,hj,rfl⟩:=List.getElem_of_mem hx
          simp only [has,List.any_eq_true,decide_eq_true_eq] at hxm
          obtain ⟨y,hy,hye⟩:=hxm
          have h5:=hh rfl j (by omega) y (by rw [getD_lt hj];exact hy)
          have hy2:=(good_may hg (i:=((p.take (strokeN tries a2 t2 (p.length:Int)).toNat)[j]).toNat) (by have:=hqr _ (List.getElem_mem hj);omega)).2.1 y hy
          rw [← hye,Int.toNat_natCast,fees_at hs (by omega)] at h5
          omega
    · have hb0:bndS b (p.take (strokeN tries a2 t2 (p.length:Int)).toNat)=0:=by rw [List.eq_nil_of_length_eq_zero (l:=(p.take (strokeN tries a2 t2 (p.length:Int)).toNat)) (by omega)];exact bnd_nil b
      refine V_loopS (fun i=>i=0) (fun i=>[(108,I (i:Nat))]) (fun i=>0) (0:Nat) rfl fun i hi=>?_
      subst hi
      refine V_seq (V_region (S_go 1 (S_end (V_seq (V_decF ((↑0:Int)<(↑(List.take (strokeN tries a2 t2 (↑p.length:Int)).toNat p).length:Int)) (by omega) (V_exit 2 (V_seq (V_region (S_go 2 (S_end (V_ndecF (bndS b (List.take (strokeN tries a2 t2 (↑p.length:Int)).toNat p)=0) (by omega) (V_skip (V_region (S_a [(1,.v (PV.int IntKind.i64 (↑(i+1):Int)))] (ap ((wrapE (by omega) (by omega)):PV.int IntKind.i64 (IntKind.i64.wrap ((↑i:Int)+1))=PV.int IntKind.i64 (↑(i+1):Int)) an) (S_go 1 (S_end ?_))))))))))))))))
      exact ⟨(i+1,a3,t3),⟨by omega,ha3⟩,by simp only;omega,by kernel_rfl,by kernel_rfl⟩
    · refine V_loopS (fun (r,h)=>r≤(p.take (strokeN tries a2 t2 (p.length:Int)).toNat).length∧(h=false→∀ j,j<r→∀ c∈(rnd b ((p.take (strokeN tries a2 t2 (p.length:Int)).toNat).getD j 0).toNat).may,(feesL b s).getD c.toNat 0<bndS b (p.take (strokeN tries a2 t2 (p.length:Int)).toNat))) (fun (r,h)=>[(17,.bool h),(108,I (r:Nat))]) (fun (r,_)=>(p.take (strokeN tries a2 t2 (p.length:Int)).toNat).length-r) ((0:Nat),false) ⟨Nat.zero_le _,fun _ j hj=>absurd hj (Nat.not_lt_zero _)⟩ fun (r,h) ⟨hr,hh⟩=>?_
      by_cases hrl:r<(p.take (strokeN tries a2 t2 (p.length:Int)).toNat).length
      · have hx:=getD_all hqr r hrl
        have hmay:=good_may hg (i:=((p.take (strokeN tries a2 t2 (p.length:Int)).toNat).getD r 0).toNat) (by omega)
        have hml:=incr_len hmay.2.2 hmay.2.1 hcr
        clear hqr hsome
        refine V_seq (V_region (S_go 1 (S_end (V_seq (V_decT ((↑r:Int)<(↑(List.take (strokeN tries a2 t2 (↑p.length:Int)).toNat p).length:Int)) (by omega) (V_skip (V_seq (V_block 3 (V_seq (V_region (S_a [(2,.ob),(1,.n (r))] (ap ((by exact dec_of (by simp only [List.length_map,List.length_set,List.length_append,List.length_cons,List.length_nil]<;>omega)):decide (r<(List.map I (List.take (strokeN tries a2 t2 (↑p.length:Int)).toNat p)).length)=true) (ap ((by simp):some (0+r)=some r) an)) (S_a [(0,.cs false ([PV.int IntKind.i64 ((List.take (strokeN tries a2 t2 (↑p.length:Int)).toNat p).getD r 0)]))] (ap (rc_at (q:=PV.own 1 (List.map I (List.take (strokeN tries a2 t2 (↑p.length:Int)).toNat p))) (xs:=List.map I (List.take (strokeN tries a2 t2 (↑p.length:Int)).toNat p)) (x:=PV.int IntKind.i64 ((List.take (strokeN tries a2 t2 (↑p.length:Int)).toNat p).getD r 0)) rfl (getm (0) (by omega)):readCells 12 (PV.own 1 (List.map I (List.take (strokeN tries a2 t2 (↑p.length:Int)).toNat p))) [] r 0 1=some (false,[PV.int IntKind.i64 ((List.take (strokeN tries a2 t2 (↑p.length:Int)).toNat p).getD r 0)])) an) (S_go 1 (S_end (V_seq (V_region (S_go 3 (S_a [(0,.ob),(1,.v (PV.agg [PV.int IntKind.i64 (b.rs.getD ((List.take (strokeN tries a2 t2 (↑p.length:Int)).toNat p).getD r 0).toNat default).w,PV.int IntKind.i64 (b.rs.getD ((List.take (strokeN tries a2 t2 (↑p.length:Int)).toNat p).getD r 0).toNat default).s,PV.sl (List.map I (b.rs.getD ((List.take (strokeN tries a2 t2 (↑p.length:Int)).toNat p).getD r 0).toNat default).may)]))] (ap ((by exact dec_of (by omega)):decide (0≤(List.take (strokeN tries a2 t2 (↑p.length:Int)).toNat p).getD r 0)=true) (ap (getm (default) (by omega):(List.map (fun x=>PV.agg [PV.int IntKind.i64 x.w,PV.int IntKind.i64 x.s,PV.sl (List.map I x.may)]) b.rs)[((List.take (strokeN tries a2 t2 (↑p.length:Int)).toNat p).getD r 0).toNat]? = some (PV.agg [PV.int IntKind.i64 (b.rs.getD ((List.take (strokeN tries a2 t2 (↑p.length:Int)).toNat p).getD r 0).toNat default).w,PV.int IntKind.i64 (b.rs.getD ((List.take (strokeN tries a2 t2 (↑p.length:Int)).toNat p).getD r 0).toNat default).s,PV.sl (List.map I (b.rs.getD ((List.take (strokeN tries a2 t2 (↑p.length:Int)).toNat p).getD r 0).toNat default).may)])) an)) (S_go 2 (S_a [(0,.n ((b.rs.getD ((List.take (strokeN tries a2 t2 (↑p.length:Int)).toNat p).getD r 0).toNat default).may.length))] (ap ((by simp):some (List.map I (b.rs.getD ((List.take (strokeN tries a2 t2 (↑p.length:Int)).toNat p).getD r 0).toNat default).may).length=some (b.rs.getD ((List.take (strokeN tries a2 t2 (↑p.length:Int)).toNat p).getD r 0).toNat default).may.length) an) (S_go 1 (S_end (V_block 4 ?_)))))))))))))))))))))))
        refine V_loopS (fun (d,h)=>d≤(b.rs.getD ((p.take (strokeN tries a2 t2 (p.length:Int)).toNat).getD r 0).toNat default).may.length∧(h=false→(∀ j,j<r→∀ c∈(rnd b ((p.take (strokeN tries a2 t2 (p.length:Int)).toNat).getD j 0).toNat).may,(feesL b s).getD c.toNat 0<bndS b (p.take (strokeN tries a2 t2 (p.length:Int)).toNat))∧∀ k,k<d→(feesL b s).getD ((b.rs.getD ((p.take (strokeN tries a2 t2 (p.length:Int)).toNat).getD r 0).toNat default).may.getD k 0).toNat 0<bndS b (p.take (strokeN tries a2 t2 (p.length:Int)).toNat))) (fun (d,h)=>[(17,.bool h),(119,I (d:Nat))]) (fun (d,_)=>(b.rs.getD ((p.take (strokeN tries a2 t2 (p.length:Int)).toNat).getD r 0).toNat default).may.length-d) ((0:Nat),h) ⟨Nat.zero_le _,fun e=>⟨hh e,fun k hk=>absurd hk (Nat.not_lt_zero _)⟩⟩ fun (d,h) ⟨hd,hh⟩=>?_
        by_cases hdl:d<(b.rs.getD ((p.take (strokeN tries a2 t2 (p.length:Int)).toNat).getD r 0).toNat default).may.length
        · have hc:=getD_all hmay.2.1 d hdl
          have hfl:=fees_len hs
          cases h with
          | true =>
            clear hh
            refine V_seq (V_region (S_go 1 (S_end (V_seq (V_decT ((↑d:Int)<(↑(b.rs.getD ((List.take (strokeN tries a2 t2 (↑p.length:Int)).toNat p).getD r 0).toNat default).may.length:Int)) (by omega) (V_skip (V_seq (V_block 5 (V_seq (V_region (S_a [(2,.v (PV.int IntKind.i64 ((b.rs.getD ((List.take (strokeN tries a2 t2 (↑p.length:Int)).toNat p).getD r 0).toNat default).may.getD d 0)))] (ap (getm (0) (by omega):(List.map I (b.rs.getD ((List.take (strokeN tries a2 t2 (↑p.length:Int)).toNat p).getD r 0).toNat default).may)[d]? = some (PV.int IntKind.i64 ((b.rs.getD ((List.take (strokeN tries a2 t2 (↑p.length:Int)).toNat p).getD r 0).toNat default).may.getD d 0))) an) (S_go 2 (S_end (V_region (S_go 10 (S_end (V_region (S_a [(1,.v (PV.int IntKind.i64 (↑(d+1):Int)))] (ap ((wrapE (by omega) (by omega)):PV.int IntKind.i64 (IntKind.i64.wrap ((↑d:Int)+1))=PV.int IntKind.i64 (↑(d+1):Int)) an) (S_go 1 (S_end ?_))))))))))))))))))))
            exact ⟨(d+1,true),⟨by omega,fun e=>nomatch e⟩,by simp only;omega,by kernel_rfl,by kernel_rfl⟩
          | false =>
            have hh3:=hh rfl
            have hh1:=hh3.1
            have hh2:=hh3.2
            clear hh hh3
            refine V_seq (V_region (S_go 1 (S_end (V_seq (V_decT ((↑d:Int)<(↑(b.rs.getD ((List.take (strokeN tries a2 t2 (↑p.length:Int)).toNat p).getD r 0).toNat default).may.length:Int)) (by omega) (V_skip (V_seq (V_block 5 (V_seq (V_region (S_a [(2,.v (PV.int IntKind.i64 ((b.rs.getD ((List.take (strokeN tries a2 t2 (↑p.length:Int)).toNat p).getD r 0).toNat default).may.getD d 0)))] (ap (getm (0) (by omega):(List.map I (b.rs.getD ((List.take (strokeN tries a2 t2 (↑p.length:Int)).toNat p).getD r 0).toNat default).may)[d]? = some (PV.int IntKind.i64 ((b.rs.getD ((List.take (strokeN tries a2 t2 (↑p.length:Int)).toNat p).getD r 0).toNat default).may.getD d 0))) an) (S_go 2 (S_end (V_region (S_go 4 (S_a [(0,.ob),(1,.ob),(1,.n (((b.rs.getD ((List.take (strokeN tries a2 t2 (↑p.length:Int)).toNat p).getD r 0).toNat default).may.getD d 0).toNat))] (ap ((by exact dec_of (by omega)):decide (0≤(b.rs.getD ((List.take (strokeN tries a2 t2 (↑p.length:Int)).toNat p).getD r 0).toNat default).may.getD d 0)=true) (ap ((by exact dec_of (by simp only [List.length_map,List.length_set,List.length_append,List.length_cons,List.length_nil]<;>omega)):decide (((b.rs.getD ((List.take (strokeN tries a2 t2 (↑p.length:Int)).toNat p).getD r 0).toNat default).may.getD d 0).toNat<(List.map I (feesL b s)).length)=true) (ap ((by simp):some (0+((b.rs.getD ((List.take (strokeN tries a2 t2 (↑p.length:Int)).toNat p).getD r 0).toNat default).may.getD d 0).toNat)=some ((b.rs.getD ((List.take (strokeN tries a2 t2 (↑p.length:Int)).toNat p).getD r 0).toNat default).may.getD d 0).toNat) an))) (S_a [(0,.cs false ([PV.int IntKind.i64 ((feesL b s).getD ((b.rs.getD ((List.take (strokeN tries a2 t2 (↑p.length:Int)).toNat p).getD r 0).toNat default).may.getD d 0).toNat 0)]))] (ap (rc_at (q:=PV.own 1 (List.map I (feesL b s))) (xs:=List.map I (feesL b s)) (x:=PV.int IntKind.i64 ((feesL b s).getD ((b.rs.getD ((List.take (strokeN tries a2 t2 (↑p.length:Int)).toNat p).getD r 0).toNat default).may.getD d 0).toNat 0)) rfl (getm (0) (by omega)):readCells 16 (PV.own 1 (List.map I (feesL b s))) [] ((b.rs.getD ((List.take (strokeN tries a2 t2 (↑p.length:Int)).toNat p).getD r 0).toNat default).may.getD d 0).toNat 0 1=some (false,[PV.int IntKind.i64 ((feesL b s).getD ((b.rs.getD ((List.take (strokeN tries a2 t2 (↑p.length:Int)).toNat p).getD r 0).toNat default).may.getD d 0).toNat 0)])) an) (S_go 4 (S_end (V_region (S_a [(1,.v (PV.int IntKind.i64 (↑(d+1):Int)))] (ap ((wrapE (by omega) (by omega)):PV.int IntKind.i64 (IntKind.i64.wrap ((↑d:Int)+1))=PV.int IntKind.i64 (↑(d+1):Int)) an) (S_go 1 (S_end ?_)))))))))))))))))))))))
            refine ⟨(d+1,decide ((feesL b s).getD ((b.rs.getD ((p.take (strokeN tries a2 t2 (p.length:Int)).toNat).getD r 0).toNat default).may.getD d 0).toNat 0≥bndS b (p.take (strokeN tries a2 t2 (p.length:Int)).toNat))),⟨by omega,fun e=>⟨hh1,fun k hk=>?_⟩⟩,by simp only;omega,by kernel_rfl,by kernel_rfl⟩
            rcases Nat.lt_succ_iff_lt_or_eq.1 hk with hk | rfl
            · exact hh2 k hk
            · have:=of_decide_eq_false e;omega
        · refine V_seq (V_region (S_go 1 (S_end (V_seq (V_decF ((↑d:Int)<(↑(b.rs.getD ((List.take (strokeN tries a2 t2 (↑p.length:Int)).toNat p).getD r 0).toNat default).may.length:Int)) (by omega) (V_exit 4 (V_region (S_a [(1,.v (PV.int IntKind.i64 (↑(r+1):Int)))] (ap ((wrapE (by omega) (by omega)):PV.int IntKind.i64 (IntKind.i64.wrap ((↑r:Int)+1))=PV.int IntKind.i64 (↑(r+1):Int)) an) (S_go 1 (S_end ?_))))))))))
          refine ⟨(r+1,h),⟨by omega,fun e j hj=>?_⟩,by simp only;omega,by kernel_rfl,by kernel_rfl⟩
          rcases Nat.lt_succ_iff_lt_or_eq.1 hj with hj | rfl
          · exact (hh e).1 j hj
          · intro c hc
            obtain ⟨k,hk,rfl⟩:=List.getElem_of_mem hc
            have:=(hh e).2 k (by have:k<(b.rs.getD ((p.take (strokeN tries a2 t2 (p.length:Int)).toNat).getD j 0).toNat default).may.length:=hk;omega)
            rwa [getD_lt (l:=(b.rs.getD ((p.take (strokeN tries a2 t2 (p.length:Int)).toNat).getD j 0).toNat default).may) (i:=k) hk] at this
      · cases h with
        | true =>
          refine V_seq (V_region (S_go 1 (S_end (V_seq (V_decF ((↑r:Int)<(↑(List.take (strokeN tries a2 t2 (↑p.length:Int)).toNat p).length:Int)) (by omega) (V_exit 2 (V_seq (V_region (S_go 2 (S_end (V_false (V_skip (V_region (S_a [(1,.v (PV.int IntKind.i64 (↑(i+1):Int)))] (ap ((wrapE (by omega) (by omega)):PV.int IntKind.i64 (IntKind.i64.wrap ((↑i:Int)+1))=PV.int IntKind.i64 (↑(i+1):Int)) an) (S_go 1 (S_end ?_))))))))))))))))
          exact ⟨(i+1,a3,t3),⟨by omega,ha3⟩,by simp only;omega,by kernel_rfl,by kernel_rfl⟩
        | false =>
          exfalso
          obtain ⟨c,hc4,hcm,hcb⟩:=hsome (fun e=>by have e5:=congrArg List.length e;rw [List.length_nil] at e5;omega)
          simp only [manB,List.any_eq_true] at hcm
          obtain ⟨x,hx,hxm⟩:=hcm
          obtain ⟨j,hj,rfl⟩:=List.getElem_of_mem hx
          simp only [has,List.any_eq_true,decide_eq_true_eq] at hxm
          obtain ⟨y,hy,hye⟩:=hxm
          have h5:=hh rfl j (by omega) y (by rw [getD_lt hj];exact hy)
          have hy2:=(good_may hg (i:=((p.take (strokeN tries a2 t2 (p.length:Int)).toNat)[j]).toNat) (by have:=hqr _ (List.getElem_mem hj);omega)).2.1 y hy
          rw [← hye,Int.toNat_natCast,fees_at hs (by omega)] at h5
          omega
  · refine V_seq (V_region (S_go 1 (S_end (V_seq (V_decF ((↑i:Int)<8) (by omega) (V_exit 0 (V_seq (V_region (S_a [(4,.ret (PV.bool true) ([]))] (ap (f16) an) (S_go 1 (S_end (V_ret (E_a [] an (PV.bool true) ([]) rfl rfl)))))))))))))
end Go.Eng
