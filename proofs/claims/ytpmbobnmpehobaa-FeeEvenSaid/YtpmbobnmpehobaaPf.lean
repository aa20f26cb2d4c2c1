/- Rounds are shared so that nobody earns more than somebody else by more than a single round which this one may cry, no share is better than the best one, no rounds have a greater bound, and to settle never makes the greatest fee greater, for all numbers. -/
import Derived.Test.YtpmbobnmpehobaaPe
import Derived.Test.YtpmbobnmpehobaaPd
set_option linter.unusedVariables false
set_option linter.unusedSimpArgs false
set_option linter.unusedSectionVars false
namespace Go.Eng
open Go Go.Proofs
abbrev u8 (n:Int):PV := .int .u8 n
abbrev u32 (n:Int):PV := .int .u32 n
abbrev bellV (l:List Int) (a:Nat) (t:Int):PV := .box (.agg [.sl (l.map u8),I a,u32 t])
abbrev bellW:PV := .addr 50000000 [] 0 0 (some 3)
def BellOk (l:List Int) (a:Nat):Prop:=a≤l.length∧l.length<9223372036854775808
def ringA0 (l:List Int) (a:Nat):Nat:=if a=l.length then 0 else a
def ringT (l:List Int) (a:Nat) (t:Int):Int:=if a=l.length then IntKind.u32.wrap (t+1) else t
def ringA (l:List Int) (a:Nat):Nat:=if 0<l.length then ringA0 l a+1 else ringA0 l a
theorem ringA_ok {l:List Int} {a:Nat} (h:BellOk l a):BellOk l (ringA l a):=by
  obtain ⟨h1,h2⟩:=h
  refine ⟨?_,h2⟩
  unfold ringA ringA0
  repeat' split
  all_goals omega
def bellN (n:Int):Int:=IntKind.u32.wrap ↑(BitVec.ofInt IntKind.u32.bits (IntKind.u32.wrap ↑(BitVec.ofInt IntKind.u32.bits n ^^^ BitVec.ofInt IntKind.u32.bits (n.fdiv (2 ^ min (Int.toNat 7) IntKind.u32.bits))).toNat) &&& BitVec.ofInt IntKind.u32.bits 65535).toNat
theorem bellN_bd (n:Int):0≤bellN n∧bellN n≤65535:=by
  unfold bellN
  generalize BitVec.ofInt IntKind.u32.bits (IntKind.u32.wrap ↑(BitVec.ofInt IntKind.u32.bits n ^^^ BitVec.ofInt IntKind.u32.bits (n.fdiv (2 ^ min (Int.toNat 7) IntKind.u32.bits))).toNat)=x
  have h:(x &&& BitVec.ofInt IntKind.u32.bits 65535).toNat≤65535:=by
    rw [BitVec.toNat_and]
    exact Nat.le_trans Nat.and_le_right (by decide)
  generalize (x &&& BitVec.ofInt IntKind.u32.bits 65535).toNat=m at h
  have:IntKind.u32.wrap (m:Int)=m:=by
    simp only [IntKind.wrap]
    simp [IntKind.signed,IntKind.bits]
    omega
  rw [this];omega
def ringN (l:List Int) (a:Nat) (t:Int):Int:=bellN (if 0<l.length then IntKind.u32.wrap (IntKind.u32.wrap (30011*ringT l a t)+IntKind.u32.wrap (263*IntKind.u32.wrap (l.getD (ringA0 l a) 0))) else IntKind.u32.wrap (30011*ringT l a t))
theorem ringN_bd (l:List Int) (a:Nat) (t:Int):0≤ringN l a t∧ringN l a t≤65535:=bellN_bd _
def strokeN (l:List Int) (a:Nat) (t:Int) (n:Int):Int:=(ringN l a t).tmod (max 1 (n+1))
theorem strokeN_bd (l:List Int) (a:Nat) (t:Int) (n:Int):0≤strokeN l a t n∧strokeN l a t n≤max 0 n:=by
  have h1:=ringN_bd l a t
  have h2:0<max 1 (n+1):=by omega
  have h3:=Int.tmod_nonneg (max 1 (n+1)) h1.1
  have h4:=Int.tmod_lt_of_pos (ringN l a t) h2
  unfold strokeN
  omega
section
variable [Yo]
theorem f22 (l:List Int):FG 22 [.sl (l.map u8)] (bellV l 0 0):=by
  refine gives_ofX Try.f22 ?_
  refine V_seq (V_region (S_go 1 (S_end (V_seq (V_region (S_go 4 (S_end (V_ret (E_a [] an ((PV.agg [PV.sl (List.map u8 l),I 0,PV.int IntKind.u32 0]).box) ([]) rfl rfl)))))))))
theorem f86 (l:List Int) (a:Nat) (t:Int) (h:BellOk l a):Gives Try.prog feeH 86 [bellW] [bellV l a t] (I (ringN l a t)) [bellV l (ringA l a) (ringT l a t)]:=by
  refine gives_ofX Try.f86 ?_
  have h1:=h.1
  have h2:=h.2
  have hb:∀ n,-9223372036854775808≤bellN n∧bellN n<9223372036854775808:=fun n=>by have:=bellN_bd n;omega
  refine V_seq (V_region (S_go 1 (S_end (V_seq (V_seq (V_region (S_go 8 (S_a [(0,.n (l.length))] (ap ((by simp):some (List.map u8 l).length=some l.length) an) (S_go 1 (S_end (V_dec ((↑a:Int)=(↑l.length:Int)) (fun k0=>(V_region (S_go 6 (S_go 1 (S_go 6 (S_end (V_seq (V_region (S_go 3 (S_go 1 (S_go 1 (S_go 1 (S_end (V_seq (V_seq (V_region (S_go 4 (S_a [(0,.n (l.length))] (ap ((by simp):some (List.map u8 l).length=some l.length) an) (S_go 1 (S_end (V_dec ((↑l.length:Int)>0) (fun k1=>(V_seq (V_region (S_go 9 (S_a [(2,.v (PV.int IntKind.u8 (l.getD 0 0)))] (ap (getm (0) (by omega):(List.map u8 l)[0]? = some (PV.int IntKind.u8 (l.getD 0 0))) an) (S_go 1 (S_go 1 (S_go 1 (S_go 1 (S_go 1 (S_end (V_region (S_go 8 (S_end (V_seq (V_region (S_go 2 (S_go 1 (S_go 1 (S_go 1 (S_a [(0,.v (I (IntKind.u32.wrap (↑(BitVec.ofInt IntKind.u32.bits (IntKind.u32.wrap (↑(BitVec.ofInt IntKind.u32.bits (IntKind.u32.wrap (IntKind.u32.wrap (30011*IntKind.u32.wrap (t+1))+IntKind.u32.wrap (263*IntKind.u32.wrap (l.getD 0 0)))) ^^^ BitVec.ofInt IntKind.u32.bits ((IntKind.u32.wrap (IntKind.u32.wrap (30011*IntKind.u32.wrap (t+1))+IntKind.u32.wrap (263*IntKind.u32.wrap (l.getD 0 0)))).fdiv (2 ^ min (Int.toNat 7) IntKind.u32.bits))).toNat:Int)) &&& BitVec.ofInt IntKind.u32.bits 65535).toNat:Int))))] (ap ((wrapE rfl ?_):I (IntKind.i64.wrap (IntKind.u32.wrap (↑(BitVec.ofInt IntKind.u32.bits (IntKind.u32.wrap (↑(BitVec.ofInt IntKind.u32.bits (IntKind.u32.wrap (IntKind.u32.wrap (30011*IntKind.u32.wrap (t+1))+IntKind.u32.wrap (263*IntKind.u32.wrap (l.getD 0 0)))) ^^^ BitVec.ofInt IntKind.u32.bits ((IntKind.u32.wrap (IntKind.u32.wrap (30011*IntKind.u32.wrap (t+1))+IntKind.u32.wrap (263*IntKind.u32.wrap (l.getD 0 0)))).fdiv (2 ^ min (Int.toNat 7) IntKind.u32.bits))).toNat:Int)) &&& BitVec.ofInt IntKind.u32.bits 65535).toNat:Int)))=I (IntKind.u32.wrap (↑(BitVec.ofInt IntKind.u32.bits (IntKind.u32.wrap (↑(BitVec.ofInt IntKind.u32.bits (IntKind.u32.wrap (IntKind.u32.wrap (30011*IntKind.u32.wrap (t+1))+IntKind.u32.wrap (263*IntKind.u32.wrap (l.getD 0 0)))) ^^^ BitVec.ofInt IntKind.u32.bits ((IntKind.u32.wrap (IntKind.u32.wrap (30011*IntKind.u32.wrap (t+1))+IntKind.u32.wrap (263*IntKind.u32.wrap (l.getD 0 0)))).fdiv (2 ^ min (Int.toNat 7) IntKind.u32.bits))).toNat:Int)) &&& BitVec.ofInt IntKind.u32.bits 65535).toNat:Int))) an) (S_go 1 (S_end (V_ret (E_a [] an (I (IntKind.u32.wrap (↑(BitVec.ofInt IntKind.u32.bits (IntKind.u32.wrap (↑(BitVec.ofInt IntKind.u32.bits (IntKind.u32.wrap (IntKind.u32.wrap (30011*IntKind.u32.wrap (t+1))+IntKind.u32.wrap (263*IntKind.u32.wrap (l.getD 0 0)))) ^^^ BitVec.ofInt IntKind.u32.bits ((IntKind.u32.wrap (IntKind.u32.wrap (30011*IntKind.u32.wrap (t+1))+IntKind.u32.wrap (263*IntKind.u32.wrap (l.getD 0 0)))).fdiv (2 ^ min (Int.toNat 7) IntKind.u32.bits))).toNat:Int)) &&& BitVec.ofInt IntKind.u32.bits 65535).toNat:Int))) ([(PV.agg [PV.sl (List.map u8 l),I (IntKind.i64.wrap (0+1)),PV.int IntKind.u32 (IntKind.u32.wrap (t+1))]).box]) ?_ ?_))))))))))))))))))))))))) (fun k1=>(V_skip (V_seq (V_region (S_go 2 (S_go 1 (S_go 1 (S_go 1 (S_a [(0,.v (I (IntKind.u32.wrap (↑(BitVec.ofInt IntKind.u32.bits (IntKind.u32.wrap (↑(BitVec.ofInt IntKind.u32.bits (IntKind.u32.wrap (30011*IntKind.u32.wrap (t+1))) ^^^ BitVec.ofInt IntKind.u32.bits ((IntKind.u32.wrap (30011*IntKind.u32.wrap (t+1))).fdiv (2 ^ min (Int.toNat 7) IntKind.u32.bits))).toNat:Int)) &&& BitVec.ofInt IntKind.u32.bits 65535).toNat:Int))))] (ap ((wrapE rfl ?_):I (IntKind.i64.wrap (IntKind.u32.wrap (↑(BitVec.ofInt IntKind.u32.bits (IntKind.u32.wrap (↑(BitVec.ofInt IntKind.u32.bits (IntKind.u32.wrap (30011*IntKind.u32.wrap (t+1))) ^^^ BitVec.ofInt IntKind.u32.bits ((IntKind.u32.wrap (30011*IntKind.u32.wrap (t+1))).fdiv (2 ^ min (Int.toNat 7) IntKind.u32.bits))).toNat:Int)) &&& BitVec.ofInt IntKind.u32.bits 65535).toNat:Int)))=I (IntKind.u32.wrap (↑(BitVec.ofInt IntKind.u32.bits (IntKind.u32.wrap (↑(BitVec.ofInt IntKind.u32.bits (IntKind.u32.wrap (30011*IntKind.u32.wrap (t+1))) ^^^ BitVec.ofInt IntKind.u32.bits ((IntKind.u32.wrap (30011*IntKind.u32.wrap (t+1))).fdiv (2 ^ min (Int.toNat 7) IntKind.u32.bits))).toNat:Int)) &&& BitVec.ofInt IntKind.u32.bits 65535).toNat:Int))) an) (S_go 1 (S_end (V_ret (E_a [] an (I (IntKind.u32.wrap (↑(BitVec.ofInt IntKind.u32.bits (IntKind.u32.wrap (↑(BitVec.ofInt IntKind.u32.bits (IntKind.u32.wrap (30011*IntKind.u32.wrap (t+1))) ^^^ BitVec.ofInt IntKind.u32.bits ((IntKind.u32.wrap (30011*IntKind.u32.wrap (t+1))).fdiv (2 ^ min (Int.toNat 7) IntKind.u32.bits))).toNat:Int)) &&& BitVec.ofInt IntKind.u32.bits 65535).toNat:Int))) ([(PV.agg [PV.sl (List.map u8 l),I 0,PV.int IntKind.u32 (IntKind.u32.wrap (t+1))]).box]) ?_ ?_)))))))))))))))))))))))))))))))))) (fun k0=>(V_skip (V_seq (V_region (S_go 4 (S_go 1 (S_go 1 (S_end (V_seq (V_seq (V_region (S_go 4 (S_a [(0,.n (l.length))] (ap ((by simp):some (List.map u8 l).length=some l.length) an) (S_go 1 (S_end (V_decT ((↑l.length:Int)>0) (by omega) (V_seq (V_region (S_go 9 (S_a [(2,.v (PV.int IntKind.u8 (l.getD a 0)))] (ap (getm (0) (by omega):(List.map u8 l)[a]? = some (PV.int IntKind.u8 (l.getD a 0))) an) (S_go 1 (S_go 1 (S_go 1 (S_go 1 (S_go 1 (S_end (V_region (S_go 4 (S_a [(1,.v (I (↑(a+1):Int)))] (ap ((wrapE (by omega) (by omega)):I (IntKind.i64.wrap ((↑a:Int)+1))=I (↑(a+1):Int)) an) (S_go 3 (S_end (V_seq (V_region (S_go 2 (S_go 1 (S_go 1 (S_go 1 (S_a [(0,.v (I (IntKind.u32.wrap (↑(BitVec.ofInt IntKind.u32.bits (IntKind.u32.wrap (↑(BitVec.ofInt IntKind.u32.bits (IntKind.u32.wrap (IntKind.u32.wrap (30011*t)+IntKind.u32.wrap (263*IntKind.u32.wrap (l.getD a 0)))) ^^^ BitVec.ofInt IntKind.u32.bits ((IntKind.u32.wrap (IntKind.u32.wrap (30011*t)+IntKind.u32.wrap (263*IntKind.u32.wrap (l.getD a 0)))).fdiv (2 ^ min (Int.toNat 7) IntKind.u32.bits))).toNat:Int)) &&& BitVec.ofInt IntKind.u32.bits 65535).toNat:Int))))] (ap ((wrapE rfl ?_):I (IntKind.i64.wrap (IntKind.u32.wrap (↑(BitVec.ofInt IntKind.u32.bits (IntKind.u32.wrap (↑(BitVec.ofInt IntKind.u32.bits (IntKind.u32.wrap (IntKind.u32.wrap (30011*t)+IntKind.u32.wrap (263*IntKind.u32.wrap (l.getD a 0)))) ^^^ BitVec.ofInt IntKind.u32.bits ((IntKind.u32.wrap (IntKind.u32.wrap (30011*t)+IntKind.u32.wrap (263*IntKind.u32.wrap (l.getD a 0)))).fdiv (2 ^ min (Int.toNat 7) IntKind.u32.bits))).toNat:Int)) &&& BitVec.ofInt IntKind.u32.bits 65535).toNat:Int)))=I (IntKind.u32.wrap (↑(BitVec.ofInt IntKind.u32.bits (IntKind.u32.wrap (↑(BitVec.ofInt IntKind.u32.bits (IntKind.u32.wrap (IntKind.u32.wrap (30011*t)+IntKind.u32.wrap (263*IntKind.u32.wrap (l.getD a 0)))) ^^^ BitVec.ofInt IntKind.u32.bits ((IntKind.u32.wrap (IntKind.u32.wrap (30011*t)+IntKind.u32.wrap (263*IntKind.u32.wrap (l.getD a 0)))).fdiv (2 ^ min (Int.toNat 7) IntKind.u32.bits))).toNat:Int)) &&& BitVec.ofInt IntKind.u32.bits 65535).toNat:Int))) an) (S_go 1 (S_end (V_ret (E_a [] an (I (IntKind.u32.wrap (↑(BitVec.ofInt IntKind.u32.bits (IntKind.u32.wrap (↑(BitVec.ofInt IntKind.u32.bits (IntKind.u32.wrap (IntKind.u32.wrap (30011*t)+IntKind.u32.wrap (263*IntKind.u32.wrap (l.getD a 0)))) ^^^ BitVec.ofInt IntKind.u32.bits ((IntKind.u32.wrap (IntKind.u32.wrap (30011*t)+IntKind.u32.wrap (263*IntKind.u32.wrap (l.getD a 0)))).fdiv (2 ^ min (Int.toNat 7) IntKind.u32.bits))).toNat:Int)) &&& BitVec.ofInt IntKind.u32.bits 65535).toNat:Int))) ([(PV.agg [PV.sl (List.map u8 l),I (↑(a+1):Int),PV.int IntKind.u32 t]).box]) ?_ ?_)))))))))))))))))))))))))))))))))))))))))))))))))))))
  · exact hb _
  · have e1:a=l.length:=by omega
    have e2:0<l.length:=by omega
    simp only [ringN,ringA0,ringT,e1,e2,if_true];rfl
  · have e1:a=l.length:=by omega
    have e2:0<l.length:=by omega
    simp only [ringA,ringA0,ringT,e1,e2,if_true];rfl
  · exact hb _
  · have e1:a=l.length:=by omega
    have e2:¬ 0<l.length:=by omega
    simp only [ringN,ringA0,ringT,e1,e2,if_true,if_false];rfl
  · have e1:a=l.length:=by omega
    have e2:¬ 0<l.length:=by omega
    simp only [ringA,ringA0,ringT,e1,e2,if_true,if_false];rfl
  · exact hb _
  · have e1:¬ a=l.length:=by omega
    have e2:0<l.length:=by omega
    simp only [ringN,ringA0,ringT,e1,e2,if_true,if_false];rfl
  · have e1:¬ a=l.length:=by omega
    have e2:0<l.length:=by omega
    simp only [ringA,ringA0,ringT,e1,e2,if_true,if_false]
theorem f24 (l:List Int) (a:Nat) (t:Int) (n:Int) (h:BellOk l a) (hn : -9000000000000000000≤n∧n≤9000000000000000000):Gives Try.prog feeH 24 [bellW,I n] [bellV l a t] (I (strokeN l a t n)) [bellV l (ringA l a) (ringT l a t)]:=by
  refine gives_ofX Try.f24 ?_
  have e:(if n+1>1 then n+1 else 1)=max 1 (n+1):=by split<;>omega
  refine V_seq (V_region (S_go 1 (S_end (V_seq (V_region (S_go 1 (S_a [(4,.ret (I (ringN l a t)) ([bellV l (ringA l a) (ringT l a t)]))] (ap (f86 (l) (a) (t) (by omega)) an) (S_go 1 (S_a [(1,.v (I (n+1)))] (ap ((wrapE rfl (by omega)):I (IntKind.i64.wrap (n+1))=I (n+1)) an) (S_go 1 (S_a [(0,.v (I ((ringN l a t).tmod (if n+1>1 then n+1 else 1))))] (ap (bv_rem (by omega) rfl:binV Try.prog BinOp.rem 3 (I (ringN l a t)) (I (if n+1>1 then n+1 else 1))=some (I ((ringN l a t).tmod (if n+1>1 then n+1 else 1)))) an) (S_go 1 (S_end (V_ret (E_a [] an (I ((ringN l a t).tmod (if n+1>1 then n+1 else 1))) ([(PV.agg [PV.sl (List.map u8 l),I (↑(ringA l a):Int),PV.int IntKind.u32 (ringT l a t)]).box]) ?_ rfl)))))))))))))))
  rw [e];rfl
theorem f27 (l:List Int) (a:Nat) (t:Int) (lo hi:Int) (h:BellOk l a) (hl:0≤lo∧lo≤1000000) (hn:0≤hi∧hi≤1000000):Gives Try.prog feeH 27 [bellW,I lo,I hi] [bellV l a t] (I (lo+strokeN l a t (hi-lo))) [bellV l (ringA l a) (ringT l a t)]:=by
  refine gives_ofX Try.f27 ?_
  have:=strokeN_bd l a t (hi-lo)
  refine V_seq (V_region (S_go 1 (S_end (V_seq (V_region (S_go 4 (S_a [(1,.v (I (hi-lo)))] (ap ((wrapE rfl (by omega)):I (IntKind.i64.wrap (hi-lo))=I (hi-lo)) an) (S_a [(6,.ret (I (strokeN l a t (hi-lo))) ([bellV l (ringA l a) (ringT l a t)]))] (ap (f24 (l) (a) (t) (hi-lo) (by omega) (by omega)) an) (S_a [(1,.v (I (lo+strokeN l a t (hi-lo))))] (ap ((wrapE rfl (by omega)):I (IntKind.i64.wrap (lo+strokeN l a t (hi-lo)))=I (lo+strokeN l a t (hi-lo))) an) (S_go 1 (S_end (V_ret (E_a [] an (I (lo+strokeN l a t (hi-lo))) ([(PV.agg [PV.sl (List.map u8 l),I (↑(ringA l a):Int),PV.int IntKind.u32 (ringT l a t)]).box]) rfl rfl)))))))))))))
theorem f28 (l:List Int) (a:Nat) (t:Int) (n:Int) (h:BellOk l a) (hn:0≤n∧n≤1000000):Gives Try.prog feeH 28 [bellW,I n] [bellV l a t] (.bool (decide (strokeN l a t (n-1)=0))) [bellV l (ringA l a) (ringT l a t)]:=by
  refine gives_ofX Try.f28 ?_
  refine V_seq (V_region (S_go 1 (S_end (V_seq (V_region (S_go 2 (S_a [(1,.v (I (n-1)))] (ap ((wrapE rfl (by omega)):I (IntKind.i64.wrap (n-1))=I (n-1)) an) (S_a [(6,.ret (I (strokeN l a t (n-1))) ([bellV l (ringA l a) (ringT l a t)]))] (ap (f24 (l) (a) (t) (n-1) (by omega) (by omega)) an) (S_go 2 (S_end (V_ret (E_a [] an (PV.bool (strokeN l a t (n-1)==0)) ([(PV.agg [PV.sl (List.map u8 l),I (↑(ringA l a):Int),PV.int IntKind.u32 (ringT l a t)]).box]) rfl rfl))))))))))))
end
end Go.Eng
set_option maxRecDepth 10000
set_option maxHeartbeats 4000000
namespace Go.Eng
open Go Go.Proofs
theorem good_box {b:Dk} (h:Good b):boxErr b=0:=by
  have h1:(!(decide (1≤b.cr)&&decide (b.cr≤4)))=false:=by have:=h.cr;simp;omega
  have h2:¬ (b.rs.length:Int)>7:=by have:=h.len;omega
  have h3:(!(decide (0≤b.wd)&&decide (b.wd≤20)))=false:=by have:=h.wd;simp;omega
  have h4:(!(decide (0≤b.st)&&decide (b.st≤20)))=false:=by have:=h.st;simp;omega
  have h5:(!(decide (0≤b.fn)&&decide (b.fn≤20)))=false:=by have:=h.fn;simp;omega
  have h6:(!b.rs.all rndNum)=false:=by
    simp only [Bool.not_eq_false',List.all_eq_true]
    intro r hr
    have:=h.num r hr
    simp [rndNum];omega
  have h7:∀ rs:List Rnd,(∀ r∈rs,r∈b.rs)→rndsErr b.cr rs=0:=by
    intro rs
    induction rs with
    | nil=>intro _;rfl
    | cons r rs ih =>
      intro hm
      have h8:=h.may r (hm r (by simp))
      have h9:(!r.may.all (fun x=>decide (0≤x)&&decide (x≤b.cr-1)))=false:=by
        simp only [Bool.not_eq_false',List.all_eq_true]
        intro x hx;have:=h8.2.1 x hx;simp;omega
      have e:rndErr b.cr r=0:=by simp only [rndErr,h8.1,h9,h8.2.2,if_false];rfl
      simp only [rndsErr,e,if_true]
      exact ih fun q hq=>hm q (by simp [hq])
  simp only [boxErr,h1,h2,h3,h4,h5,h6,if_false]
  exact h7 _ fun _ h=>h
theorem incr_app {l:List Int} {x:Int} (h:incr l=true) (hx:∀ y∈l,y<x):incr (l++[x])=true:=by
  refine incr_t fun j hj=>?_
  simp only [List.length_append,List.length_singleton] at hj
  rcases Nat.lt_or_ge (j+1) l.length with h1 | h1
  · have:=incr_get h h1
    simpa [List.getD_eq_getElem?_getD,List.getElem?_append_left h1,List.getElem?_append_left (show j<l.length by omega)] using this
  · have e:l.length=j+1:=by omega
    have h2:l.getD j 0<x:=hx _ (by rw [getD_lt (by omega)];exact List.getElem_mem _)
    have e2:(l++[x]).getD (j+1) 0=x:=by rw [← e];simp
    have e3:(l++[x]).getD j 0=l.getD j 0:=by simp [List.getD_eq_getElem?_getD,List.getElem?_append_left (show j<l.length by omega)]
    rw [e2,e3];exact h2
theorem incr_len {l:List Int} {n:Int} (h:incr l=true) (hx:∀ x∈l,0≤x∧x≤n-1) (hn:1≤n∧n≤4):l.length≤4:=by
  have:∀ j,j<l.length→(j:Int)≤l.getD j 0:=by
    intro j
    induction j with
    | zero=>intro hj;exact (getD_all hx 0 hj).1
    | succ j ih =>
      intro hj
      have h1:=ih (by omega)
      have h2:=incr_get h hj
      omega
  rcases Nat.lt_or_ge 4 l.length with h4 | h4
  · have h1:=this 4 h4
    have h2:=getD_all hx 4 h4
    omega
  · exact h4
abbrev boxO (b:Dk):PV := .agg [I b.cr,I b.wd,I b.st,I b.fn,.own 3 (b.rs.map rndO)]
structure RndOk (cr:Int) (r:Rnd):Prop where
  w:1≤r.w∧r.w≤9
  s:1≤r.s∧r.s≤5
  n:r.may.length≠0
  may:∀ x∈r.may,0≤x∧x≤cr-1
  inc:incr r.may=true
section
variable [Yo]
theorem f21_ex (l:List Int) (a:Nat) (t n:Int) (h:BellOk l a) (hn:0≤n∧n≤7):∃ v h',Gives Try.prog feeH 21 [bellW,I n] [bellV l a t] v h'∧∃ b a' t',v=boxO b∧h'=[bellV l a' t']∧Good b∧(b.rs.length:Int)≤n∧BellOk l a':=by
  refine gives_exX Try.f21 _ ?_
  have g1:=ringA_ok h
  have g2:=ringA_ok g1
  have g3:=ringA_ok g2
  have g4:=ringA_ok g3
  have g5:=ringA_ok g4
  have s1:=strokeN_bd l a t (4-1)
  have s2:=strokeN_bd l (ringA l a) (ringT l a t) 4
  have s3:=strokeN_bd l (ringA l (ringA l a)) (ringT l (ringA l a) (ringT l a t)) 6
  have s4:=strokeN_bd l (ringA l (ringA l (ringA l a))) (ringT l (ringA l (ringA l a)) (ringT l (ringA l a) (ringT l a t))) 3
  have s5:=strokeN_bd l (ringA l (ringA l (ringA l (ringA l a)))) (ringT l (ringA l (ringA l (ringA l a))) (ringT l (ringA l (ringA l a)) (ringT l (ringA l a) (ringT l a t)))) n
  refine V_seq (V_region (S_go 1 (S_end (V_seq (V_region (S_go 1 (S_a [(8,.ret (I (1+strokeN l a t (4-1))) ([bellV l (ringA l a) (ringT l a t)]))] (ap (f27 (l) (a) (t) (1) (4) (by omega) (by omega) (by omega)) an) (S_go 1 (S_a [(6,.ret (I (strokeN l (ringA l a) (ringT l a t) 4)) ([bellV l (ringA l (ringA l a)) (ringT l (ringA l a) (ringT l a t))]))] (ap (f24 (l) (ringA l a) (ringT l a t) (4) (by omega) (by omega)) an) (S_go 1 (S_a [(6,.ret (I (strokeN l (ringA l (ringA l a)) (ringT l (ringA l a) (ringT l a t)) 6)) ([bellV l (ringA l (ringA l (ringA l a))) (ringT l (ringA l (ringA l a)) (ringT l (ringA l a) (ringT l a t)))]))] (ap (f24 (l) (ringA l (ringA l a)) (ringT l (ringA l a) (ringT l a t)) (6) (by omega) (by omega)) an) (S_go 1 (S_a [(6,.ret (I (strokeN l (ringA l (ringA l (ringA l a))) (ringT l (ringA l (ringA l a)) (ringT l (ringA l a) (ringT l a t))) 3)) ([bellV l (ringA l (ringA l (ringA l (ringA l a)))) (ringT l (ringA l (ringA l (ringA l a))) (ringT l (ringA l (ringA l a)) (ringT l (ringA l a) (ringT l a t))))]))] (ap (f24 (l) (ringA l (ringA l (ringA l a))) (ringT l (ringA l (ringA l a)) (ringT l (ringA l a) (ringT l a t))) (3) (by omega) (by omega)) an) (S_go 3 (S_end (V_seq (V_seq (V_region (S_go 2 (S_a [(6,.ret (I (strokeN l (ringA l (ringA l (ringA l (ringA l a)))) (ringT l (ringA l (ringA l (ringA l a))) (ringT l (ringA l (ringA l a)) (ringT l (ringA l a) (ringT l a t)))) n)) ([bellV l (ringA l (ringA l (ringA l (ringA l (ringA l a))))) (ringT l (ringA l (ringA l (ringA l (ringA l a)))) (ringT l (ringA l (ringA l (ringA l a))) (ringT l (ringA l (ringA l a)) (ringT l (ringA l a) (ringT l a t)))))]))] (ap (f24 (l) (ringA l (ringA l (ringA l (ringA l a)))) (ringT l (ringA l (ringA l (ringA l a))) (ringT l (ringA l (ringA l a)) (ringT l (ringA l a) (ringT l a t)))) (n) (by omega) (by omega)) an) (S_go 1 (S_end (V_block 0 ?_)))))))))))))))))))))))
  generalize ringT l (ringA l (ringA l (ringA l (ringA l a)))) (ringT l (ringA l (ringA l (ringA l a))) (ringT l (ringA l (ringA l a)) (ringT l (ringA l a) (ringT l a t))))=T at *
  generalize strokeN l (ringA l (ringA l (ringA l (ringA l a)))) (ringT l (ringA l (ringA l (ringA l a))) (ringT l (ringA l (ringA l a)) (ringT l (ringA l a) (ringT l a t)))) n=m at *
  generalize strokeN l (ringA l (ringA l (ringA l a))) (ringT l (ringA l (ringA l a)) (ringT l (ringA l a) (ringT l a t))) 3=fn at *
  generalize strokeN l (ringA l (ringA l a)) (ringT l (ringA l a) (ringT l a t)) 6=st at *
  generalize strokeN l (ringA l a) (ringT l a t) 4=wd at *
  generalize hcr:1+strokeN l a t (4-1)=cr at *
  generalize ringA l (ringA l (ringA l (ringA l (ringA l a))))=A at *
  refine V_loopS (fun (i,q,a,t)=>(i:Int)≤m∧q.length=i∧(∀ r∈q,RndOk cr r)∧BellOk l a) (fun (i,q,a,t)=>[(5,.box (.agg [I cr,I wd,I st,I fn,.own 3 (q.map rndO)])),(21,I (i:Nat)),(50000000,bellV l a t)]) (fun (i,_,_,_)=>m.toNat-i) ((0:Nat),([]:List Rnd),A,T) ⟨by omega,rfl,by simp,g5⟩ fun (i,q,a,t) ⟨hi,hq,hr,ha⟩=>?_
  have g1:=ringA_ok ha
  have g2:=ringA_ok g1
  have g3:=ringA_ok g2
  have u1:=strokeN_bd l a t (9-1)
  have u2:=strokeN_bd l (ringA l a) (ringT l a t) (5-1)
  have u3:=strokeN_bd l (ringA l (ringA l a)) (ringT l (ringA l a) (ringT l a t)) (cr-1)
  refine V_seq (V_region (S_go 1 (S_end (V_seq (V_dec ((↑i:Int)<m) (fun k0=>(V_skip (V_seq (V_block 1 (V_seq (V_region (S_go 1 (S_a [(8,.ret (I (1+strokeN l a t (9-1))) ([bellV l (ringA l a) (ringT l a t)]))] (ap (f27 (l) (a) (t) (1) (9) (by omega) (by omega) (by omega)) an) (S_go 1 (S_a [(8,.ret (I (1+strokeN l (ringA l a) (ringT l a t) (5-1))) ([bellV l (ringA l (ringA l a)) (ringT l (ringA l a) (ringT l a t))]))] (ap (f27 (l) (ringA l a) (ringT l a t) (1) (5) (by omega) (by omega) (by omega)) an) (S_go 3 (S_end (V_seq (V_region (S_go 3 (S_a [(1,.v (I (cr-1)))] (ap ((wrapE rfl (by omega)):I (IntKind.i64.wrap (cr-1))=I (cr-1)) an) (S_a [(6,.ret (I (strokeN l (ringA l (ringA l a)) (ringT l (ringA l a) (ringT l a t)) (cr-1))) ([bellV l (ringA l (ringA l (ringA l a))) (ringT l (ringA l (ringA l a)) (ringT l (ringA l a) (ringT l a t)))]))] (ap (f24 (l) (ringA l (ringA l a)) (ringT l (ringA l a) (ringT l a t)) (cr-1) (by omega) (by omega)) an) (S_go 1 (S_end (V_seq (V_seq (V_region (S_go 3 (S_end (V_block 2 ?_))))))))))))))))))))))))) (fun k0=>(V_exit 0 (V_seq (V_region (S_go 1 (S_a [(4,.yes)] (ap ((by exact beq_of (by simp<;>omega)):(Nat.beq 0 0&&(List.map rndO q).length.beq (List.map rndO q).length)=true) an) (S_end (V_ret (E_q [(7,.yes),(1,.v (PV.own 3 (List.map rndO q)))] (ap ((by exact ble_of (by simp only [List.length_map,List.length_set,List.length_append,List.length_cons,List.length_nil,limit]<;>omega)):(0+(List.map rndO q).length).ble (List.map rndO q).length=true) (ap ((by simp [take_mapL]):PV.own 3 (List.take (List.map rndO q).length (List.drop 0 (List.map rndO q)))=PV.own 3 (List.map rndO q)) an)) (PV.agg [I cr,I wd,I st,I fn,PV.own 3 (List.map rndO q)]) ([(PV.agg [PV.sl (List.map u8 l),I (↑a:Int),PV.int IntKind.u32 t]).box]) ?_))))))))))))))
  · generalize ringT l (ringA l (ringA l a)) (ringT l (ringA l a) (ringT l a t))=T2 at *
    generalize strokeN l (ringA l (ringA l a)) (ringT l (ringA l a) (ringT l a t)) (cr-1)=su at *
    generalize hw2:1+strokeN l (ringA l a) (ringT l a t) (5-1)=w2 at *
    generalize hw1:1+strokeN l a t (9-1)=w1 at *
    generalize ringA l (ringA l (ringA l a))=A2 at *
    have hcr1:1≤cr∧cr≤4:=by omega
    refine V_loopS (fun (c,p,a,t)=>(c:Int)≤cr∧(∀ x∈p,0≤x∧x<c)∧incr p=true∧(su<c→p.length≠0)∧p.length≤c∧BellOk l a) (fun (c,p,a,t)=>[(6,.box (.agg [I w1,I w2,.own 1 (p.map I)])),(35,I (c:Nat)),(50000000,bellV l a t)]) (fun (c,_,_,_)=>cr.toNat-c) ((0:Nat),([]:List Int),A2,T2) ⟨by omega,by simp,rfl,by omega,Nat.le_refl _,g3⟩ fun (c,p,a,t) ⟨hc,hp1,hp2,hp3,hp4,ha⟩=>?_
    have g1:=ringA_ok ha
    have g2:=ringA_ok g1
    have hap:∀ x∈p++[(c:Int)],0≤x∧x<(c+1:Nat):=fun x hx=>by
      rcases List.mem_append.1 hx with hx | hx
      · have:=hp1 x hx;omega
      · rw [List.mem_singleton] at hx;omega
    have hai:incr (p++[(c:Int)])=true:=incr_app hp2 fun y hy=>(hp1 y hy).2
    have hal:(p++[(c:Int)]).length=p.length+1:=by simp
    refine V_seq (V_region (S_go 1 (S_end (V_seq (V_dec ((↑c:Int)<cr) (fun k1=>(V_skip (V_seq (V_block 3 (V_seq (V_region (S_go 2 (S_end (V_seq (V_region (S_go 4 (S_dec 41 ((↑c:Int)=su) (fun k2=>(S_go 4 (S_end (V_true (V_region (S_go 1 (S_a [(1,.v (PV.bor 6 [(0,2)] 1 0 p.length))] (ap ((by simp):PV.bor 6 [(0,2)] 1 0 (List.map I p).length=PV.bor 6 [(0,2)] 1 0 p.length) an) (S_go 2 (S_a [(4,.ob),(0,.ob),(0,.ob),(2,.v (PV.own 1 (List.map I (p++[(↑c:Int)]))))] (ap ((by exact ble_of (by simp only [List.length_map,List.length_set,List.length_append,List.length_cons,List.length_nil,limit]<;>omega)):(0+p.length).ble (List.map I p).length=true) (ap ((by exact ble_of (by simp only [List.length_map,List.length_set,List.length_append,List.length_cons,List.length_nil,limit]<;>omega)):((List.map I p).length + [I (↑c:Int)].length).ble limit=true) (ap ((by exact beq_of (by simp<;>omega)):(0+p.length).beq (List.map I p).length=true) (ap ((by simp):PV.own 1 (List.map I p++[I (↑c:Int)])=PV.own 1 (List.map I (p++[(↑c:Int)]))) an)))) (S_go 2 (S_end (V_region (S_a [(1,.v (I (↑(c+1):Int)))] (ap ((wrapE (by omega) (by omega)):I (IntKind.i64.wrap ((↑c:Int)+1))=I (↑(c+1):Int)) an) (S_go 1 (S_end ?_))))))))))))))) (fun k2=>(S_go 1 (S_a [(6,.ret (PV.bool (decide (strokeN l a t (3-1)=0))) ([bellV l (ringA l a) (ringT l a t)]))] (ap (f28 (l) (a) (t) (3) (by omega) (by omega)) an) (S_go 2 (S_end (V_ndec (strokeN l a t (3-1)=0) (fun k3=>(V_region (S_go 1 (S_a [(1,.v (PV.bor 6 [(0,2)] 1 0 p.length))] (ap ((by simp):PV.bor 6 [(0,2)] 1 0 (List.map I p).length=PV.bor 6 [(0,2)] 1 0 p.length) an) (S_go 2 (S_a [(4,.ob),(0,.ob),(0,.ob),(2,.v (PV.own 1 (List.map I (p++[(↑c:Int)]))))] (ap ((by exact ble_of (by simp only [List.length_map,List.length_set,List.length_append,List.length_cons,List.length_nil,limit]<;>omega)):(0+p.length).ble (List.map I p).length=true) (ap ((by exact ble_of (by simp only [List.length_map,List.length_set,List.length_append,List.length_cons,List.length_nil,limit]<;>omega)):((List.map I p).length + [I (↑c:Int)].length).ble limit=true) (ap ((by exact beq_of (by simp<;>omega)):(0+p.length).beq (List.map I p).length=true) (ap ((by simp):PV.own 1 (List.map I p++[I (↑c:Int)])=PV.own 1 (List.map I (p++[(↑c:Int)]))) an)))) (S_go 2 (S_end (V_region (S_a [(1,.v (I (↑(c+1):Int)))] (ap ((wrapE (by omega) (by omega)):I (IntKind.i64.wrap ((↑c:Int)+1))=I (↑(c+1):Int)) an) (S_go 1 (S_end ?_)))))))))))) (fun k3=>(V_skip (V_region (S_a [(1,.v (I (↑(c+1):Int)))] (ap ((wrapE (by omega) (by omega)):I (IntKind.i64.wrap ((↑c:Int)+1))=I (↑(c+1):Int)) an) (S_go 1 (S_end ?_)))))))))))))))))))))))) (fun k1=>(V_exit 2 (V_region (S_go 1 (S_a [(1,.v (PV.bor 5 [(0,4)] 3 0 q.length))] (ap ((by simp):PV.bor 5 [(0,4)] 3 0 (List.map rndO q).length=PV.bor 5 [(0,4)] 3 0 q.length) an) (S_go 1 (S_a [(2,.yes)] (ap ((by exact beq_of (by simp<;>omega)):(Nat.beq 0 0&&(List.map I p).length.beq (List.map I p).length)=true) an) (S_a [(4,.ob),(0,.ob),(0,.ob),(2,.v (PV.own 3 (List.map rndO (q++[{w:=w1,s:=w2,may:=p}]))))] (ap ((by exact ble_of (by simp only [List.length_map,List.length_set,List.length_append,List.length_cons,List.length_nil,limit]<;>omega)):(0+q.length).ble (List.map rndO q).length=true) (ap ((by exact ble_of (by simp only [List.length_map,List.length_set,List.length_append,List.length_cons,List.length_nil,limit]<;>omega)):((List.map rndO q).length + [PV.agg [I w1,I w2,PV.own 1 (List.map I p)]].length).ble limit=true) (ap ((by exact beq_of (by simp<;>omega)):(0+q.length).beq (List.map rndO q).length=true) (ap ((by simp):PV.own 3 (List.map rndO q++[PV.agg [I w1,I w2,PV.own 1 (List.map I p)]])=PV.own 3 (List.map rndO (q++[{w:=w1,s:=w2,may:=p}]))) an)))) (S_go 2 (S_end (V_region (S_a [(1,.v (I (↑(i+1):Int)))] (ap ((wrapE (by omega) (by omega)):I (IntKind.i64.wrap ((↑i:Int)+1))=I (↑(i+1):Int)) an) (S_go 1 (S_end ?_)))))))))))))))))))
    · exact ⟨(c+1,p++[(c:Int)],a,t),⟨by omega,hap,hai,by omega,by omega,ha⟩,by simp only;omega,by kernel_rfl,by kernel_rfl⟩
    · exact ⟨(c+1,p++[(c:Int)],ringA l a,ringT l a t),⟨by omega,hap,hai,by omega,by omega,g1⟩,by simp only;omega,by kernel_rfl,by kernel_rfl⟩
    · exact ⟨(c+1,p,ringA l a,ringT l a t),⟨by omega,fun x hx=>by have:=hp1 x hx;omega,hp2,fun h=>hp3 (by omega),by omega,g1⟩,by simp only;omega,by kernel_rfl,by kernel_rfl⟩
    · refine ⟨(i+1,q++[⟨w1,w2,p⟩],a,t),⟨by omega,by simp [hq],fun r hr'=>?_,ha⟩,by simp only;omega,by kernel_rfl,by kernel_rfl⟩
      rcases List.mem_append.1 hr' with hr' | hr'
      · exact hr r hr'
      · rw [List.mem_singleton] at hr';subst hr'
        exact ⟨by simp only;omega,by simp only;omega,hp3 (by omega),fun x hx=>by have:=hp1 x hx;omega,hp2⟩
  · refine ⟨⟨cr,wd,st,fn,q⟩,a,t,rfl,rfl,⟨by simp only;omega,by simp only;omega,by simp only;omega,by simp only;omega,by simp only;omega,fun r h=>⟨(hr r h).w,(hr r h).s⟩,fun r h=>⟨(hr r h).n,(hr r h).may,(hr r h).inc⟩⟩,by simp only;omega,ha⟩
theorem f57 (b:Dk) (r:Nat) (hr:r<b.rs.length) (hg:Good b):FG 57 [boxV b,I r] (I (feeOf b (rnd b r))):=by
  refine gives_ofX Try.f57 ?_
  have h1:=hg.wd
  have h2:=hg.st
  have h3:=rnd_num hg hr
  have h4:0≤(b.rs.getD r default).w*b.wd∧(b.rs.getD r default).w*b.wd≤9*20:=⟨Int.mul_nonneg (by omega) (by omega),Int.mul_le_mul (by omega) (by omega) (by omega) (by omega)⟩
  have h5:0≤(b.rs.getD r default).s*(b.st+(b.rs.getD r default).w*b.wd)∧(b.rs.getD r default).s*(b.st+(b.rs.getD r default).w*b.wd)≤1000:=feeOf_bd hg h3
  refine V_seq (V_region (S_go 2 (S_end (V_seq (V_region (S_go 3 (S_a [(2,.v (PV.agg [I (b.rs.getD r default).w,I (b.rs.getD r default).s,PV.sl (List.map I (b.rs.getD r default).may)]))] (ap (getm (default) (by omega):(List.map rndV b.rs)[r]? = some (PV.agg [I (b.rs.getD r default).w,I (b.rs.getD r default).s,PV.sl (List.map I (b.rs.getD r default).may)])) an) (S_go 3 (S_end (V_seq (V_region (S_go 8 (S_a [(1,.v (I ((b.rs.getD r default).w*b.wd)))] (ap ((wrapE rfl (by omega)):I (IntKind.i64.wrap ((b.rs.getD r default).w*b.wd))=I ((b.rs.getD r default).w*b.wd)) an) (S_a [(1,.v (I (b.st+(b.rs.getD r default).w*b.wd)))] (ap ((wrapE rfl (by omega)):I (IntKind.i64.wrap (b.st+(b.rs.getD r default).w*b.wd))=I (b.st+(b.rs.getD r default).w*b.wd)) an) (S_a [(1,.v (I ((b.rs.getD r default).s*(b.st+(b.rs.getD r default).w*b.wd))))] (ap ((wrapE rfl (by omega)):I (IntKind.i64.wrap ((b.rs.getD r default).s*(b.st+(b.rs.getD r default).w*b.wd)))=I ((b.rs.getD r default).s*(b.st+(b.rs.getD r default).w*b.wd))) an) (S_go 1 (S_end (V_ret (E_a [] an (I ((b.rs.getD r default).s*(b.st+(b.rs.getD r default).w*b.wd))) ([]) rfl rfl)))))))))))))))))))
theorem f23_ex (l:List Int) (a:Nat) (t:Int) (b:Dk) (h:BellOk l a) (hg:Good b):∃ v h',Gives Try.prog feeH 23 [bellW,boxV b] [bellV l a t] v h'∧∃ s a' t',v = .own 1 (s.map I)∧h'=[bellV l a' t']∧ShareOk b s∧BellOk l a':=by
  refine gives_exX Try.f23 _ ?_
  have hlen:=hg.len
  have hcr:=hg.cr
  refine V_seq (V_region (S_go 2 (S_end (V_seq (V_region (S_go 1 (S_end (V_seq (V_seq (V_region (S_go 2 (S_a [(0,.n (b.rs.length))] (ap ((by simp):some (List.map rndV b.rs).length=some b.rs.length) an) (S_go 1 (S_end (V_block 0 ?_)))))))))))))))
  refine V_loopS (fun (i,s,a,t)=>i≤b.rs.length∧BellOk l a∧s.length=i∧(∀ r,r<i→has (rnd b r).may (s.getD r 0)=true∧0≤s.getD r 0∧s.getD r 0≤b.cr-1)) (fun (i,s,a,t)=>[(5,.own 1 (s.map I)),(11,I (i:Nat)),(50000000,bellV l a t)]) (fun (i,_,_,_)=>b.rs.length-i) ((0:Nat),([]:List Int),a,t) ⟨Nat.zero_le _,h,rfl,fun r hr=>absurd hr (Nat.not_lt_zero _)⟩ fun (i,s,a,t) ⟨hi,ha,hs,hm⟩=>?_
  have hma:i<b.rs.length→(b.rs.getD i default).may.length≠0∧(b.rs.getD i default).may.length≤4:=fun h=>⟨(good_may hg h).1,incr_len (good_may hg h).2.2 (good_may hg h).2.1 hcr⟩
  have hst:=strokeN_bd l a t ((((b.rs.getD i default).may.length-1:Nat):Int))
  have g1:=ringA_ok ha
  refine V_seq (V_region (S_go 1 (S_end (V_seq (V_dec ((↑i:Int)<(↑b.rs.length:Int)) (fun k0=>(V_skip (V_seq (V_block 1 (V_seq (V_region (S_a [(2,.v (PV.agg [I (b.rs.getD i default).w,I (b.rs.getD i default).s,PV.sl (List.map I (b.rs.getD i default).may)]))] (ap (getm (default) (by omega):(List.map rndV b.rs)[i]? = some (PV.agg [I (b.rs.getD i default).w,I (b.rs.getD i default).s,PV.sl (List.map I (b.rs.getD i default).may)])) an) (S_go 3 (S_end (V_region (S_go 6 (S_a [(0,.n ((b.rs.getD i default).may.length))] (ap ((by simp):some (List.map I (b.rs.getD i default).may).length=some (b.rs.getD i default).may.length) an) (S_a [(1,.v (I (↑((b.rs.getD i default).may.length-1):Int)))] (ap ((wrapE (by omega) (by omega)):I (IntKind.i64.wrap ((↑(b.rs.getD i default).may.length:Int)-1))=I (↑((b.rs.getD i default).may.length-1):Int)) an) (S_a [(6,.ret (I (strokeN l a t (↑((b.rs.getD i default).may.length-1):Int))) ([bellV l (ringA l a) (ringT l a t)]))] (ap (f24 (l) (a) (t) ((↑((b.rs.getD i default).may.length-1):Int)) (by omega) (by omega)) an) (S_a [(0,.ob),(1,.v (I ((b.rs.getD i default).may.getD (strokeN l a t (↑((b.rs.getD i default).may.length-1):Int)).toNat 0)))] (ap ((by exact dec_of (by omega)):decide (0≤strokeN l a t (↑((b.rs.getD i default).may.length-1):Int))=true) (ap (getm (0) (by omega):(List.map I (b.rs.getD i default).may)[(strokeN l a t (↑((b.rs.getD i default).may.length-1):Int)).toNat]? = some (I ((b.rs.getD i default).may.getD (strokeN l a t (↑((b.rs.getD i default).may.length-1):Int)).toNat 0))) an)) (S_go 2 (S_a [(4,.ob),(0,.ob),(0,.ob),(2,.v (PV.own 1 (List.map I (s++[(b.rs.getD i default).may.getD (strokeN l a t (↑((b.rs.getD i default).may.length-1):Int)).toNat 0]))))] (ap ((by exact ble_of (by simp only [List.length_map,List.length_set,List.length_append,List.length_cons,List.length_nil,limit]<;>omega)):(0+(List.map I s).length).ble (List.map I s).length=true) (ap ((by exact ble_of (by simp only [List.length_map,List.length_set,List.length_append,List.length_cons,List.length_nil,limit]<;>omega)):((List.map I s).length + [I ((b.rs.getD i default).may.getD (strokeN l a t (↑((b.rs.getD i default).may.length-1):Int)).toNat 0)].length).ble limit=true) (ap ((by exact beq_of (by simp<;>omega)):(0+(List.map I s).length).beq (List.map I s).length=true) (ap ((by simp):PV.own 1 (List.map I s++[I ((b.rs.getD i default).may.getD (strokeN l a t (↑((b.rs.getD i default).may.length-1):Int)).toNat 0)])=PV.own 1 (List.map I (s++[(b.rs.getD i default).may.getD (strokeN l a t (↑((b.rs.getD i default).may.length-1):Int)).toNat 0]))) an)))) (S_go 1 (S_end (V_region (S_a [(1,.v (I (↑(i+1):Int)))] (ap ((wrapE (by omega) (by omega)):I (IntKind.i64.wrap ((↑i:Int)+1))=I (↑(i+1):Int)) an) (S_go 1 (S_end ?_))))))))))))))))))))))) (fun k0=>(V_exit 0 (V_seq (V_region (S_go 1 (S_a [(2,.yes)] (ap ((by exact beq_of (by simp<;>omega)):(Nat.beq 0 0&&(List.map I s).length.beq (List.map I s).length)=true) an) (S_end (V_ret (E_q [(1,.yes),(1,.v (PV.own 1 (List.map I s)))] (ap ((by exact ble_of (by simp only [List.length_map,List.length_set,List.length_append,List.length_cons,List.length_nil,limit]<;>omega)):(0+(List.map I s).length).ble (List.map I s).length=true) (ap ((by simp [take_mapL]):PV.own 1 (List.take (List.map I s).length (List.drop 0 (List.map I s)))=PV.own 1 (List.map I s)) an)) (PV.own 1 (List.map I s)) ([(PV.agg [PV.sl (List.map u8 l),I (↑a:Int),PV.int IntKind.u32 t]).box]) ?_))))))))))))))
  · refine ⟨(i+1,s++[(b.rs.getD i default).may.getD (strokeN l a t (((b.rs.getD i default).may.length-1:Nat):Int)).toNat 0],ringA l a,ringT l a t),⟨by omega,g1,by simp [hs],fun r hr=>?_⟩,by simp only;omega,by kernel_rfl,by kernel_rfl⟩
    rcases Nat.lt_succ_iff_lt_or_eq.1 hr with hr | rfl
    · have:(s++[(b.rs.getD i default).may.getD (strokeN l a t (((b.rs.getD i default).may.length-1:Nat):Int)).toNat 0]).getD r 0=s.getD r 0:=by
        simp [List.getD_eq_getElem?_getD,List.getElem?_append_left (show r<s.length by omega)]
      rw [this];exact hm r hr
    · have hlt:(strokeN l a t (((b.rs.getD r default).may.length-1:Nat):Int)).toNat<(b.rs.getD r default).may.length:=by omega
      have:(s++[(b.rs.getD r default).may.getD (strokeN l a t (((b.rs.getD r default).may.length-1:Nat):Int)).toNat 0]).getD r 0=(b.rs.getD r default).may.getD (strokeN l a t (((b.rs.getD r default).may.length-1:Nat):Int)).toNat 0:=by
        simp [List.getD_eq_getElem?_getD,← hs]
      rw [this]
      exact ⟨has_t hlt rfl,getD_all (good_may hg (by omega)).2.1 _ hlt⟩
  · have hil:i=b.rs.length:=by omega
    refine ⟨s,a,t,rfl,rfl,⟨good_box hg,by omega,fun x hx=>?_,mayAll_t fun r hr=>(hm r (by omega)).1⟩,ha⟩
    obtain ⟨j,hj,rfl⟩:=List.getElem_of_mem hx
    have:=(hm j (by omega)).2
    rwa [getD_lt hj] at this
omit [Yo] in
theorem take_set' {l:List Int} {i n:Nat} {v:Int}:(l.take n).set i v=(l.set i v).take n:=by rw [List.take_set]
omit [Yo] in
theorem take_getD {l:List Int} {i n:Nat} (h:i<n):(l.take n).getD i 0=l.getD i 0:=by
  simp only [List.getD_eq_getElem?_getD,List.getElem?_take,h,if_true]
theorem f25_1 (b:Dk) (s:List Int) (h:ShareOk b s):FG 25 [boxV b,ints s] (.own 1 ((feesL b s).map I)):=by
  have hg:=box_good h.box
  have hcr:=hg.cr
  have hlen:=hg.len
  have hsl:=h.len
  have hs:shareErr b s=0:=by
    have h2:(!s.all (fun x=>decide (0≤x)&&decide (x≤b.cr-1)))=false:=by
      simp only [Bool.not_eq_false',List.all_eq_true]
      intro x hx;have:=h.rng x hx;simp;omega
    simp only [shareErr,h.box,h.len,h2,h.may,if_true];rfl
  have hf:feesL b s=(addF (feesOf b) s s.length).take b.cr.toNat:=by simp only [feesL,hs,if_true]
  rw [hf]
  have h0:List.replicate b.cr.toNat 0=(addF (feesOf b) s 0).take b.cr.toNat:=by
    obtain hc | hc | hc | hc:b.cr=1∨b.cr=2∨b.cr=3∨b.cr=4:=by omega
    all_goals rw [hc];rfl
  refine gives_ofX Try.f25 ?_
  refine V_seq (V_region (S_go 2 (S_end (V_seq (V_region (S_go 2 (S_a [(0,.ob),(1,.ob),(1,.ob),(0,.ob),(1,.v (PV.own 1 (List.map I (List.replicate b.cr.toNat 0))))] (ap ((by exact dec_of (by omega)):decide (0≤b.cr)=true) (ap ((by exact dec_of (by omega)):decide (0≤b.cr)=true) (ap ((by exact dec_of (by omega)):decide (b.cr.toNat≤b.cr.toNat)=true) (ap ((by exact dec_of (by simp [limit]<;>omega)):decide (b.cr.toNat≤limit)=true) (ap ((by simp):PV.own 1 (List.replicate b.cr.toNat (I 0))=PV.own 1 (List.map I (List.replicate b.cr.toNat 0))) an))))) (S_go 1 (S_end (V_seq (V_seq (V_region (S_go 1 (S_a [(0,.n (s.length))] (ap ((by simp):some (List.map I s).length=some s.length) an) (S_go 1 (S_end (V_block 0 ?_)))))))))))))))))
  refine V_loopS (fun (i,o)=>i≤s.length∧o=(addF (feesOf b) s i).take b.cr.toNat) (fun (i,o)=>[(5,.own 1 (o.map I)),(13,I (i:Nat))]) (fun (i,_)=>s.length-i) ((0:Nat),List.replicate b.cr.toNat 0) ⟨Nat.zero_le _,h0⟩ fun (i,o) ⟨hi,ho⟩=>?_
  have hol:o.length=b.cr.toNat:=by rw [ho,List.length_take,addF_len];omega
  have hx:i<s.length→0≤s.getD i 0∧s.getD i 0≤b.cr-1:=fun hi=>getD_all h.rng i hi
  have hmy:i<s.length→has (rnd b i).may (s.getD i 0)=true:=fun hi=>mayAll_get h.may hi
  have hbd:=addF_bd (share:=s) (feesOf_bd hg) i (s.getD i 0).toNat
  have hod:i<s.length→o.getD (s.getD i 0).toNat 0=(addF (feesOf b) s i).getD (s.getD i 0).toNat 0:=fun hi=>by rw [ho,take_getD (by have:=hx hi;omega)]
  have hfo:i<b.rs.length→0≤feeOf b (rnd b i)∧feeOf b (rnd b i)≤1000:=fun h=>feeOf_bd hg (rnd_num hg h)
  have hml:i<b.rs.length→(b.rs.getD i default).may.length≤4:=fun h=>incr_len (good_may hg h).2.2 (good_may hg h).2.1 hcr
  refine V_seq (V_region (S_go 1 (S_end (V_seq (V_dec ((↑i:Int)<(↑s.length:Int)) (fun k0=>(V_skip (V_seq (V_block 1 (V_seq (V_region (S_go 1 (S_a [(2,.v (I (s.getD i 0)))] (ap (getm (0) (by omega):(List.map I s)[i]? = some (I (s.getD i 0))) an) (S_go 3 (S_end (V_seq (V_seq (V_region (S_go 3 (S_a [(0,.n (b.rs.length))] (ap ((by simp):some (List.map rndV b.rs).length=some b.rs.length) an) (S_go 2 (S_decF 23 ((↑i:Int)≥(↑b.rs.length:Int)) (by omega) (S_go 3 (S_a [(2,.v (PV.agg [I (b.rs.getD i default).w,I (b.rs.getD i default).s,PV.sl (List.map I (b.rs.getD i default).may)]))] (ap (getm (default) (by omega):(List.map rndV b.rs)[i]? = some (PV.agg [I (b.rs.getD i default).w,I (b.rs.getD i default).s,PV.sl (List.map I (b.rs.getD i default).may)])) an) (S_go 3 (S_a [(8,.ret (PV.bool (has (b.rs.getD i default).may (s.getD i 0))) ([]))] (ap (f87 ((b.rs.getD i default).may) (s.getD i 0) (by omega)) an) (S_go 2 (S_end (V_if (!has (b.rs.getD i default).may (s.getD i 0)) (fun k1=>(V_seq (V_region (S_go 1 (S_end (V_ret (E_a [] an (PV.nils 1) ([]) ?_ rfl))))))) (fun k1=>(V_skip (V_region (S_go 2 (S_a [(0,.ob),(1,.ob),(1,.n ((s.getD i 0).toNat))] (ap ((by exact dec_of (by omega)):decide (0≤s.getD i 0)=true) (ap ((by exact dec_of (by simp only [List.length_map,List.length_set,List.length_append,List.length_cons,List.length_nil]<;>omega)):decide ((s.getD i 0).toNat<(List.map I o).length)=true) (ap ((by simp):some (0+(s.getD i 0).toNat)=some (s.getD i 0).toNat) an))) (S_a [(0,.cs false ([I (o.getD (s.getD i 0).toNat 0)]))] (ap (rc_at (q:=PV.own 1 (List.map I o)) (xs:=List.map I o) (x:=I (o.getD (s.getD i 0).toNat 0)) rfl (getm (0) (by omega)):readCells 5 (PV.own 1 (List.map I o)) [] (s.getD i 0).toNat 0 1=some (false,[I (o.getD (s.getD i 0).toNat 0)])) an) (S_go 2 (S_a [(8,.ret (I (feeOf b (rnd b i))) ([]))] (ap (f57 (b) (i) (by first | omega | (simp<;>omega)) (by omega)) an) (S_a [(1,.v (I (o.getD (s.getD i 0).toNat 0+feeOf b (rnd b i))))] (ap ((wrapE rfl (by omega)):I (IntKind.i64.wrap (o.getD (s.getD i 0).toNat 0+feeOf b (rnd b i)))=I (o.getD (s.getD i 0).toNat 0+feeOf b (rnd b i))) an) (S_a [(0,.ob),(1,.ob),(1,.n ((s.getD i 0).toNat))] (ap ((by exact dec_of (by omega)):decide (0≤s.getD i 0)=true) (ap ((by exact dec_of (by simp only [List.length_map,List.length_set,List.length_append,List.length_cons,List.length_nil]<;>omega)):decide ((s.getD i 0).toNat<(List.map I o).length)=true) (ap ((by simp):some (0+(s.getD i 0).toNat)=some (s.getD i 0).toNat) an))) (S_a [(8,.root (PV.own 1 (List.map I (o.set (s.getD i 0).toNat (o.getD (s.getD i 0).toNat 0+feeOf b (rnd b i))))) true)] (ap (wa_at (getm (0) (by omega)) map_set':writeAt (PV.own 1 (List.map I o)) [] (s.getD i 0).toNat 0 (I (o.getD (s.getD i 0).toNat 0+feeOf b (rnd b i))).cells=some (PV.own 1 (List.map I (o.set (s.getD i 0).toNat (o.getD (s.getD i 0).toNat 0+feeOf b (rnd b i)))))∧keptView (PV.own 1 (List.map I o)) (PV.own 1 (List.map I (o.set (s.getD i 0).toNat (o.getD (s.getD i 0).toNat 0+feeOf b (rnd b i))))) []=true) an) (S_end (V_region (S_a [(1,.v (I (↑(i+1):Int)))] (ap ((wrapE (by omega) (by omega)):I (IntKind.i64.wrap ((↑i:Int)+1))=I (↑(i+1):Int)) an) (S_go 1 (S_end ?_)))))))))))))))))))))))))))))))))))))))) (fun k0=>(V_exit 0 (V_seq (V_seq (V_region (S_go 1 (S_a [(0,.n (s.length))] (ap ((by simp):some (List.map I s).length=some s.length) an) (S_go 2 (S_a [(0,.n (b.rs.length))] (ap ((by simp):some (List.map rndV b.rs).length=some b.rs.length) an) (S_go 1 (S_end (V_ndecF ((↑s.length:Int)=(↑b.rs.length:Int)) (by omega) (V_skip (V_seq (V_region (S_go 1 (S_a [(2,.yes)] (ap ((by exact beq_of (by simp<;>omega)):(Nat.beq 0 0&&(List.map I o).length.beq (List.map I o).length)=true) an) (S_end (V_ret (E_a [(1,.yes),(1,.v (PV.own 1 (List.map I o)))] (ap ((by exact ble_of (by simp only [List.length_map,List.length_set,List.length_append,List.length_cons,List.length_nil,limit]<;>omega)):(0+(List.map I o).length).ble (List.map I o).length=true) (ap ((by simp [take_mapL]):PV.own 1 (List.take (List.map I o).length (List.drop 0 (List.map I o)))=PV.own 1 (List.map I o)) an)) (PV.own 1 (List.map I o)) ([]) ?_ rfl)))))))))))))))))))))))))
  · have:=hmy (by omega)
    unfold rnd at this
    rw [this] at k1;cases k1
  · refine ⟨(i+1,o.set (s.getD i 0).toNat (o.getD (s.getD i 0).toNat 0+feeOf b (rnd b i))),⟨by omega,?_⟩,by simp only;omega,by kernel_rfl,by kernel_rfl⟩
    rw [hod (by omega),ho,take_set',addF,feesOf_at (by omega)];rfl
  · rw [ho,show i=s.length by omega]
end
end Go.Eng
set_option maxRecDepth 10000
set_option maxHeartbeats 4000000
namespace Go.Eng
open Go Go.Proofs
def costL (b:Dk) (l:List Int):List Int:=l.map fun r=>(feesOf b).getD r.toNat 0
theorem costL_app {b:Dk} {l:List Int} {i:Nat} (h:i<l.length):costL b (l.take (i+1))=costL b (l.take i)++[(feesOf b).getD (l.getD i 0).toNat 0]:=by
  rw [List.take_add_one,List.getElem?_eq_getElem h,getD_lt h];simp only [costL,List.map_append,Option.toList,List.map_cons,List.map_nil]
theorem costL_bd {b:Dk} (hg:Good b) {l:List Int}:∀ x∈costL b l,0≤x∧x≤1000:=fun x hx=>by
  obtain ⟨r,_,rfl⟩:=List.mem_map.1 hx
  exact feesOf_bd hg _
theorem costL_len {b:Dk} {l:List Int}:(costL b l).length=l.length:=by simp [costL]
theorem costs_bd {b:Dk} (hg:Good b) {l:List Int}:0≤costs b l∧costs b l≤1000*l.length:=by
  have h1:=sum_nn fun x hx=>(costL_bd hg (l:=l) x hx).1
  have h2:=sum_bd (B:=1000) (l:=costL b l) fun x hx=>by have:=costL_bd hg (l:=l) x hx;omega
  rw [costL_len] at h2
  exact ⟨h1,h2.2⟩
theorem man_next {b:Dk} {l:List Int} {i c:Nat} (h:i<l.length):manB b (l.take (i+1)) c=(manB b (l.take i) c||has (rnd b (l.getD i 0).toNat).may (c:Int)):=by
  rw [List.take_add_one,List.getElem?_eq_getElem h,getD_lt h];simp only [manB,List.any_append,Option.toList,List.any_cons,List.any_nil,Bool.or_false]
theorem has_next {l:List Int} {j:Nat} {v:Int} (h:j<l.length):has (l.take (j+1)) v=(has (l.take j) v||decide (v=l.getD j 0)):=by
  rw [List.take_add_one,List.getElem?_eq_getElem h,getD_lt h];simp only [has,List.any_append,Option.toList,List.any_cons,List.any_nil,Bool.or_false]
theorem getD_setB {l:List Bool} {i j:Nat} {v:Bool}:(l.set i v).getD j false=if i=j∧j<l.length then v else l.getD j false:=by
  simp only [List.getD_eq_getElem?_getD,List.getElem?_set]
  by_cases h:i=j
  · subst h
    by_cases h2:i<l.length
    · simp [h2]
    · simp [h2]
  · simp [h]
theorem four_ofB {l:List Bool} (h:l.length=4):∃ a b c d,l=[a,b,c,d]:=by
  match l,h with
  | [a,b,c,d],_=>exact ⟨a,b,c,d,rfl⟩
def menK (b:Dk) (l:List Int) (k:Nat):Nat:=((List.range k).filter (manB b l)).length
theorem menK_succ {b:Dk} {l:List Int} {k:Nat}:menK b l (k+1)=menK b l k+(if manB b l k then 1 else 0):=by
  simp only [menK,List.range_succ,List.filter_append,List.length_append,List.filter_cons,List.filter_nil]
  split<;>rfl
theorem menK_le {b:Dk} {l:List Int} {k:Nat}:menK b l k≤k:=by
  have:=List.length_filter_le (manB b l) (List.range k)
  simpa [menK] using this
theorem tdiv_bd {s n:Int} (h0:0≤s) (hn:1≤n):0≤s.tdiv n∧s.tdiv n≤s:=by
  rw [Int.tdiv_eq_ediv_of_nonneg h0]
  exact ⟨Int.ediv_nonneg h0 (by omega),Int.ediv_le_self _ h0⟩
section
variable [Yo]
theorem f119 (b:Dk) (l:List Int) (hg:Good b) (hl:l.length≤12) (hr:∀ x∈l,0≤x∧x≤(b.rs.length:Int)-1):FG 119 [.ref (deskV b (feesOf b)),ints l] (I (bndS b l)):=by
  refine gives_ofX Try.f119 ?_
  have hfl:(feesOf b).length=b.rs.length:=feesOf_len
  have hcr:=hg.cr
  refine V_seq (V_region (S_go 1 (S_end (V_seq (V_region (S_go 1 (S_end (V_seq (V_region (S_go 1 (S_end (V_seq (V_seq (V_region (S_go 1 (S_a [(0,.n (l.length))] (ap ((by simp):some (List.map I l).length=some l.length) an) (S_go 1 (S_end (V_block 0 ?_)))))))))))))))))))
  refine V_loopS (fun (i,a,M)=>i≤l.length∧a=costL b (l.take i)∧M.length=4∧∀ c,c<4→M.getD c false=manB b (l.take i) c) (fun (i,a,M)=>[(5,.own 1 (a.map I)),(6,.box (.agg (M.map PV.bool))),(16,I (i:Nat))]) (fun (i,_,_)=>l.length-i) ((0:Nat),([]:List Int),[false,false,false,false]) ⟨Nat.zero_le _,rfl,rfl,fun c hc=>by match c,hc with | 0,_ | 1,_ | 2,_ | 3,_=>rfl⟩ fun (i,a,M) ⟨hi,ha,hM,hm⟩=>?_
  have hal:a.length=i:=by rw [ha,costL_len,List.length_take];omega
  by_cases hil:i<l.length
  · have hx:=getD_all hr i hil
    have hmay:=good_may hg (i:=(l.getD i 0).toNat) (by omega)
    have hml:=incr_len hmay.2.2 hmay.2.1 hcr
    refine V_seq (V_region (S_go 1 (S_end (V_seq (V_decT ((↑i:Int)<(↑l.length:Int)) (by omega) (V_skip (V_seq (V_block 1 (V_seq (V_region (S_a [(2,.v (I (l.getD i 0)))] (ap (getm (0) (by omega):(List.map I l)[i]? = some (I (l.getD i 0))) an) (S_go 2 (S_end (V_seq (V_region (S_go 6 (S_a [(0,.ob),(1,.v (I ((feesOf b).getD (l.getD i 0).toNat 0)))] (ap ((by exact dec_of (by omega)):decide (0≤l.getD i 0)=true) (ap (getm (0) (by omega):(List.map I (feesOf b))[(l.getD i 0).toNat]? = some (I ((feesOf b).getD (l.getD i 0).toNat 0))) an)) (S_go 2 (S_a [(4,.ob),(0,.ob),(0,.ob),(2,.v (PV.own 1 (List.map I (a++[(feesOf b).getD (l.getD i 0).toNat 0]))))] (ap ((by exact ble_of (by simp only [List.length_map,List.length_set,List.length_append,List.length_cons,List.length_nil,limit]<;>omega)):(0+(List.map I a).length).ble (List.map I a).length=true) (ap ((by exact ble_of (by simp only [List.length_map,List.length_set,List.length_append,List.length_cons,List.length_nil,limit]<;>omega)):((List.map I a).length + [I ((feesOf b).getD (l.getD i 0).toNat 0)].length).ble limit=true) (ap ((by exact beq_of (by simp<;>omega)):(0+(List.map I a).length).beq (List.map I a).length=true) (ap ((by simp):PV.own 1 (List.map I a++[I ((feesOf b).getD (l.getD i 0).toNat 0)])=PV.own 1 (List.map I (a++[(feesOf b).getD (l.getD i 0).toNat 0]))) an)))) (S_go 1 (S_end (V_seq (V_region (S_go 6 (S_a [(0,.ob),(1,.v (PV.agg [I (b.rs.getD (l.getD i 0).toNat default).w,I (b.rs.getD (l.getD i 0).toNat default).s,PV.sl (List.map I (b.rs.getD (l.getD i 0).toNat default).may)]))] (ap ((by exact dec_of (by omega)):decide (0≤l.getD i 0)=true) (ap (getm (default) (by omega):(List.map rndV b.rs)[(l.getD i 0).toNat]? = some (PV.agg [I (b.rs.getD (l.getD i 0).toNat default).w,I (b.rs.getD (l.getD i 0).toNat default).s,PV.sl (List.map I (b.rs.getD (l.getD i 0).toNat default).may)])) an)) (S_go 2 (S_a [(0,.n ((b.rs.getD (l.getD i 0).toNat default).may.length))] (ap ((by simp):some (List.map I (b.rs.getD (l.getD i 0).toNat default).may).length=some (b.rs.getD (l.getD i 0).toNat default).may.length) an) (S_go 1 (S_end (V_block 2 ?_))))))))))))))))))))))))))))))
    refine V_loopS (fun (j,N)=>j≤(b.rs.getD (l.getD i 0).toNat default).may.length∧N.length=4∧∀ c,c<4→N.getD c false=(manB b (l.take i) c||has ((b.rs.getD (l.getD i 0).toNat default).may.take j) (c:Int))) (fun (j,N)=>[(6,.box (.agg (N.map PV.bool))),(40,I (j:Nat))]) (fun (j,_)=>(b.rs.getD (l.getD i 0).toNat default).may.length-j) ((0:Nat),M) ⟨Nat.zero_le _,hM,fun c hc=>by rw [hm c hc];simp [has]⟩ (hs:=by exact Eq.trans (by kernel_rfl:_=([(0,(PV.agg [I b.cr,I b.wd,I b.st,I b.fn,PV.sl (List.map rndV b.rs),PV.sl (List.map I (feesOf b))]).ref),(1,PV.sl (List.map I l)),(5,PV.own 1 (List.map I (a++[(feesOf b).getD (l.getD i 0).toNat 0]))),(6,(PV.agg (mapWs (lose 5 []) (mapWs (lose 29 []) (mapWs (lose 28 []) (List.map PV.bool M))))).box),(14,PV.sl (List.map I l)),(15,I (↑l.length:Int)),(16,I (↑i:Int)),(17,PV.bool (decide ((↑i:Int)<(↑l.length:Int)))),(30,(PV.agg [I b.cr,I b.wd,I b.st,I b.fn,PV.sl (List.map rndV b.rs),PV.sl (List.map I (feesOf b))]).ref),(31,(PV.agg [I b.cr,I b.wd,I b.st,I b.fn,PV.sl (List.map rndV b.rs),PV.sl (List.map I (feesOf b))]).ref),(32,(PV.agg [I b.cr,I b.wd,I b.st,I b.fn,PV.sl (List.map rndV b.rs)]).ref),(33,(PV.sl (List.map rndV b.rs)).ref),(34,PV.sl (List.map rndV b.rs)),(35,I (l.getD i 0)),(36,(PV.agg [I (b.rs.getD (l.getD i 0).toNat default).w,I (b.rs.getD (l.getD i 0).toNat default).s,PV.sl (List.map I (b.rs.getD (l.getD i 0).toNat default).may)]).ref),(37,(PV.sl (List.map I (b.rs.getD (l.getD i 0).toNat default).may)).ref),(38,PV.sl (List.map I (b.rs.getD (l.getD i 0).toNat default).may)),(39,I (↑(b.rs.getD (l.getD i 0).toNat default).may.length:Int)),(40,I 0)])) (Eq.trans (by simp only [mapWs_I,mapWs_B]:_=([(0,(PV.agg [I b.cr,I b.wd,I b.st,I b.fn,PV.sl (List.map rndV b.rs),PV.sl (List.map I (feesOf b))]).ref),(1,PV.sl (List.map I l)),(5,PV.own 1 (List.map I (a++[(feesOf b).getD (l.getD i 0).toNat 0]))),(6,(PV.agg (List.map PV.bool M)).box),(14,PV.sl (List.map I l)),(15,I (↑l.length:Int)),(16,I (↑i:Int)),(17,PV.bool (decide ((↑i:Int)<(↑l.length:Int)))),(30,(PV.agg [I b.cr,I b.wd,I b.st,I b.fn,PV.sl (List.map rndV b.rs),PV.sl (List.map I (feesOf b))]).ref),(31,(PV.agg [I b.cr,I b.wd,I b.st,I b.fn,PV.sl (List.map rndV b.rs),PV.sl (List.map I (feesOf b))]).ref),(32,(PV.agg [I b.cr,I b.wd,I b.st,I b.fn,PV.sl (List.map rndV b.rs)]).ref),(33,(PV.sl (List.map rndV b.rs)).ref),(34,PV.sl (List.map rndV b.rs)),(35,I (l.getD i 0)),(36,(PV.agg [I (b.rs.getD (l.getD i 0).toNat default).w,I (b.rs.getD (l.getD i 0).toNat default).s,PV.sl (List.map I (b.rs.getD (l.getD i 0).toNat default).may)]).ref),(37,(PV.sl (List.map I (b.rs.getD (l.getD i 0).toNat default).may)).ref),(38,PV.sl (List.map I (b.rs.getD (l.getD i 0).toNat default).may)),(39,I (↑(b.rs.getD (l.getD i 0).toNat default).may.length:Int)),(40,I (↑0:Int))])) (by kernel_rfl))) fun (j,N) ⟨hj,hN,hn⟩=>?_
    by_cases hjl:j<(b.rs.getD (l.getD i 0).toNat default).may.length
    · have hc:=getD_all hmay.2.1 j hjl
      refine V_seq (V_region (S_go 1 (S_end (V_seq (V_decT ((↑j:Int)<(↑(b.rs.getD (l.getD i 0).toNat default).may.length:Int)) (by omega) (V_skip (V_seq (V_block 3 (V_seq (V_region (S_a [(2,.v (I ((b.rs.getD (l.getD i 0).toNat default).may.getD j 0)))] (ap (getm (0) (by omega):(List.map I (b.rs.getD (l.getD i 0).toNat default).may)[j]? = some (I ((b.rs.getD (l.getD i 0).toNat default).may.getD j 0))) an) (S_go 2 (S_end (V_region (S_go 1 (S_a [(0,.ob),(1,.ob)] (ap ((by exact dec_of (by omega)):decide (0≤(b.rs.getD (l.getD i 0).toNat default).may.getD j 0)=true) (ap ((by exact dec_of (by omega)):decide (((b.rs.getD (l.getD i 0).toNat default).may.getD j 0).toNat<4)=true) an)) (S_a [(7,.root ((PV.agg (List.map PV.bool (N.set ((b.rs.getD (l.getD i 0).toNat default).may.getD j 0).toNat true))).box) true)] (ap (wa_box (c:=((b.rs.getD (l.getD i 0).toNat default).may.getD j 0).toNat) (by first | rfl | exact off_c1 (by kernel_rfl) | exact off_c2 (by kernel_rfl) | (simp;done)) (by omega):writeAt (PV.agg (List.map PV.bool N)).box [] 0 (0+((b.rs.getD (l.getD i 0).toNat default).may.getD j 0).toNat*(fun x=>x.size) Try.prog.types[4]) (PV.bool true).cells=some (PV.agg (List.map PV.bool (N.set ((b.rs.getD (l.getD i 0).toNat default).may.getD j 0).toNat true))).box∧keptView (PV.agg (List.map PV.bool N)).box (PV.agg (List.map PV.bool (N.set ((b.rs.getD (l.getD i 0).toNat default).may.getD j 0).toNat true))).box []=true) an) (S_end (V_region (S_a [(1,.v (I (↑(j+1):Int)))] (ap ((wrapE (by omega) (by omega)):I (IntKind.i64.wrap ((↑j:Int)+1))=I (↑(j+1):Int)) an) (S_go 1 (S_end ?_))))))))))))))))))))))
      refine ⟨(j+1,N.set ((b.rs.getD (l.getD i 0).toNat default).may.getD j 0).toNat true),⟨by omega,by simpa using hN,fun c hc'=>?_⟩,by simp only;omega,by kernel_rfl,by kernel_rfl⟩
      rw [getD_setB,has_next hjl]
      by_cases e:((b.rs.getD (l.getD i 0).toNat default).may.getD j 0).toNat=c
      · rw [if_pos ⟨e,by omega⟩,decide_eq_true (by omega:(c:Int)=_)];simp
      · rw [if_neg (fun h=>e h.1),hn c hc',decide_eq_false (by omega:¬ (c:Int)=_)];simp
    · refine V_seq (V_region (S_go 1 (S_end (V_seq (V_decF ((↑j:Int)<(↑(b.rs.getD (l.getD i 0).toNat default).may.length:Int)) (by omega) (V_exit 2 (V_region (S_a [(1,.v (I (↑(i+1):Int)))] (ap ((wrapE (by omega) (by omega)):I (IntKind.i64.wrap ((↑i:Int)+1))=I (↑(i+1):Int)) an) (S_go 1 (S_end ?_))))))))))
      refine ⟨(i+1,a++[(feesOf b).getD (l.getD i 0).toNat 0],N),⟨by omega,by rw [costL_app hil,ha],hN,fun c hc=>?_⟩,by simp only;omega,by kernel_rfl,by kernel_rfl⟩
      rw [man_next hil,hn c hc,List.take_of_length_le (show (b.rs.getD (l.getD i 0).toNat default).may.length≤j by omega)];rfl
  · rw [List.take_of_length_le (by omega)] at ha hm
    have hsum:=costs_bd hg (l:=l)
    have hab:∀ x∈a,-1000000000000≤x∧x≤1000000000000:=fun x hx=>by rw [ha] at hx;have:=costL_bd hg x hx;omega
    have hs:a.sum=costs b l:=by rw [ha];rfl
    obtain ⟨m0,m1,m2,m3,rfl⟩:=four_ofB hM
    have e0:m0=manB b l 0:=hm 0 (by omega)
    have e1:m1=manB b l 1:=hm 1 (by omega)
    have e2:m2=manB b l 2:=hm 2 (by omega)
    have e3:m3=manB b l 3:=hm 3 (by omega)
    clear hm hM
    refine V_seq (V_region (S_go 1 (S_end (V_seq (V_decF ((↑i:Int)<(↑l.length:Int)) (by omega) (V_exit 0 (V_seq (V_region (S_go 1 (S_end (V_seq (V_seq (V_region (S_go 2 (S_end (V_block 4 ?_))))))))))))))))
    refine V_loopS (fun (k,n)=>k≤4∧n=menK b l k) (fun (k,n)=>[(11,I (n:Nat)),(49,I (k:Nat))]) (fun (k,_)=>4-k) ((0:Nat),(0:Nat)) ⟨by omega,rfl⟩ fun (k,n) ⟨hk,hn⟩=>?_
    have hn4:n≤4:=by rw [hn];have:=menK_le (b:=b) (l:=l) (k:=k);omega
    obtain rfl | rfl | rfl | rfl | rfl:k=0∨k=1∨k=2∨k=3∨k=4:=by omega
    · cases hc:m0
      · subst hc
        refine V_seq (V_region (S_go 1 (S_end (V_seq (V_true (V_skip (V_seq (V_block 5 (V_seq (V_region (S_go 2 (S_end (V_seq (V_region (S_go 1 (S_end (V_false (V_skip (V_region (S_go 2 (S_end ?_)))))))))))))))))))))
        exact ⟨(1,n),⟨by omega,by rw [menK_succ,← e0,hn];rfl⟩,by simp only;omega,by kernel_rfl,by kernel_rfl⟩
      · subst hc
        refine V_seq (V_region (S_go 1 (S_end (V_seq (V_true (V_skip (V_seq (V_block 5 (V_seq (V_region (S_go 2 (S_end (V_seq (V_region (S_go 1 (S_end (V_true (V_region (S_go 1 (S_a [(1,.v (I (↑(n+1):Int)))] (ap ((wrapE (by omega) (by omega)):I (IntKind.i64.wrap ((↑n:Int)+1))=I (↑(n+1):Int)) an) (S_go 1 (S_end (V_region (S_go 2 (S_end ?_)))))))))))))))))))))))))
        exact ⟨(1,n+1),⟨by omega,by rw [menK_succ,← e0,hn];rfl⟩,by simp only;omega,by kernel_rfl,by kernel_rfl⟩
    · cases hc:m1
      · subst hc
        refine V_seq (V_region (S_go 1 (S_end (V_seq (V_true (V_skip (V_seq (V_block 5 (V_seq (V_region (S_go 2 (S_end (V_seq (V_region (S_go 1 (S_end (V_false (V_skip (V_region (S_go 2 (S_end ?_)))))))))))))))))))))
        exact ⟨(2,n),⟨by omega,by rw [menK_succ,← e1,hn];rfl⟩,by simp only;omega,by kernel_rfl,by kernel_rfl⟩
      · subst hc
        refine V_seq (V_region (S_go 1 (S_end (V_seq (V_true (V_skip (V_seq (V_block 5 (V_seq (V_region (S_go 2 (S_end (V_seq (V_region (S_go 1 (S_end (V_true (V_region (S_go 1 (S_a [(1,.v (I (↑(n+1):Int)))] (ap ((wrapE (by omega) (by omega)):I (IntKind.i64.wrap ((↑n:Int)+1))=I (↑(n+1):Int)) an) (S_go 1 (S_end (V_region (S_go 2 (S_end ?_)))))))))))))))))))))))))
        exact ⟨(2,n+1),⟨by omega,by rw [menK_succ,← e1,hn];rfl⟩,by simp only;omega,by kernel_rfl,by kernel_rfl⟩
    · cases hc:m2
      · subst hc
        refine V_seq (V_region (S_go 1 (S_end (V_seq (V_true (V_skip (V_seq (V_block 5 (V_seq (V_region (S_go 2 (S_end (V_seq (V_region (S_go 1 (S_end (V_false (V_skip (V_region (S_go 2 (S_end ?_)))))))))))))))))))))
        exact ⟨(3,n),⟨by omega,by rw [menK_succ,← e2,hn];rfl⟩,by simp only;omega,by kernel_rfl,by kernel_rfl⟩
      · subst hc
        refine V_seq (V_region (S_go 1 (S_end (V_seq (V_true (V_skip (V_seq (V_block 5 (V_seq (V_region (S_go 2 (S_end (V_seq (V_region (S_go 1 (S_end (V_true (V_region (S_go 1 (S_a [(1,.v (I (↑(n+1):Int)))] (ap ((wrapE (by omega) (by omega)):I (IntKind.i64.wrap ((↑n:Int)+1))=I (↑(n+1):Int)) an) (S_go 1 (S_end (V_region (S_go 2 (S_end ?_)))))))))))))))))))))))))
        exact ⟨(3,n+1),⟨by omega,by rw [menK_succ,← e2,hn];rfl⟩,by simp only;omega,by kernel_rfl,by kernel_rfl⟩
    · cases hc:m3
      · subst hc
        refine V_seq (V_region (S_go 1 (S_end (V_seq (V_true (V_skip (V_seq (V_block 5 (V_seq (V_region (S_go 2 (S_end (V_seq (V_region (S_go 1 (S_end (V_false (V_skip (V_region (S_go 2 (S_end ?_)))))))))))))))))))))
        exact ⟨(4,n),⟨by omega,by rw [menK_succ,← e3,hn];rfl⟩,by simp only;omega,by kernel_rfl,by kernel_rfl⟩
      · subst hc
        refine V_seq (V_region (S_go 1 (S_end (V_seq (V_true (V_skip (V_seq (V_block 5 (V_seq (V_region (S_go 2 (S_end (V_seq (V_region (S_go 1 (S_end (V_true (V_region (S_go 1 (S_a [(1,.v (I (↑(n+1):Int)))] (ap ((wrapE (by omega) (by omega)):I (IntKind.i64.wrap ((↑n:Int)+1))=I (↑(n+1):Int)) an) (S_go 1 (S_end (V_region (S_go 2 (S_end ?_)))))))))))))))))))))))))
        exact ⟨(4,n+1),⟨by omega,by rw [menK_succ,← e3,hn];rfl⟩,by simp only;omega,by kernel_rfl,by kernel_rfl⟩
    · have hn':n=menN b l:=hn
      by_cases hz:n=0
      · refine V_seq (V_region (S_go 1 (S_end (V_seq (V_false (V_exit 4 (V_seq (V_seq (V_region (S_go 2 (S_end (V_decT ((↑n:Int)=0) (by omega) (V_seq (V_region (S_go 1 (S_end (V_ret (E_a [] an (I 0) ([]) ?_ rfl))))))))))))))))))
        have e:bndS b l=0:=by unfold bndS;rw [if_pos (by omega)]
        rw [e]
      · have hq:=tdiv_bd (s:=a.sum+(n:Nat)-1) (n:=(n:Nat)) (by omega) (by omega)
        refine V_seq (V_region (S_go 1 (S_end (V_seq (V_false (V_exit 4 (V_seq (V_seq (V_region (S_go 2 (S_end (V_decF ((↑n:Int)=0) (by omega) (V_skip (V_seq (V_region (S_go 1 (S_a [(3,.ob),(0,.v (PV.sl (List.map I a))),(2,.ret (I a.sum) ([]))] (ap ((by exact ble_of (by simp only [List.length_map,List.length_set,List.length_append,List.length_cons,List.length_nil,limit]<;>omega)):(0+(List.map I a).length).ble (List.map I a).length=true) (ap ((sl_ext (freezes_all (freezes_mapH _))):PV.sl (freezes (List.take (List.map I a).length (List.drop 0 (List.map I a))))=PV.sl (List.map I a)) (ap (f81a (a) (by omega) (by omega)) an))) (S_go 1 (S_a [(1,.v (I (a.sum+(↑n:Int))))] (ap ((wrapE rfl (by omega)):I (IntKind.i64.wrap (a.sum+(↑n:Int)))=I (a.sum+(↑n:Int))) an) (S_a [(1,.v (I (a.sum+(↑n:Int)-1)))] (ap ((wrapE rfl (by omega)):I (IntKind.i64.wrap (a.sum+(↑n:Int)-1))=I (a.sum+(↑n:Int)-1)) an) (S_go 1 (S_a [(0,.v (I ((a.sum+(↑n:Int)-1).tdiv (↑n:Int))))] (ap (bv_quo (by omega) rfl (by omega):binV Try.prog BinOp.quo 3 (I (a.sum+(↑n:Int)-1)) (I (↑n:Int))=some (I ((a.sum+(↑n:Int)-1).tdiv (↑n:Int)))) an) (S_go 1 (S_end (V_ret (E_a [] an (I ((a.sum+(↑n:Int)-1).tdiv (↑n:Int))) ([]) ?_ rfl))))))))))))))))))))))))))
        have e:bndS b l=(a.sum+(n:Nat)-1).tdiv (n:Nat):=by unfold bndS;rw [if_neg (by omega),hs,hn']
        rw [e]
def dupL (l:List Int):Bool:=(List.range l.length).any fun i=>has (l.take i) (l.getD i 0)
def bndErr (b:Dk) (l:List Int):Int:=if boxErr b=0 then if !l.all (fun x=>decide (0≤x)&&decide (x≤(b.rs.length:Int)-1)) then 1 else if dupL l then 5 else 0 else boxErr b
def bndV (b:Dk) (l:List Int):Int:=if bndErr b l=0 then bndS b l else 0
end
end Go.Eng
set_option maxRecDepth 10000
set_option maxHeartbeats 4000000
namespace Go.Eng
open Go Go.Proofs
def cmpI (x y:Int):Int:=if x<y then -1 else if x>y then 1 else 0
def cmpL:List Int→List Int→Int
  | [],[]=>0
  | [],_::_=>-1
  | _::_,[]=>1
  | x::xs,y::ys=>if cmpI x y=0 then cmpL xs ys else cmpI x y
theorem cmpL_lt:∀ {l m:List Int},cmpL l m<0↔ltL l m=true
  | [],[]=>by simp [cmpL,ltL]
  | [],_::_=>by simp [cmpL,ltL]
  | _::_,[]=>by simp [cmpL,ltL]
  | x :: xs,y::ys=>by
    have ih:=cmpL_lt (l:=xs) (m:=ys)
    simp only [cmpL,ltL,Bool.or_eq_true,Bool.and_eq_true,decide_eq_true_eq,← ih]
    by_cases h:x<y
    · have e:cmpI x y = -1:=by simp [cmpI,h]
      simp only [e];simp [h]
    · by_cases h2:x>y
      · have e:cmpI x y=1:=by simp [cmpI,h,h2]
        simp only [e];simp [h];omega
      · have e:cmpI x y=0:=by simp [cmpI,h,h2]
        obtain rfl:x=y:=by omega
        simp only [e];simp
theorem cmpL_drop {l m:List Int} {i:Nat} (h1:i<l.length) (h2:i<m.length):cmpL (l.drop i) (m.drop i)=if cmpI (l.getD i 0) (m.getD i 0)=0 then cmpL (l.drop (i+1)) (m.drop (i+1)) else cmpI (l.getD i 0) (m.getD i 0):=by
  rw [List.drop_eq_getElem_cons h1,List.drop_eq_getElem_cons h2,getD_lt h1,getD_lt h2];rfl
section
variable [Yo]
theorem f141 (n:Int):FG 141 [I n] (.bool false):=by
  refine gives_ofX Try.f141 ?_
  refine V_seq (V_region (S_go 1 (S_end (V_seq (V_region (S_go 4 (S_end (V_ret (E_a [] an (PV.bool (n != n)) ([]) (by simp [*]) rfl)))))))))
  try simp
theorem f140 (x y:Int):FG 140 [I x,I y] (I (cmpI x y)):=by
  refine gives_ofX Try.f140 ?_
  refine V_seq (V_region (S_go 1 (S_end (V_seq (V_region (S_go 1 (S_a [(6,.ret (PV.bool false) ([]))] (ap (f141 (x)) an) (S_go 1 (S_end (V_seq (V_region (S_go 1 (S_a [(6,.ret (PV.bool false) ([]))] (ap (f141 (y)) an) (S_go 1 (S_end (V_seq (V_seq (V_region (S_go 1 (S_end (V_false (V_skip (V_seq (V_seq (V_region (S_go 1 (S_end (V_false (V_skip (V_seq (V_seq (V_region (S_go 3 (S_end (V_dec (x<y) (fun k0=>(V_seq (V_region (S_go 1 (S_end (V_ret (E_a [] an (I (-1)) ([]) ?_ rfl))))))) (fun k0=>(V_skip (V_seq (V_seq (V_region (S_go 3 (S_end (V_dec (x>y) (fun k1=>(V_seq (V_region (S_go 1 (S_end (V_ret (E_a [] an (I 1) ([]) ?_ rfl))))))) (fun k1=>(V_skip (V_seq (V_region (S_go 1 (S_end (V_ret (E_a [] an (I 0) ([]) ?_ rfl)))))))))))))))))))))))))))))))))))))))))))))))))))
  · rw [cmpI,if_pos (by assumption)]
  · rw [cmpI,if_neg (by omega),if_pos (by omega)]
  · rw [cmpI,if_neg (by omega),if_neg (by omega)]
theorem f121 (l m:List Int) (hl:l.length<4294967296) (hm:m.length<4294967296):FG 121 [ints l,ints m] (I (cmpL l m)):=by
  refine gives_ofX Try.f121 ?_
  refine V_seq (V_region (S_go 1 (S_end (V_seq (V_seq (V_region (S_go 1 (S_a [(0,.n (l.length))] (ap ((by simp):some (List.map I l).length=some l.length) an) (S_go 1 (S_end (V_block 0 ?_)))))))))))
  refine V_loopS (fun i=>i≤l.length∧i≤m.length∧cmpL l m=cmpL (l.drop i) (m.drop i)) (fun i=>[(11,I (i:Nat))]) (fun i=>l.length-i) (0:Nat) ⟨Nat.zero_le _,Nat.zero_le _,rfl⟩ fun i ⟨hi,him,ha⟩=>?_
  by_cases hil:i<l.length
  · by_cases hml:i<m.length
    · have hd:=cmpL_drop hil hml
      by_cases hz:cmpI (l.getD i 0) (m.getD i 0)=0
      · rw [if_pos hz] at hd
        refine V_seq (V_region (S_go 1 (S_end (V_seq (V_decT ((↑i:Int)<(↑l.length:Int)) (by omega) (V_skip (V_seq (V_block 1 (V_seq (V_region (S_go 1 (S_a [(2,.v (I (l.getD i 0)))] (ap (getm (0) (by omega):(List.map I l)[i]? = some (I (l.getD i 0))) an) (S_go 3 (S_end (V_seq (V_seq (V_region (S_go 2 (S_a [(0,.n (m.length))] (ap ((by simp):some (List.map I m).length=some m.length) an) (S_go 1 (S_end (V_decF ((↑i:Int)≥(↑m.length:Int)) (by omega) (V_skip (V_seq (V_region (S_go 2 (S_a [(2,.v (I (m.getD i 0)))] (ap (getm (0) (by omega):(List.map I m)[i]? = some (I (m.getD i 0))) an) (S_go 2 (S_end (V_seq (V_region (S_go 2 (S_a [(8,.ret (I (cmpI (l.getD i 0) (m.getD i 0))) ([]))] (ap (f140 (l.getD i 0) (m.getD i 0)) an) (S_go 1 (S_end (V_seq (V_region (S_go 2 (S_end (V_ndecF (cmpI (l.getD i 0) (m.getD i 0)=0) (by omega) (V_skip (V_region (S_a [(1,.v (I (↑(i+1):Int)))] (ap ((wrapE (by omega) (by omega)):I (IntKind.i64.wrap ((↑i:Int)+1))=I (↑(i+1):Int)) an) (S_go 1 (S_end ?_)))))))))))))))))))))))))))))))))))))))))))))
        exact ⟨i+1,⟨by omega,by omega,by rw [ha,hd]⟩,by omega,by kernel_rfl,by kernel_rfl⟩
      · rw [if_neg hz] at hd
        refine V_seq (V_region (S_go 1 (S_end (V_seq (V_decT ((↑i:Int)<(↑l.length:Int)) (by omega) (V_skip (V_seq (V_block 1 (V_seq (V_region (S_go 1 (S_a [(2,.v (I (l.getD i 0)))] (ap (getm (0) (by omega):(List.map I l)[i]? = some (I (l.getD i 0))) an) (S_go 3 (S_end (V_seq (V_seq (V_region (S_go 2 (S_a [(0,.n (m.length))] (ap ((by simp):some (List.map I m).length=some m.length) an) (S_go 1 (S_end (V_decF ((↑i:Int)≥(↑m.length:Int)) (by omega) (V_skip (V_seq (V_region (S_go 2 (S_a [(2,.v (I (m.getD i 0)))] (ap (getm (0) (by omega):(List.map I m)[i]? = some (I (m.getD i 0))) an) (S_go 2 (S_end (V_seq (V_region (S_go 2 (S_a [(8,.ret (I (cmpI (l.getD i 0) (m.getD i 0))) ([]))] (ap (f140 (l.getD i 0) (m.getD i 0)) an) (S_go 1 (S_end (V_seq (V_region (S_go 2 (S_end (V_ndecT (cmpI (l.getD i 0) (m.getD i 0)=0) (by omega) (V_seq (V_region (S_go 2 (S_end (V_ret (E_a [] an (I (cmpI (l.getD i 0) (m.getD i 0))) ([]) (by simp [*]) rfl))))))))))))))))))))))))))))))))))))))))))))))
    · refine V_seq (V_region (S_go 1 (S_end (V_seq (V_decT ((↑i:Int)<(↑l.length:Int)) (by omega) (V_skip (V_seq (V_block 1 (V_seq (V_region (S_go 1 (S_a [(2,.v (I (l.getD i 0)))] (ap (getm (0) (by omega):(List.map I l)[i]? = some (I (l.getD i 0))) an) (S_go 3 (S_end (V_seq (V_seq (V_region (S_go 2 (S_a [(0,.n (m.length))] (ap ((by simp):some (List.map I m).length=some m.length) an) (S_go 1 (S_end (V_decT ((↑i:Int)≥(↑m.length:Int)) (by omega) (V_seq (V_region (S_go 1 (S_end (V_ret (E_a [] an (I 1) ([]) ?_ rfl))))))))))))))))))))))))))))
      rw [ha,List.drop_of_length_le (show m.length≤i by omega),List.drop_eq_getElem_cons hil]
      first | done | rfl
  · by_cases hml:i<m.length
    · refine V_seq (V_region (S_go 1 (S_end (V_seq (V_decF ((↑i:Int)<(↑l.length:Int)) (by omega) (V_exit 0 (V_seq (V_seq (V_region (S_go 1 (S_a [(0,.n (l.length))] (ap ((by simp):some (List.map I l).length=some l.length) an) (S_go 1 (S_a [(0,.n (m.length))] (ap ((by simp):some (List.map I m).length=some m.length) an) (S_go 1 (S_end (V_decT ((↑l.length:Int)<(↑m.length:Int)) (by omega) (V_seq (V_region (S_go 1 (S_end (V_ret (E_a [] an (I (-1)) ([]) ?_ rfl))))))))))))))))))))))
      rw [ha,List.drop_of_length_le (show l.length≤i by omega),List.drop_eq_getElem_cons hml];rfl
    · refine V_seq (V_region (S_go 1 (S_end (V_seq (V_decF ((↑i:Int)<(↑l.length:Int)) (by omega) (V_exit 0 (V_seq (V_seq (V_region (S_go 1 (S_a [(0,.n (l.length))] (ap ((by simp):some (List.map I l).length=some l.length) an) (S_go 1 (S_a [(0,.n (m.length))] (ap ((by simp):some (List.map I m).length=some m.length) an) (S_go 1 (S_end (V_decF ((↑l.length:Int)<(↑m.length:Int)) (by omega) (V_skip (V_seq (V_region (S_go 1 (S_end (V_ret (E_a [] an (I 0) ([]) ?_ rfl)))))))))))))))))))))))
      rw [ha,List.drop_of_length_le (show l.length≤i by omega),List.drop_of_length_le (show m.length≤i by omega)];rfl
end
end Go.Eng
set_option maxRecDepth 10000
namespace Go.Eng
open Go Go.Proofs
abbrev four:Dk:=⟨2,1,2,2,[⟨4,2,[0,1]⟩,⟨3,1,[0,1]⟩,⟨8,1,[0,1]⟩,⟨1,1,[1]⟩]⟩
abbrev fee4:List Int:=[12,5,10,3]
section
variable [Yo]
theorem f88x:Gives Try.prog feeH 88 [boxV four,ints [0,0,0,1]] [] (.tup [.ref (deskV four fee4),I 0]) []:=Gives.closed 400
theorem f93x:Gives Try.prog feeH 93 [.ref (deskV four fee4),.bor 50000000 [(0,0)] 1 0 4] [.box (.own 1 [I 0,I 0,I 0,I 1])] (.func 130 [] (.ref (.bor 50000000 [(0,0)] 1 0 4)::(mvCaps four fee4 [27,3,0,0] []).tail)) [.box (.own 1 [I 0,I 0,I 0,I 1])]:=Gives.closed 400
theorem f93y:Gives Try.prog feeH 93 [.ref (deskV four fee4),.bor 50000000 [(0,0)] 1 0 4] [.box (.own 1 [I 1,I 0,I 0,I 1])] (.func 130 [] (.ref (.bor 50000000 [(0,0)] 1 0 4)::(mvCaps four fee4 [15,15,0,0] []).tail)) [.box (.own 1 [I 1,I 0,I 0,I 1])]:=Gives.closed 400
theorem f36w (hx:HandsAll 130 [] (mvCaps four fee4 [27,3,0,0] [0,0,0,1]) [[mvV (0,1)],[mvV (1,1)],[mvV (2,1)]]) (hy:HandsAll 130 [] (mvCaps four fee4 [15,15,0,0] [1,0,0,1]) []):Gives Try.prog feeH 36 [boxV four,ints [0,0,0,1]] [] (.tup [.own 1 [I 1,I 0,I 0,I 1],I 1,I 0]) []:=by
  refine gives_ofX Try.f36 ?_
  refine V_seq (V_region (S_go 4 (S_end (V_seq (V_region (S_go 2 (S_a [(8,.ret (PV.tup [(deskV four fee4).ref,I 0]) ([]))] (ap (f88x) an) (S_go 5 (S_end (V_seq (V_seq (V_region (S_go 2 (S_end (V_false (V_skip (V_seq (V_region (S_go 1 (S_go 1 (S_go 3 (S_end (V_seq (V_region (S_go 1 (S_go 1 ?_))))))))))))))))))))))))))
  refine S_go 1 (S_end ?_)
  refine V_seq (V_region (S_go 1 (S_end (V_block 0 ?_))))
  refine V_loopS (fun (n,sh)=>n=0∧sh=[0,0,0,1]∨n=1∧sh=[1,0,0,1]) (fun (n,sh)=>[(9,.box (.own 1 (sh.map I))),(10,I (n:Nat))]) (fun (n,_)=>2-n) ((0:Nat),([0,0,0,1]:List Int)) (.inl ⟨rfl,rfl⟩) fun (n,sh) h=>?_
  rcases h with ⟨rfl,rfl⟩ | ⟨rfl,rfl⟩
  · refine V_seq (V_block 1 (V_scope (V_seq (V_region (S_go 2 (S_end (V_seq (V_label (V_seq (V_seq (V_region (S_go 1 (S_go 1 (S_a [(5,.ret (PV.func 130 [] ((PV.bor 50000000 [(0,0)] 1 0 4).ref::(mvCaps four fee4 [27,3,0,0] []).tail)) ([(PV.own 1 [I 0,I 0,I 0,I 1]).box]))] (ap (f93x) an) (S_end (V_block 2 ?_))))))))))))))))
    refine V_rangeRg (t:=32) (R:=[9]) hx ?_
    simp only [Rg]
    refine Round_mk ?_
    refine V_region (S_go 2 (S_end ?_))
    refine ⟨rfl,by kernel_rfl,?_⟩
    refine V_block 3 (V_seq (V_region (S_go 1 (S_go 4 (S_go 1 (S_go 2 (S_end (V_exit 2 ?_))))))))
    refine ⟨by kernel_rfl,?_⟩
    refine V_seq (V_region (S_go 2 (S_end (V_false (V_skip (V_region (S_go 3 (S_end ?_))))))))
    exact ⟨(1,[1,0,0,1]),.inr ⟨rfl,rfl⟩,by decide,by kernel_rfl,by kernel_rfl⟩
  · refine V_seq (V_block 1 (V_scope (V_seq (V_region (S_go 2 (S_end (V_seq (V_label (V_seq (V_seq (V_region (S_go 1 (S_go 1 (S_a [(5,.ret (PV.func 130 [] ((PV.bor 50000000 [(0,0)] 1 0 4).ref::(mvCaps four fee4 [15,15,0,0] []).tail)) ([(PV.own 1 [I 1,I 0,I 0,I 1]).box]))] (ap (f93y) an) (S_end (V_block 2 ?_))))))))))))))))
    refine V_rangeRg (t:=32) (R:=[9]) hy ?_
    simp only [Rg]
    refine V_seq (V_region (S_go 2 (S_end (V_true (V_seq (V_region (S_go 1 (S_go 4 (S_end (V_ret (E_a [] an (PV.tup [PV.own 1 [I 1,I 0,I 0,I 1],I (↑1:Int),I 0]) ([]) rfl rfl)))))))))))
end
noncomputable instance feeYo:Yo:=yo1 Try.prog feeH
theorem four_ok {f share:List Int} (hf:f.length=4) (hs:share.length=4) (h1:share.all (fun x=>decide (0≤x∧x<4))=true) (h2:f.all (fun x=>decide (-1000000≤x∧x≤1000000))=true):MvOk four fee4 f share:=by
  refine ⟨⟨by decide,by decide⟩,by decide,hf,rfl,hs,fun x hx=>by simpa using List.all_eq_true.1 h1 x hx,fun i=>?_,fun i=>?_⟩
  · rcases Nat.lt_or_ge i f.length with h | h
    · rw [getD_lt h];simpa using List.all_eq_true.1 h2 _ (List.getElem_mem h)
    · rw [List.getD_eq_getElem?_getD,List.getElem?_eq_none h];simp
  · rcases Nat.lt_or_ge i 4 with h | h
    · match i,h with
      | 0,_=>decide
      | 1,_=>decide
      | 2,_=>decide
      | 3,_=>decide
    · rw [List.getD_eq_getElem?_getD,List.getElem?_eq_none h];simp
theorem f130a {b:Dk} {fee f share:List Int} (h:MvOk b fee f share):HandsAll 130 [] (mvCaps b fee f share) (mvLog b fee f share share.length):=by
  refine ⟨?_,fun j h1 h2=>?_⟩
  · have:=f130h h (-1) (.inl rfl)
    rwa [if_pos rfl] at this
  · have:=f130h h (j:Int) (.inr ⟨by omega,by simpa using h2⟩)
    rw [if_neg (by omega)] at this
    exact this
theorem f36x:Gives Try.prog feeH 36 [boxV four,ints [0,0,0,1]] [] (.tup [.own 1 [I 1,I 0,I 0,I 1],I 1,I 0]) []:=by
  refine f36w ?_ ?_
  · exact f130a (four_ok rfl rfl (by decide) (by decide))
  · exact f130a (four_ok rfl rfl (by decide) (by decide))
end Go.Eng
namespace Go.Eng
open Go Go.Proofs
def bal5:List Int:=[5,-2,-3,4,-4]
abbrev ad (j:Nat):PV := .addr (50000000+j) [] 0 0 none
abbrev putB:PV := .box (.func 135 [] [ad 0,ad 1,ad 2,ad 3])
abbrev oints (l:List Int):PV := .own 1 (l.map I)
abbrev rows (l:List (List Int)):PV := .own 1 (l.map oints)
abbrev putE (i:Nat) (now out out':List (List Int)):Entry:=⟨135,[I (i:Nat),ad 0,ad 1,ad 2,ad 3],[.box (ints bal5),putB,.box (rows now),.box (rows out)],.tup [],[.box (ints bal5),putB,.box (rows now),.box (rows out')]⟩
abbrev puts (i:Nat) (now out out':List (List Int)):Prop:=∀ [Yo],AllT Try.prog feeH [putE i now out out']
theorem g3_012x:puts 3 [[0,1,2]] [] [[0,1,2],[3,4]]:=⟨Gives.closed 400,trivial⟩
theorem g3_01x2x:puts 3 [[0,1],[2]] [[0,1,2],[3,4]] [[0,1,2],[3,4]]:=⟨Gives.closed 400,trivial⟩
theorem g3_02x1x:puts 3 [[0,2],[1]] [[0,1,2],[3,4]] [[0,1,2],[3,4]]:=⟨Gives.closed 400,trivial⟩
theorem g3_0x12x:puts 3 [[0],[1,2]] [[0,1,2],[3,4]] [[0,1,2],[3,4]]:=⟨Gives.closed 400,trivial⟩
theorem g3_0x1x2x:puts 3 [[0],[1],[2]] [[0,1,2],[3,4]] [[0,1,2],[3,4]]:=⟨Gives.closed 400,trivial⟩
theorem g0_:puts 0 [] [] [[0,1,2],[3,4]]:=⟨Gives.table ([putE 3 [[0,1,2]] [] [[0,1,2],[3,4]],putE 3 [[0,1],[2]] [[0,1,2],[3,4]] [[0,1,2],[3,4]],putE 3 [[0,2],[1]] [[0,1,2],[3,4]] [[0,1,2],[3,4]],putE 3 [[0],[1,2]] [[0,1,2],[3,4]] [[0,1,2],[3,4]],putE 3 [[0],[1],[2]] [[0,1,2],[3,4]] [[0,1,2],[3,4]]]) ⟨g3_012x.1,g3_01x2x.1,g3_02x1x.1,g3_0x12x.1,g3_0x1x2x.1,trivial⟩ 400,trivial⟩
theorem f49x [Yo]:Gives Try.prog feeH 49 [ints bal5] [] (.tup [rows [[0,1,2],[3,4]],I 0]) []:=Gives.table [putE 0 [] [] [[0,1,2],[3,4]]] ⟨g0_.1,trivial⟩ 400
end Go.Eng
set_option maxRecDepth 10000
namespace Go.Eng
open Go Go.Proofs
section
variable [Yo]
theorem f26x:Gives Try.prog feeH 26 [boxV four,ints [1,0,0,1],ints [4,10]] [] (.tup [.own 1 [I 7,I 0],I 23,I 0]) []:=Gives.closed 400
theorem f41x:Gives Try.prog feeH 41 [boxV four] [] (.tup [.own 1 [I 1,I 0,I 0,I 1],I 15,I 0]) []:=Gives.closed 400
theorem f34x:Gives Try.prog feeH 34 [boxV four,ints [0,0,1,1]] [] (.tup [.own 2 [.agg [I 0,I 2]],I 0]) []:=Gives.closed 400
theorem f69x:Gives Try.prog feeH 69 [boxV four,ints [3,0]] [] (.tup [I 8,I 0]) []:=Gives.closed 400
theorem f18x:Gives Try.prog feeH 18 [I 10,ints [5,3,1]] [] (.tup [.own 1 [I 6,I 3,I 1],I 0]) []:=Gives.closed 400
end
abbrev awakeT:List Entry:=[
  ⟨36,[boxV four,ints [0,0,0,1]],[],.tup [.own 1 [I 1,I 0,I 0,I 1],I 1,I 0],[]⟩,
  ⟨41,[boxV four],[],.tup [.own 1 [I 1,I 0,I 0,I 1],I 15,I 0],[]⟩,
  ⟨34,[boxV four,ints [0,0,1,1]],[],.tup [.own 2 [.agg [I 0,I 2]],I 0],[]⟩,
  ⟨26,[boxV four,ints [1,0,0,1],ints [4,10]],[],.tup [.own 1 [I 7,I 0],I 23,I 0],[]⟩,
  ⟨69,[boxV four,ints [3,0]],[],.tup [I 8,I 0],[]⟩,
  ⟨18,[I 10,ints [5,3,1]],[],.tup [.own 1 [I 6,I 3,I 1],I 0],[]⟩,
  ⟨49,[ints bal5],[],.tup [rows [[0,1,2],[3,4]],I 0],[]⟩]
theorem f16:Gives Try.prog feeH 16 [] [] (.bool true) []:=Gives.table awakeT ⟨f36x,f41x,f34x,f26x,f69x,f18x,f49x,trivial⟩ 400
end Go.Eng
set_option maxRecDepth 10000
set_option maxHeartbeats 4000000
namespace Go.Eng
open Go Go.Proofs
end Go.Eng
set_option maxRecDepth 10000
set_option maxHeartbeats 4000000
namespace Go.Eng
open Go Go.Proofs
abbrev lstO (l:List Int):PV := .own 1 (l.map I)
theorem bits_bd {n s:Nat}:∀ x∈bitsL n s,0≤x∧x≤(n:Int)-1:=fun x hx=>by
  simp only [bitsL,List.mem_map,List.mem_filter,List.mem_range] at hx
  obtain ⟨r,⟨h,_⟩,rfl⟩:=hx
  simp only [Int.ofNat_eq_natCast];omega
theorem bits_len {n s:Nat}:(bitsL n s).length≤n:=by
  have:=List.length_filter_le (fun r=>Nat.beq ((s >>> r) % 2) 1) (List.range n)
  simpa [bitsL] using this
theorem bits_next {n s:Nat}:bitsL (n+1) s=bitsL n s++(if Nat.beq ((s >>> n) % 2) 1 then [(n:Int)] else []):=by
  simp only [bitsL,List.range_succ,List.filter_append,List.map_append,List.filter_cons,List.filter_nil]
  split<;>rfl
theorem all_next {n:Nat} {L:List (List Int)} {s:Nat} (hL:L=(List.range s).map (bitsL n)):L++[bitsL n s]=(List.range (s+1)).map (bitsL n):=by
  rw [hL,List.range_succ,List.map_append];rfl
def gotG (b:Dk):List Int×Int:=if boxErr b=0 then goG (bndS b) (bitsAll b.rs.length) else ([],0)
theorem go_memG {w:List Int→Int} (L:List (List Int)):(goG w L).1=[]∨(goG w L).1∈L:=by
  have key:∀ (T L:List (List Int)) m,(m.1=[]∨m.1∈L)→((T.foldl (bstG w) m).1=[]∨(T.foldl (bstG w) m).1∈L++T):=by
    intro T
    induction T with
    | nil=>intro L m h;simpa using h
    | cons l T ih =>
      intro L m h
      have:=ih (L++[l]) (bstG w m l) (by
        unfold bstG;split
        · exact .inr (by simp)
        · exact h.imp id fun h=>List.mem_append_left _ h)
      rwa [List.append_assoc] at this
  have:=key L [] ([],0) (.inl rfl)
  rwa [List.nil_append] at this
theorem goG_next {w:List Int→Int} {L:List (List Int)} {l:List Int}:goG w (L++[l])=bstG w (goG w L) l:=by simp [goG]
theorem bstG_t {w:List Int→Int} {m:List Int×Int} {l:List Int} (h:w l>m.2∨w l=m.2∧(l.length<m.1.length∨l.length=m.1.length∧ltL l m.1=true)):bstG w m l=(l,w l):=by
  unfold bstG;rw [if_pos];simpa using h
theorem bstG_f {w:List Int→Int} {m:List Int×Int} {l:List Int} (h:¬ (w l>m.2∨w l=m.2∧(l.length<m.1.length∨l.length=m.1.length∧ltL l m.1=true))):bstG w m l=m:=by
  unfold bstG;rw [if_neg];simpa using h
def bitB (s r:Nat):Bool:=decide (((BitVec.ofInt IntKind.i64.bits ((s:Int).fdiv (2 ^ min (r:Int).toNat IntKind.i64.bits)) &&& BitVec.ofInt IntKind.i64.bits 1).toNat:Int)=((s >>> r % 2:Nat):Int))
theorem bitB_all:(List.range 128).all (fun s=>(List.range 7).all fun r=>bitB s r)=true:=by kernel_rfl
theorem bit_and {s r:Nat} (hs:s<128) (hr:r<7):((BitVec.ofInt IntKind.i64.bits ((s:Int).fdiv (2 ^ min (r:Int).toNat IntKind.i64.bits)) &&& BitVec.ofInt IntKind.i64.bits 1).toNat:Int)=((s >>> r % 2:Nat):Int):=by
  have h:=bitB_all
  simp only [List.all_eq_true,List.mem_range] at h
  exact of_decide_eq_true (h s hs r hr)
theorem beq_t {s r:Nat} (h:s >>> r % 2=1):Nat.beq ((s >>> r) % 2) 1=true:=by rw [h];rfl
theorem beq_f {s r:Nat} (h:¬ s >>> r % 2=1):Nat.beq ((s >>> r) % 2) 1=false:=by
  cases e:Nat.beq ((s >>> r) % 2) 1 with
  | false=>rfl
  | true=>exact absurd (Nat.eq_of_beq_eq_true e) h
section
variable [Yo]
theorem f71 (b:Dk) (hb:Small b):FG 71 [boxV b] (.tup [lstO (gotG b).1,I (gotG b).2,I (boxErr b)]):=by
  by_cases h:boxErr b=0
  · have hg:=box_good h
    have hbl:=hg.len
    refine gives_ofX Try.f71 ?_
    have hp7:(2:Nat) ^ b.rs.length≤128:=Nat.pow_le_pow_right (n:=2) (by omega) hbl
    have hP1:(1:Int)*2 ^ min (↑b.rs.length:Int).toNat IntKind.i64.bits=((2 ^ b.rs.length:Nat):Int):=by
      rw [Int.one_mul,show min (↑b.rs.length:Int).toNat IntKind.i64.bits=b.rs.length by simp [IntKind.bits];omega]
      simp
    have hP2 : -9223372036854775808≤(1:Int)*2 ^ min (↑b.rs.length:Int).toNat IntKind.i64.bits∧(1:Int)*2 ^ min (↑b.rs.length:Int).toNat IntKind.i64.bits<9223372036854775808:=by
      rw [hP1];generalize 2 ^ b.rs.length=N at *;omega
    refine V_seq (V_region (S_go 4 (S_end (V_seq (V_region (S_go 1 (S_a [(6,.ret (PV.tup [(deskV b (feesOf b)).ref,I 0]) ([]))] (ap (f101_1 (b) (by omega) (by omega)) an) (S_go 5 (S_end (V_seq (V_seq (V_region (S_go 2 (S_end (V_false (V_skip (V_seq (V_region (S_go 1 (S_end (V_seq (V_region (S_go 1 (S_end (V_seq (V_seq (V_region (S_go 2 (S_a [(0,.n (b.rs.length))] (ap ((by simp):some (List.map rndV b.rs).length=some b.rs.length) an) (S_a [(1,.v (I (↑(1*2 ^ min (↑b.rs.length:Int).toNat IntKind.i64.bits):Int)))] (ap ((wrapE (by omega) (by assumption)):I (IntKind.i64.wrap (1*2 ^ min (↑b.rs.length:Int).toNat IntKind.i64.bits))=I (↑(1*2 ^ min (↑b.rs.length:Int).toNat IntKind.i64.bits):Int)) an) (S_go 1 (S_end (V_block 0 ?_)))))))))))))))))))))))))))))))))
    clear hP2
    obtain ⟨N,hN⟩:∃ N,N=2 ^ b.rs.length:=⟨_,rfl⟩
    rw [← hN] at hP1 hp7
    refine V_loopS (fun (s,m)=>s≤N∧m=goG (bndS b) ((List.range s).map (bitsL b.rs.length))) (fun (s,m)=>[(7,lstO m.1),(8,I m.2),(25,I (s:Nat))]) (fun (s,_)=>N-s) ((0:Nat),(([]:List Int),(0:Int))) ⟨Nat.zero_le _,rfl⟩ fun (s,m) ⟨hs,hm⟩=>?_
    by_cases hsl:s<N
    · have hml:m.1.length≤7:=by
        rcases go_memG (w:=bndS b) ((List.range s).map (bitsL b.rs.length)) with e | e
        · rw [hm,e];simp
        · obtain ⟨q,_,e⟩:=List.mem_map.1 e
          rw [hm,← e];have:=bits_len (n:=b.rs.length) (s:=q);omega
      refine V_seq (V_region (S_go 1 (S_end (V_seq (V_decT ((↑s:Int)<1*2 ^ min (↑b.rs.length:Int).toNat IntKind.i64.bits) (by omega) (V_skip (V_seq (V_block 1 (V_seq (V_region (S_go 2 (S_end (V_seq (V_region (S_go 1 (S_end (V_seq (V_seq (V_region (S_go 2 (S_a [(0,.n (b.rs.length))] (ap ((by simp):some (List.map rndV b.rs).length=some b.rs.length) an) (S_go 1 (S_end (V_block 2 ?_))))))))))))))))))))))))
      refine V_loopS (fun (r,l)=>r≤b.rs.length∧l=bitsL r s) (fun (r,l)=>[(10,lstO l),(31,I (r:Nat))]) (fun (r,_)=>b.rs.length-r) ((0:Nat),([]:List Int)) ⟨Nat.zero_le _,rfl⟩ fun (r,l) ⟨hr,hl⟩=>?_
      have hll:l.length≤r:=by rw [hl];exact bits_len
      by_cases hrl:r<b.rs.length
      · have hbit:=bit_and (s:=s) (r:=r) (by omega) (by omega)
        refine V_seq (V_region (S_go 1 (S_end (V_seq (V_decT ((↑r:Int)<(↑b.rs.length:Int)) (by omega) (V_skip (V_seq (V_block 3 (V_seq (V_region (S_go 2 (S_end (V_seq (V_region (S_go 3 (S_a [(1,.v (I (↑(BitVec.ofInt IntKind.i64.bits ((↑s:Int).fdiv (2 ^ min (↑r:Int).toNat IntKind.i64.bits)) &&& BitVec.ofInt IntKind.i64.bits 1).toNat:Int)))] (ap ((wrapE rfl (by omega)):I (IntKind.i64.wrap (↑(BitVec.ofInt IntKind.i64.bits ((↑s:Int).fdiv (2 ^ min (↑r:Int).toNat IntKind.i64.bits)) &&& BitVec.ofInt IntKind.i64.bits 1).toNat:Int))=I (↑(BitVec.ofInt IntKind.i64.bits ((↑s:Int).fdiv (2 ^ min (↑r:Int).toNat IntKind.i64.bits)) &&& BitVec.ofInt IntKind.i64.bits 1).toNat:Int)) an) (S_go 1 (S_end (V_dec ((↑(BitVec.ofInt IntKind.i64.bits ((↑s:Int).fdiv (2 ^ min (↑r:Int).toNat IntKind.i64.bits)) &&& BitVec.ofInt IntKind.i64.bits 1).toNat:Int)=1) (fun k0=>(V_region (S_go 3 (S_a [(4,.ob),(0,.ob),(0,.ob),(2,.v (PV.own 1 (List.map I (l++[(↑r:Int)]))))] (ap ((by exact ble_of (by simp only [List.length_map,List.length_set,List.length_append,List.length_cons,List.length_nil,limit]<;>omega)):(0+(List.map I l).length).ble (List.map I l).length=true) (ap ((by exact ble_of (by simp only [List.length_map,List.length_set,List.length_append,List.length_cons,List.length_nil,limit]<;>omega)):((List.map I l).length + [I (↑r:Int)].length).ble limit=true) (ap ((by exact beq_of (by simp<;>omega)):(0+(List.map I l).length).beq (List.map I l).length=true) (ap ((by simp):PV.own 1 (List.map I l++[I (↑r:Int)])=PV.own 1 (List.map I (l++[(↑r:Int)]))) an)))) (S_go 1 (S_end (V_region (S_a [(1,.v (I (↑(r+1):Int)))] (ap ((wrapE (by omega) (by omega)):I (IntKind.i64.wrap ((↑r:Int)+1))=I (↑(r+1):Int)) an) (S_go 1 (S_end ?_)))))))))) (fun k0=>(V_skip (V_region (S_a [(1,.v (I (↑(r+1):Int)))] (ap ((wrapE (by omega) (by omega)):I (IntKind.i64.wrap ((↑r:Int)+1))=I (↑(r+1):Int)) an) (S_go 1 (S_end ?_)))))))))))))))))))))))))
        · exact ⟨(r+1,l++[(r:Int)]),⟨by omega,by rw [bits_next,beq_t (by omega),hl];rfl⟩,by simp only;omega,by kernel_rfl,by kernel_rfl⟩
        · exact ⟨(r+1,l),⟨by omega,by rw [bits_next,beq_f (by omega),hl];simp⟩,by simp only;omega,by kernel_rfl,by kernel_rfl⟩
      · obtain rfl:r=b.rs.length:=by omega
        have hlb:∀ x∈l,0≤x∧x≤(b.rs.length:Int)-1:=by rw [hl];exact bits_bd
        have hnx:=goG_next (w:=bndS b) (L:=(List.range s).map (bitsL b.rs.length)) (l:=l)
        have hax:=all_next (n:=b.rs.length) (L:=(List.range s).map (bitsL b.rs.length)) (s:=s) rfl
        rw [← hl] at hax
        rw [hax,← hm] at hnx
        refine V_seq (V_region (S_go 1 (S_end (V_seq (V_decF ((↑b.rs.length:Int)<(↑b.rs.length:Int)) (by omega) (V_exit 2 (V_seq (V_region (S_go 2 (S_a [(4,.ob),(0,.v (PV.sl (List.map I l))),(2,.ret (I (bndS b l)) ([]))] (ap ((by exact ble_of (by simp only [List.length_map,List.length_set,List.length_append,List.length_cons,List.length_nil,limit]<;>omega)):(0+(List.map I l).length).ble (List.map I l).length=true) (ap ((sl_ext (freezes_all (freezes_mapH _))):PV.sl (freezes (List.take (List.map I l).length (List.drop 0 (List.map I l))))=PV.sl (List.map I l)) (ap (f119 (b) (l) (by omega) (by omega) (by omega)) an))) (S_go 1 (S_end (V_seq (V_region (S_go 4 (S_dec 50 (bndS b l>m.snd) (fun k0=>(S_go 24 (S_end (V_true (V_region (S_go 2 (S_a [(2,.yes)] (ap ((by exact beq_of (by simp<;>omega)):(Nat.beq 0 0&&(List.map I l).length.beq (List.map I l).length)=true) an) (S_go 1 (S_end (V_region (S_a [(1,.v (I (↑(s+1):Int)))] (ap ((wrapE (by omega) (by omega)):I (IntKind.i64.wrap ((↑s:Int)+1))=I (↑(s+1):Int)) an) (S_go 1 (S_end ?_))))))))))))) (fun k0=>(S_go 4 (S_dec 54 (bndS b l=m.snd) (fun k1=>(S_go 1 (S_a [(0,.n (l.length))] (ap ((by simp):some (List.map I l).length=some l.length) an) (S_go 1 (S_a [(0,.n (m.fst.length))] (ap ((by simp):some (List.map I m.fst).length=some m.fst.length) an) (S_go 2 (S_dec 60 ((↑l.length:Int)<(↑m.fst.length:Int)) (fun k2=>(S_go 14 (S_end (V_true (V_region (S_go 2 (S_a [(2,.yes)] (ap ((by exact beq_of (by simp<;>omega)):(Nat.beq 0 0&&(List.map I l).length.beq (List.map I l).length)=true) an) (S_go 1 (S_end (V_region (S_a [(1,.v (I (↑(s+1):Int)))] (ap ((wrapE (by omega) (by omega)):I (IntKind.i64.wrap ((↑s:Int)+1))=I (↑(s+1):Int)) an) (S_go 1 (S_end ?_))))))))))))) (fun k2=>(S_go 1 (S_a [(0,.n (l.length))] (ap ((by simp):some (List.map I l).length=some l.length) an) (S_go 1 (S_a [(0,.n (m.fst.length))] (ap ((by simp):some (List.map I m.fst).length=some m.fst.length) an) (S_go 2 (S_dec 66 ((↑l.length:Int)=(↑m.fst.length:Int)) (fun k3=>(S_go 2 (S_a [(3,.ob),(0,.v (PV.sl (List.map I l))),(1,.ob),(0,.v (PV.sl (List.map I m.fst))),(2,.ret (I (cmpL l m.fst)) ([]))] (ap ((by exact ble_of (by simp only [List.length_map,List.length_set,List.length_append,List.length_cons,List.length_nil,limit]<;>omega)):(0+(List.map I l).length).ble (List.map I l).length=true) (ap ((sl_ext (freezes_all (freezes_mapH _))):PV.sl (freezes (List.take (List.map I l).length (List.drop 0 (List.map I l))))=PV.sl (List.map I l)) (ap ((by exact ble_of (by simp only [List.length_map,List.length_set,List.length_append,List.length_cons,List.length_nil,limit]<;>omega)):(0+(List.map I m.fst).length).ble (List.map I m.fst).length=true) (ap ((sl_ext (freezes_all (freezes_mapH _))):PV.sl (freezes (List.take (List.map I m.fst).length (List.drop 0 (List.map I m.fst))))=PV.sl (List.map I m.fst)) (ap (f121 (l) (m.fst) (by omega) (by omega)) an))))) (S_go 5 (S_end (V_dec (cmpL l m.fst<0) (fun k4=>(V_region (S_go 2 (S_a [(2,.yes)] (ap ((by exact beq_of (by simp<;>omega)):(Nat.beq 0 0&&(List.map I l).length.beq (List.map I l).length)=true) an) (S_go 1 (S_end (V_region (S_a [(1,.v (I (↑(s+1):Int)))] (ap ((wrapE (by omega) (by omega)):I (IntKind.i64.wrap ((↑s:Int)+1))=I (↑(s+1):Int)) an) (S_go 1 (S_end ?_)))))))))) (fun k4=>(V_skip (V_region (S_a [(1,.v (I (↑(s+1):Int)))] (ap ((wrapE (by omega) (by omega)):I (IntKind.i64.wrap ((↑s:Int)+1))=I (↑(s+1):Int)) an) (S_go 1 (S_end ?_)))))))))))) (fun k3=>(S_go 8 (S_end (V_false (V_skip (V_region (S_a [(1,.v (I (↑(s+1):Int)))] (ap ((wrapE (by omega) (by omega)):I (IntKind.i64.wrap ((↑s:Int)+1))=I (↑(s+1):Int)) an) (S_go 1 (S_end ?_))))))))))))))))))))))) (fun k1=>(S_go 20 (S_end (V_false (V_skip (V_region (S_a [(1,.v (I (↑(s+1):Int)))] (ap ((wrapE (by omega) (by omega)):I (IntKind.i64.wrap ((↑s:Int)+1))=I (↑(s+1):Int)) an) (S_go 1 (S_end ?_))))))))))))))))))))))))))))
        · exact ⟨(s+1,(l,bndS b l)),⟨by omega,by rw [hnx,bstG_t (.inl k0)]⟩,by simp only;omega,by kernel_rfl,by kernel_rfl⟩
        · exact ⟨(s+1,(l,bndS b l)),⟨by omega,by rw [hnx,bstG_t (.inr ⟨k1,.inl (by omega)⟩)]⟩,by simp only;omega,by kernel_rfl,by kernel_rfl⟩
        · exact ⟨(s+1,(l,bndS b l)),⟨by omega,by rw [hnx,bstG_t (.inr ⟨k1,.inr ⟨by omega,cmpL_lt.1 k4⟩⟩)]⟩,by simp only;omega,by kernel_rfl,by kernel_rfl⟩
        · exact ⟨(s+1,m),⟨by omega,by rw [hnx,bstG_f (by rintro (h | ⟨h,h2 | ⟨h2,h3⟩⟩)<;>first | omega | exact k4 (cmpL_lt.2 h3))]⟩,by simp only;omega,by kernel_rfl,by kernel_rfl⟩
        · exact ⟨(s+1,m),⟨by omega,by rw [hnx,bstG_f (by rintro (h | ⟨h,h2 | ⟨h2,h3⟩⟩)<;>omega)]⟩,by simp only;omega,by kernel_rfl,by kernel_rfl⟩
        · exact ⟨(s+1,m),⟨by omega,by rw [hnx,bstG_f (by rintro (h | ⟨h,h2 | ⟨h2,h3⟩⟩)<;>omega)]⟩,by simp only;omega,by kernel_rfl,by kernel_rfl⟩
    · refine V_seq (V_region (S_go 1 (S_end (V_seq (V_decF ((↑s:Int)<1*2 ^ min (↑b.rs.length:Int).toNat IntKind.i64.bits) (by omega) (V_exit 0 (V_seq (V_region (S_go 2 (S_a [(2,.yes)] (ap ((by exact beq_of (by simp<;>omega)):(Nat.beq 0 0&&(List.map I m.fst).length.beq (List.map I m.fst).length)=true) an) (S_go 2 (S_end (V_ret (E_a [(1,.yes),(1,.v (PV.own 1 (List.map I m.fst)))] (ap ((by exact ble_of (by simp only [List.length_map,List.length_set,List.length_append,List.length_cons,List.length_nil,limit]<;>omega)):(0+(List.map I m.fst).length).ble (List.map I m.fst).length=true) (ap ((own_ext take_allL):PV.own 1 (List.take (List.map I m.fst).length (List.drop 0 (List.map I m.fst)))=PV.own 1 (List.map I m.fst)) an)) (PV.tup [PV.own 1 (List.map I m.fst),I m.snd,I 0]) ([]) ?_ rfl))))))))))))))
      have e:gotG b=m:=by simp only [gotG,h,if_true];rw [hm,show s=2 ^ b.rs.length by omega];rfl
      rw [e,h]
  · refine gives_ofX Try.f71 ?_
    have e:gotG b=([],0):=by simp only [gotG,h,if_false]
    rw [e]
    refine V_seq (V_region (S_go 4 (S_end (V_seq (V_region (S_go 1 (S_a [(6,.ret (PV.tup [PV.nilp,I (boxErr b)]) ([]))] (ap (f101_2 (b) (by omega) (by omega)) an) (S_go 5 (S_end (V_seq (V_seq (V_region (S_go 2 (S_end (V_ndecT (boxErr b=0) (by omega) (V_seq (V_region (S_go 4 (S_end (V_ret (E_a [] an (PV.tup [PV.own 1 [],I 0,I (boxErr b)]) ([]) rfl rfl)))))))))))))))))))))
end
end Go.Eng
set_option maxRecDepth 10000
namespace Go.Eng
open Go Go.Proofs
def fieldsOf (P:Program) (t:TypeId):List Field:=match P.underlying t with
  | some (.struct fs)=>fs.toList
  | _=>[]
abbrev fsV (r f0 f1 f2 f3:Int):PV := .agg [I r,I f0,I f1,I f2,I f3]
theorem eqA4 (a1 a2 a3 a4 b1 b2 b3 b4:Int):eqEs (eqT Try.prog 18 3) none 1 (.agg [I a1,I a2,I a3,I a4]) (.agg [I b1,I b2,I b3,I b4]) 0 4=some (a1==b1&&(a2==b2&&(a3==b3&&a4==b4))):=by
  have s1:eqEs (eqT Try.prog 18 3) none 1 (.agg [I a1,I a2,I a3,I a4]) (.agg [I b1,I b2,I b3,I b4]) 0 4=(match some (a1==b1) with | some true=>eqEs (eqT Try.prog 18 3) none 1 (.agg [I a1,I a2,I a3,I a4]) (.agg [I b1,I b2,I b3,I b4]) 1 3 | r=>r):=by kernel_rfl
  have s2:eqEs (eqT Try.prog 18 3) none 1 (.agg [I a1,I a2,I a3,I a4]) (.agg [I b1,I b2,I b3,I b4]) 1 3=(match some (a2==b2) with | some true=>eqEs (eqT Try.prog 18 3) none 1 (.agg [I a1,I a2,I a3,I a4]) (.agg [I b1,I b2,I b3,I b4]) 2 2 | r=>r):=by kernel_rfl
  have s3:eqEs (eqT Try.prog 18 3) none 1 (.agg [I a1,I a2,I a3,I a4]) (.agg [I b1,I b2,I b3,I b4]) 2 2=(match some (a3==b3) with | some true=>eqEs (eqT Try.prog 18 3) none 1 (.agg [I a1,I a2,I a3,I a4]) (.agg [I b1,I b2,I b3,I b4]) 3 1 | r=>r):=by kernel_rfl
  have s4:eqEs (eqT Try.prog 18 3) none 1 (.agg [I a1,I a2,I a3,I a4]) (.agg [I b1,I b2,I b3,I b4]) 3 1=(match some (a4==b4) with | some true=>some true | r=>r):=by kernel_rfl
  rw [s1]
  cases a1==b1
  · rfl
  simp only [s2]
  cases a2==b2
  · rfl
  simp only [s3]
  cases a3==b3
  · rfl
  simp only [s4]
  cases a4==b4<;>rfl
theorem eqS5 (a0 a1 a2 a3 a4 b0 b1 b2 b3 b4:Int):eqT Try.prog 20 177 (fsV a0 a1 a2 a3 a4) (fsV b0 b1 b2 b3 b4)=some (a0==b0&&(a1==b1&&(a2==b2&&(a3==b3&&a4==b4)))):=by
  have s1:eqT Try.prog 20 177 (fsV a0 a1 a2 a3 a4) (fsV b0 b1 b2 b3 b4)=(match some (a0==b0) with | some true=>eqFs (eqT Try.prog 19) (shT Try.prog) (fsV a0 a1 a2 a3 a4) (fsV b0 b1 b2 b3 b4) (fieldsOf Try.prog 177).tail | r=>r):=by kernel_rfl
  have s2:eqFs (eqT Try.prog 19) (shT Try.prog) (fsV a0 a1 a2 a3 a4) (fsV b0 b1 b2 b3 b4) (fieldsOf Try.prog 177).tail=(match eqEs (eqT Try.prog 18 3) none 1 (.agg [I a1,I a2,I a3,I a4]) (.agg [I b1,I b2,I b3,I b4]) 0 4 with | some true=>some true | r=>r):=by kernel_rfl
  rw [s1]
  cases a0==b0
  · rfl
  simp only [s2,eqA4,Bool.true_and]
  cases (a1==b1&&(a2==b2&&(a3==b3&&a4==b4)))<;>rfl
structure En where
  r:Int
  f0:Int
  f1:Int
  f2:Int
  f3:Int
  v:Int
abbrev entV (x:En):PV×PV:=(fsV x.r x.f0 x.f1 x.f2 x.f3,I x.v)
def keyB (a0 a1 a2 a3 a4:Int) (x:En):Bool:=a0==x.r&&(a1==x.f0&&(a2==x.f1&&(a3==x.f2&&a4==x.f3)))
theorem findK_en (a0 a1 a2 a3 a4:Int):∀ (M:List En) (i:Nat),findK Try.prog 177 (fsV a0 a1 a2 a3 a4) (M.map entV) i=some ((M.findIdx? (keyB a0 a1 a2 a3 a4)).map (· + i))
  | [],i=>rfl
  | x :: M,i=>by
    have h1:=eqS5 a0 a1 a2 a3 a4 x.r x.f0 x.f1 x.f2 x.f3
    have h2:eqCells (fsV a0 a1 a2 a3 a4).cells (fsV x.r x.f0 x.f1 x.f2 x.f3).cells=some (a0==x.r&&(a1==x.f0&&(a2==x.f1&&(a3==x.f2&&(a4==x.f3&&true))))):=by kernel_rfl
    rw [Bool.and_true] at h2
    rw [List.map_cons]
    simp only [findK,h1,h2]
    rw [List.findIdx?_cons]
    have e:keyB a0 a1 a2 a3 a4 x=(a0==x.r&&(a1==x.f0&&(a2==x.f1&&(a3==x.f2&&a4==x.f3)))):=rfl
    cases hk:keyB a0 a1 a2 a3 a4 x with
    | true =>
      rw [e] at hk
      simp only [hk,Option.map_some,Nat.zero_add,if_true]
    | false =>
      rw [e] at hk
      simp only [hk]
      rw [findK_en a0 a1 a2 a3 a4 M (i+1)]
      simp only [Bool.false_eq_true,if_false,Option.map_map]
      congr 2
      funext y
      simp only [Function.comp];omega
def bump (f c k x:Int):Int:=if c=k then f+x else f
def minF (l:List Int):Int:=l.foldl (fun m x=>if m<0 then x else if x<m then x else m) (-1)
def feeAt (b:Dk) (k:Nat):Int:=(feesOf b).getD (b.rs.length-k) 0
def restS (b:Dk) (w:Int→Int→Int→Int→Int):Nat→Int→Int→Int→Int→Int
  | 0,f0,f1,f2,f3=>w f0 f1 f2 f3
  | k+1,f0,f1,f2,f3=>minF ((rnd b (b.rs.length-(k+1))).may.map fun c=>restS b w k (bump f0 c 0 (feeAt b (k+1))) (bump f1 c 1 (feeAt b (k+1))) (bump f2 c 2 (feeAt b (k+1))) (bump f3 c 3 (feeAt b (k+1))))
structure EnsOk (b:Dk) (w:Int→Int→Int→Int→Int) (M:List En):Prop where
  ok:∀ x∈M,x.v=restS b w (b.rs.length-x.r.toNat) x.f0 x.f1 x.f2 x.f3
theorem ens_find {M:List En} {a0 a1 a2 a3 a4:Int} {i:Nat} (h:M.findIdx? (keyB a0 a1 a2 a3 a4)=some i):∃ x,M[i]? = some x∧x∈M∧x.r=a0∧x.f0=a1∧x.f1=a2∧x.f2=a3∧x.f3=a4:=by
  obtain ⟨hi,hk,_⟩:=List.findIdx?_eq_some_iff_getElem.1 h
  refine ⟨M[i],List.getElem?_eq_getElem hi,List.getElem_mem hi,?_⟩
  simp only [keyB,Bool.and_eq_true,beq_iff_eq] at hk
  exact ⟨hk.1.symm,hk.2.1.symm,hk.2.2.1.symm,hk.2.2.2.1.symm,hk.2.2.2.2.symm⟩
end Go.Eng
