/- No zAk that is tried has a lesser spread than the closest one; a settled zAk where all may cry all. -/
import Derived.Test.YtpmbobnmpehobaaPg
import Derived.Test.YtpmbobnmpehobaaPf
import Derived.Test.YtpmbobnmpehobaaPd
import Derived.Test.YtpmbobnmpehobaaPe
set_option linter.unusedVariables false
set_option linter.unusedSimpArgs false
set_option linter.unusedSectionVars false
set_option maxRecDepth 10000
namespace Go.Eng
open Go Go.Proofs
theorem zQ9 {l:List Int}:∀ x∈l,x≤zBI l:=by
 have key:∀ (l:List Int) (m:Int),∀ x∈l,x≤l.foldl (fun m x=>if x>m then x else m) m:=by
  intro l
  induction l with
  | nil=>intro m x hx;cases hx
  | cons y l ih =>
   intro m x hx
   simp only [List.foldl_cons]
   rcases List.mem_cons.1 hx with rfl | hx
   ·have:=zEX l (if x>m then x else m)
    split at this<;>split<;>omega
   ·exact ih _ x hx
 intro x hx
 cases l with
 | nil=>cases hx
 | cons y l =>
  rcases List.mem_cons.1 hx with rfl | hx
  ·exact zEX l x
  ·exact key l y x hx
theorem zUd {l:List Int} {B:Int} (hH:l≠[]) (h:∀ x∈l,x≤B):zBI l≤B:=by
 have key:∀ (l:List Int) (m:Int),(∀ x∈l,x≤B)→m≤B→l.foldl (fun m x=>if x>m then x else m) m≤B:=by
  intro l
  induction l with
  | nil=>intro m _ hm;exact hm
  | cons y l ih =>
   intro m h hm
   simp only [List.foldl_cons]
   refine ih _ (fun x hx=>h x (by simp [hx])) ?_
   have:=h y (by simp)
   split<;>omega
 cases l with
 | nil=>exact (hH rfl).elim
 | cons y l=>exact key l y (fun x hx=>h x (by simp [hx])) (h y (by simp))
theorem zEy {b:Dk} {s:List Int} (hs:ShareOk b s):zAj b s≠[]:=fun h=>by
 have h1:=zGT hs
 have h2:=(zBl hs.box).cr
 rw [h] at h1;simp at h1;omega
theorem zG2 {b:Dk} {s:List Int} (hs:ShareOk b s) {x:Int}:x∈zAj b s↔∃ c:Nat,c<b.cr.toNat∧x=zB3 b s c s.length:=by
 rw [zIS hs]
 simp only [List.mem_map,List.mem_range]
 exact ⟨fun ⟨c,h1,h2⟩=>⟨c,h1,h2.symm⟩,fun ⟨c,h1,h2⟩=>⟨c,h1,h2.symm⟩⟩
theorem zQX {b:Dk}:∀ {k:Nat} {l:List Int},k≤b.rs.length→l.length=k→(∀ j,j<k→l.getD j 0∈(rnd b (b.rs.length-k+j)).may)→l∈shN b k
 | 0,l,_,h,_=>by rw [List.eq_nil_of_length_eq_zero h];simp [shN]
 | k+1,[],_,h,_=>by simp at h
 | k+1,c::l,hk,h,hm=>by
  simp only [shN,List.mem_flatMap,List.mem_map]
  refine ⟨c,by have:=hm 0 (by omega);exact this,l,zQX (by omega) (by simpa using h) fun j hj=>?_,rfl⟩
  have:=hm (j+1) (by omega)
  rw [show b.rs.length-(k+1)+(j+1)=b.rs.length-k+j by omega] at this
  exact this
theorem zTU {l:List Int} {v:Int} (h:has l v=true):v∈l:=by
 simp only [has,List.any_eq_true,decide_eq_true_eq] at h
 obtain ⟨x,hx,rfl⟩:=h
 exact hx
theorem zQe {b:Dk} {s:List Int} (hs:ShareOk b s):s∈shN b b.rs.length:=by
 refine zQX (Nat.le_refl _) hs.len fun j hj=>?_
 rw [show b.rs.length-b.rs.length+j=j by omega]
 exact zTU (zF6 hs.may (by rw [hs.len];exact hj))
theorem zS2 {b:Dk} {s s':List Int} (hs:ShareOk b s) (h:zDp b s=some s'):zBI (zAj b s')≤zBI (zAj b s):=by
 have jN:=(zFC hs h).1
 simp only [zDp] at h
 split at h
 ·cases h
 ·rename_i m ms uj
  simp only [Option.some.injEq] at h
  have hm:m∈mvs b (zAg b) (zMj b s) s s.length:=by rw [uj];simp
  obtain ⟨m1,m2,m3⟩:=zLr hm
  have jD:=(zBl hs.box).cr
  rw [zLh hs m1 (by omega)] at m3
  simp only [Bool.and_eq_true,decide_eq_true_eq] at m3
  obtain ⟨n1,n2,n3⟩:=m3
  have hrng:=zBB hs.rng m.1 m1
  refine zUd (zEy jN) fun x hx=>?_
  obtain ⟨c,hc,rfl⟩:=(zG2 jN).1 hx
  subst h
  rw [List.length_set]
  have hfee:=(zOg (zBl hs.box) m.1).1
  have yU:=zEP (g:=fun r=>zBW b (rnd b r)) m1 (m.2:Int) (c:Int) s.length
  rw [← zIP,← zIP] at yU
  have hfrom:zB3 b s (s.getD m.1 0) s.length≤zBI (zAj b s):=by
   have:=zQ9 _ ((zG2 hs).2 ⟨(s.getD m.1 0).toNat,by omega,rfl⟩)
   rwa [Int.toNat_of_nonneg hrng.1] at this
  by_cases hct:(m.2:Int)=c
  ·rw [← hct];omega
  ·have vf:=zQ9 _ ((zG2 hs).2 ⟨c,hc,rfl⟩)
   have e0:(if m.1<s.length∧(m.2:Int)=(c:Int) then zBW b (rnd b m.1) else 0)=0:=if_neg (fun h=>hct h.2)
   rw [e0] at yU
   split at yU<;>omega
theorem zLW {b:Dk} {s:List Int} (hs:ShareOk b s):ShareOk b (zDP b s)∧zBI (zAj b (zDP b s))≤zBI (zAj b s)∧zDp b (zDP b s)=none∧0≤zE9 b s∧(zE9 b s=0→zDP b s=s):=by
 have key:∀ k s,ShareOk b s→pot b s<k→ShareOk b (zCJ b s).1∧zBI (zAj b (zCJ b s).1)≤zBI (zAj b s)∧zDp b (zCJ b s).1=none∧((zCJ b s).2=0→(zCJ b s).1=s):=by
  intro k
  induction k with
  | zero=>intro s _ h;omega
  | succ k ih =>
   intro s hs hk
   cases h:zDp b s with
   | none=>rw [zKs h];exact ⟨hs,Int.le_refl _,h,fun _=>rfl⟩
   | some s' =>
    obtain ⟨h1,h2⟩:=zFC hs h
    obtain ⟨g1,g2,g3,g4⟩:=ih s' h1 (by omega)
    have hm:=zS2 hs h
    rw [zJb hs h]
    exact ⟨g1,Int.le_trans g2 hm,g3,fun h=>by simp at h⟩
 obtain ⟨g1,g2,g3,g4⟩:=key _ s hs (Nat.lt_succ_self _)
 have e1:zDP b s=(zCJ b s).1:=by simp only [zDP,zC8 hs,if_true]
 have e2:zE9 b s=((zCJ b s).2:Int):=by simp only [zE9,zC8 hs,if_true]
 rw [e1,e2]
 exact ⟨g1,g2,g3,by omega,fun h=>g4 (by omega)⟩
theorem zLy {b:Dk} {s:List Int} (hs:ShareOk b s) (h:zDp b s=none):zRu b s=[]∧∀ r,r<s.length→∀ o∈(rnd b r).may,o≠s.getD r 0→zB3 b s (s.getD r 0) s.length-zB3 b s o s.length≤zBW b (rnd b r):=by
 have hn:mvs b (zAg b) (zMj b s) s s.length=[]:=by
  simp only [zDp] at h
  split at h
  ·assumption
  ·cases h
 refine ⟨by rw [zPK hs,hn],fun r hr o ho hH=>?_⟩
 have hg:=zBl hs.box
 have jE:=(zCA hg (i:=r) (by rw [← hs.len];exact hr)).2.1 o ho
 have jd:¬ zNc b (zAg b) (zMj b s) s r o.toNat=true:=fun yE=>by
  have:(r,o.toNat)∈mvs b (zAg b) (zMj b s) s s.length:=zTQ.2 ⟨hr,by omega,yE⟩
  rw [hn] at this;cases this
 rw [zLh hs hr (by omega),Int.toNat_of_nonneg jE.1,zJt hr hH] at jd
 have hh:has (rnd b r).may o=true:=by
  simp only [has,List.any_eq_true,decide_eq_true_eq];exact ⟨o,ho,rfl⟩
 rw [hh] at jd
 simp only [Bool.true_and,Bool.and_eq_true,decide_eq_true_eq,not_and] at jd
 have:=jd hH
 omega
end Go.Eng
set_option maxRecDepth 10000
namespace Go.Eng
open Go Go.Proofs
theorem zIr {l:List Int} (hH:l≠[]):zBI l∈l:=by
 have key:∀ (l:List Int) (m:Int),l.foldl (fun m x=>if x>m then x else m) m=m∨l.foldl (fun m x=>if x>m then x else m) m∈l:=by
  intro l
  induction l with
  | nil=>intro m;exact .inl rfl
  | cons y l ih =>
   intro m
   simp only [List.foldl_cons]
   rcases ih (if y>m then y else m) with h | h
   ·by_cases hy:y>m
    ·rw [if_pos hy] at h ⊢;exact .inr (by rw [h];simp)
    ·rw [if_neg hy] at h ⊢;exact .inl h
   ·exact .inr (List.mem_cons_of_mem _ h)
 cases l with
 | nil=>exact (hH rfl).elim
 | cons y l =>
  rcases key l y with h | h
  ·show l.foldl _ y∈_;rw [h];simp
  ·exact List.mem_cons_of_mem _ h
theorem zHk {l:List Int} (hH:l≠[]):zCc l∈l:=by
 have key:∀ (l:List Int) (m:Int),l.foldl (fun m x=>if x<m then x else m) m=m∨l.foldl (fun m x=>if x<m then x else m) m∈l:=by
  intro l
  induction l with
  | nil=>intro m;exact .inl rfl
  | cons y l ih =>
   intro m
   simp only [List.foldl_cons]
   rcases ih (if y<m then y else m) with h | h
   ·by_cases hy:y<m
    ·rw [if_pos hy] at h ⊢;exact .inr (by rw [h];simp)
    ·rw [if_neg hy] at h ⊢;exact .inl h
   ·exact .inr (List.mem_cons_of_mem _ h)
 cases l with
 | nil=>exact (hH rfl).elim
 | cons y l =>
  rcases key l y with h | h
  ·show l.foldl _ y∈_;rw [h];simp
  ·exact List.mem_cons_of_mem _ h
theorem zKj {b:Dk} {l:List Int} (hs:ShareOk b l):zPf b (zA7 b) b.rs.length 0 0 0 0 l=zBI (zAj b l)-zCc (zAj b l):=by
 rw [zQv hs,zQs hs];rfl
theorem zSy {b:Dk} (hg:Good b):ShareOk b (zEz b (zA7 b))∧zBI (zAj b (zEz b (zA7 b)))-zCc (zAj b (zEz b (zA7 b)))=zIc b (zA7 b)∧∀ s,ShareOk b s→zIc b (zA7 b)≤zBI (zAj b s)-zCc (zAj b s):=by
 obtain ⟨⟨A,B,e,_,_⟩,hV,yK⟩:=zKb (w:=zA7 b) hg (zLQ hg) b.rs.length 0 0 0 0 (Nat.le_refl _) (Int.le_refl _) (Int.le_refl _) (Int.le_refl _) (Int.le_refl _)
 have e1:zEz b (zA7 b)=zEK b (zA7 b) b.rs.length 0 0 0 0:=by simp only [zEz,zGS hg,if_true]
 have e2:zIc b (zA7 b)=zB5 b (zA7 b) b.rs.length 0 0 0 0:=by simp only [zIc,zGS hg,if_true]
 rw [e1,e2]
 have hm:zEK b (zA7 b) b.rs.length 0 0 0 0∈shN b b.rs.length:=by rw [e];simp
 have hs:=zUO hg hm
 refine ⟨hs,by rw [← zKj hs];exact hV,fun s hs=>?_⟩
 rw [← zKj hs]
 exact yK s (zQe hs)
theorem zLS {b:Dk} {l:List Int} {c:Int}:∀ n,(∀ r,r<n→l.getD r 0≠c)→zB3 b l c n=0
 | 0,_=>rfl
 | n+1,h=>by
  have h1:=h n (by omega)
  have ih:=zLS (b:=b) n fun r hr=>h r (by omega)
  simp only [zB3,h1,if_false];exact ih
theorem zM4 {b:Dk} {s:List Int} {G:Int} (hs:ShareOk b s) (h:zDp b s=none) (hf:∀ r,r<b.rs.length→∀ c:Int,0≤c→c<b.cr→c∈(rnd b r).may) (hG:∀ r,r<b.rs.length→zBW b (rnd b r)≤G) (hG0:0≤G):zBI (zAj b s)-zCc (zAj b s)≤G:=by
 obtain ⟨c,hc,ec⟩:=(zG2 hs).1 (zIr (zEy hs))
 obtain ⟨o,ho,eo⟩:=(zG2 hs).1 (zHk (zEy hs))
 have jD:=(zBl hs.box).cr
 have hO:=hs.len
 have hmin:=(zHF hs _ (zHk (zEy hs))).1
 by_cases hx:∃ r,r<s.length∧s.getD r 0=c
 ·obtain ⟨r,hr,e⟩:=hx
  by_cases hoc:(o:Int)=c
  ·rw [ec,eo,hoc];omega
  ·have:=(zLy hs h).2 r hr o (hf r (by omega) o (by omega) (by omega)) (by rw [e];exact hoc)
   rw [e,← ec,← eo] at this
   have:=hG r (by omega)
   omega
 ·have:zB3 b s c s.length=0:=zLS _ fun r hr e=>hx ⟨r,hr,e⟩
  rw [ec,this];omega
end Go.Eng
set_option maxRecDepth 10000
set_option maxHeartbeats 4000000
namespace Go.Eng
open Go Go.Proofs
end Go.Eng
set_option maxRecDepth 10000
set_option maxHeartbeats 4000000
namespace Go.Eng
open Go Go.Proofs
structure Mk where
 k:Bool
 r:Rnd
 deriving Inhabited
def zWk:Bool→List Int→PV
 | true,l => .own 1 (l.map I)
 | false,l=>zCm l
def zCl (x:Mk):PV := .agg [I x.r.w,I x.r.s,zWk x.k x.r.may]
def zQ7 (x:Mk):PV:=zBb x.r
instance:FrzOf zCl zQ7:=⟨fun x=>by
 obtain ⟨k,r⟩:=x
 cases k
 ·rfl
 ·show PV.agg [_,_,PV.sl (zAo (r.may.map I))]=_;rw [zA6];rfl⟩
def rng (n:Nat):List Int:=(List.range n).map fun i:Nat=>(i:Int)
theorem zSG (n:Nat):rng (n+1)=rng n++[(n:Int)]:=by simp [rng,List.range_succ]
def frB (b:Dk) (L:List Mk):Dk:={b with rs:=L.map Mk.r}
theorem f57M [Yo] (b:Dk) (L:List Mk) (r:Nat) (hr:r<L.length) (hg:Good (frB b L)):FG 57 [.agg [I b.cr,I b.wd,I b.st,I b.fn,.sl (L.map zQ7)],I r] (I (zBW b (L.getD r default).r)):=by
 have h:=f57 (frB b L) r (by simp only [frB,List.length_map];exact hr) hg
 have e1:zEZ (frB b L) = .agg [I b.cr,I b.wd,I b.st,I b.fn,.sl (L.map zQ7)]:=by
  show PV.agg [_,_,_,_,PV.sl ((L.map Mk.r).map zBb)]=_;rw [List.map_map];rfl
 have e2:zBW (frB b L) (rnd (frB b L) r)=zBW b (L.getD r default).r:=by
  have:rnd (frB b L) r=(L.getD r default).r:=by
   simp only [rnd,frB];rw [zAK (by simpa using hr),zAK hr,List.getElem_map]
  rw [this];rfl
 rw [e1,e2] at h;exact h
structure FrOk (b:Dk) (r:Nat) (L:List Mk) (G:Int):Prop where
 len:L.length=b.rs.length
 ok:∀ i,i<L.length→RndOk b.cr (L.getD i default).r
 old:∀ i,r≤i→i<L.length→(L.getD i default).k=false
 may:∀ i,i<r→(L.getD i default).r.may=rng b.cr.toNat
 fee:∀ i,i<r→zBW b (L.getD i default).r≤G
 g:0≤G∧G≤1000
theorem zP5 {b:Dk} (hg:Good b) {L:List Mk} (hl:L.length=b.rs.length) (ok:∀ i,i<L.length→RndOk b.cr (L.getD i default).r):Good (frB b L):=by
 have key:∀ x∈L.map Mk.r,RndOk b.cr x:=fun x hx=>by
  obtain ⟨y,hy,rfl⟩:=List.mem_map.1 hx
  obtain ⟨i,hi,rfl⟩:=List.getElem_of_mem hy
  have:=ok i hi
  rw [zAK hi] at this;exact this
 refine ⟨hg.cr,?_,hg.wd,hg.st,hg.fn,fun x hx=>⟨(key x hx).w,(key x hx).s⟩,fun x hx=>⟨(key x hx).n,(key x hx).may,(key x hx).inc⟩⟩
 show (L.map Mk.r).length≤7;rw [List.length_map,hl];exact hg.len
theorem zDh {l:List Mk} {i j:Nat} {v:Mk} (hi:i<l.length):(l.set i v).getD j default=if i=j then v else l.getD j default:=by
 simp only [List.getD_eq_getElem?_getD,List.getElem?_set]
 by_cases h:i=j
 ·subst h;simp [hi]
 ·simp [h]
theorem zPy (n:Nat):(rng n).length=n:=by simp [rng]
theorem zTp {n j:Nat} (h:j<n):(rng n).getD j 0=j:=by simp [rng,h]
theorem zPF {n:Nat} {x:Int}:x∈rng n↔0≤x∧x<n:=by
 simp only [rng,List.mem_map,List.mem_range]
 constructor
 ·rintro ⟨i,hi,rfl⟩;omega
 ·intro h;exact ⟨x.toNat,by omega,by omega⟩
theorem zVm {cr:Int} (hc:1≤cr) {x:Rnd} (h:RndOk cr x):RndOk cr ⟨x.w,x.s,rng cr.toNat⟩:=by
 refine ⟨h.w,h.s,?_,fun y hy=>?_,zRe fun j hj=>?_⟩
 ·show (rng _).length≠0;rw [zPy];omega
 ·have:=zPF.1 hy;omega
 ·have hj:j+1<(rng cr.toNat).length:=hj
  rw [zPy] at hj
  show (rng _).getD j 0<(rng _).getD (j+1) 0
  rw [zTp (by omega),zTp hj];omega
theorem zUj {b:Dk} (hg:Good b):FrOk b 0 (b.rs.map (Mk.mk false)) 0:=by
 have e:∀ i,i<(b.rs.map (Mk.mk false)).length→(b.rs.map (Mk.mk false)).getD i default=⟨false,rnd b i⟩:=fun i hi=>by
  rw [zAK hi,List.getElem_map,rnd,zAK (by simpa using hi)]
 refine ⟨List.length_map _,fun i hi=>?_,fun i _ hi=>by rw [e i hi],fun i hi=>by omega,fun i hi=>by omega,by omega⟩
 rw [e i hi]
 have uG:i<b.rs.length:=by simpa using hi
 have hm:rnd b i∈b.rs:=by rw [rnd,zAK uG];exact List.getElem_mem uG
 have h1:=hg.num _ hm
 have h2:=hg.may _ hm
 exact ⟨h1.1,h1.2,h2.1,h2.2.1,h2.2.2⟩
theorem zSE {b:Dk} {r:Nat} {L:List Mk} {G:Int} (hf:FrOk b r L G) (hr:r<L.length):∃ (L1:List Mk) (x:Rnd),L=L1.set r ⟨false,x⟩∧L1.length=L.length∧x=(L.getD r default).r:=by
 refine ⟨L,(L.getD r default).r,?_,rfl,rfl⟩
 have h:=hf.old r (Nat.le_refl _) hr
 have e:L.getD r default=⟨false,(L.getD r default).r⟩:=by
  generalize L.getD r default=y at *
  cases y;simp only at h;subst h;rfl
 rw [← e,zAK hr];exact (List.set_getElem_self hr).symm
theorem zVs {b:Dk} {r:Nat} {L:List Mk} {x:Rnd} {G:Int} (jD:1≤b.cr) (hf:FrOk b r (L.set r ⟨false,x⟩) G) (hr:r<L.length) (hx:RndOk b.cr x):∀ i,i<(L.set r ⟨true,⟨x.w,x.s,rng b.cr.toNat⟩⟩).length→RndOk b.cr ((L.set r ⟨true,⟨x.w,x.s,rng b.cr.toNat⟩⟩).getD i default).r:=fun i hi=>by
 rw [List.length_set] at hi
 rw [zDh hr]
 by_cases h:r=i
 ·rw [if_pos h];exact zVm jD hx
 ·have:=hf.ok i (by rw [List.length_set];exact hi)
  rw [zDh hr,if_neg h] at this
  rw [if_neg h];exact this
theorem zTO {b:Dk} {r:Nat} {L:List Mk} {x:Rnd} {G M:Int} (jD:1≤b.cr) (hf:FrOk b r (L.set r ⟨false,x⟩) G) (hr:r<L.length) (hx:RndOk b.cr x) (h1:G≤M) (h2:zBW b x≤M) (h3:M≤1000):FrOk b (r+1) (L.set r ⟨true,⟨x.w,x.s,rng b.cr.toNat⟩⟩) M:=by
 have g:=hf.g
 have hl:=hf.len
 rw [List.length_set] at hl
 refine ⟨by rw [List.length_set];exact hl,zVs jD hf hr hx,fun i hi vH=>?_,fun i hi=>?_,fun i hi=>?_,by omega⟩
 ·rw [List.length_set] at vH
  have:=hf.old i (by omega) (by rw [List.length_set];exact vH)
  rw [zDh hr,if_neg (by omega)] at this
  rw [zDh hr,if_neg (by omega)];exact this
 ·rw [zDh hr]
  by_cases h:r=i
  ·rw [if_pos h]
  ·rw [if_neg h]
   have:=hf.may i (by omega)
   rw [zDh hr,if_neg h] at this;exact this
 ·rw [zDh hr]
  by_cases h:r=i
  ·rw [if_pos h];exact h2
  ·rw [if_neg h]
   have:=hf.fee i (by omega)
   rw [zDh hr,if_neg h] at this;omega
theorem zV1 (b:Dk) (L:List Mk):zEZ (frB b L) = .agg [I b.cr,I b.wd,I b.st,I b.fn,.sl (L.map zQ7)]:=by
 show PV.agg [_,_,_,_,PV.sl ((L.map Mk.r).map zBb)]=_;rw [List.map_map];rfl
theorem zU8 {b:Dk} {L:List Mk} {i:Nat} (hi:i<L.length):rnd (frB b L) i=(L.getD i default).r:=by
 simp only [rnd,frB];rw [zAK (by simpa using hi),zAK hi,List.getElem_map]
theorem zQc {b:Dk} {r:Nat} {L:List Mk} {G:Int} {z:List Int} (hf:FrOk b r L G) (hr:r=L.length) (hz:ShareOk (frB b L) z) (h:zDp (frB b L) z=none):zBI (zAj (frB b L) z)-zCc (zAj (frB b L) z)≤G:=by
 have e:(frB b L).rs.length=L.length:=List.length_map _
 refine zM4 hz h (fun i hi c h0 h1=>?_) (fun i hi=>?_) hf.g.1
 ·rw [e] at hi
  rw [zU8 hi,hf.may i (by omega)]
  exact zPF.2 ⟨h0,by have:c<b.cr:=h1;omega⟩
 ·rw [e] at hi
  rw [zU8 hi]
  exact hf.fee i (by omega)
theorem f10 (nums tries:List Int) (h1:nums.length<9223372036854775808) (h2:tries.length<9223372036854775808):FG 10 [.sl (nums.map u8),.sl (tries.map u8)] (.bool true):=by
 obtain ⟨v,h',hm,b,a1,t1,rfl,rfl,hg,kG,ha1⟩:=f21_ex nums 0 0 6 ⟨Nat.zero_le _,h1⟩ (by omega)
 have jD:=hg.cr
 have hrl:=hg.len
 have gz:∀ r∈b.rs,r.may.length≤4:=fun r hr=>by have:=hg.may r hr;have:=zEv this.2.2 this.2.1 jD;omega
 have jc:zGe b:=⟨by omega,fun r hr=>by have:=gz r hr;omega⟩
 obtain ⟨LE,gU,vB⟩:=zSy hg
 have h43:=f43 b jc
 rw [zGS hg] at h43
 have h25b:=f25_1 b _ LE
 have qg:=zGT LE
 have wl:=zHF LE
 have h30:FG 30 [zEZ b] (.agg [I b.cr,I b.wd,I b.st,I b.fn,.own 3 ((b.rs.map (Mk.mk false)).map zCl)]):=by
  rw [List.map_map];exact f30 b (by omega) (fun r hr=>by have:=gz r hr;omega)
 obtain ⟨best,e1⟩:∃ x,zEz b (zA7 b)=x:=⟨_,rfl⟩
 obtain ⟨close,e2⟩:∃ x,zIc b (zA7 b)=x:=⟨_,rfl⟩
 simp only [e1,e2] at LE gU vB h43 h25b qg wl
 clear e1 e2
 have vX:=zIr (zEy LE)
 have hbn2:=zHk (zEy LE)
 have yX:=wl _ vX
 have jS:=wl _ hbn2
 have wn:(zBI (zAj b best)-zCc (zAj b best) != close)=false:=by rw [gU];simp
 refine zAi Try.f10 ?_
 refine zAc (zAa (zAe 1 (zAd (zAc (zAa (zAe 1 (S_a [(6,.ret (zBO nums 0 0) ([]))] (ap (f22 (nums)) an) (S_a [(6,.ret (zVH b) ([zBO nums a1 t1]))] (ap (hm) an) (zAe 1 (S_a [(3,.v (PV.agg [I b.cr,I b.wd,I b.st,I b.fn,PV.sl (List.map (fun x=>PV.agg [I x.w,I x.s,PV.sl (List.map I x.may)]) b.rs)]))] (ap ((by simp only [show zAo (List.map zJL b.rs)=List.map (fun x=>PV.agg [I x.w,I x.s,PV.sl (List.map I x.may)]) b.rs from (by first | exact zA6 _ | exact zDJ _ | exact zAu _ | exact zAE (zDJ _) | exact zAE (zAu _) | exact zD4 (by simp [zDg]) (zA6 _))]):PV.agg [I b.cr,I b.wd,I b.st,I b.fn,PV.sl (zAo (List.map zJL b.rs))]=PV.agg [I b.cr,I b.wd,I b.st,I b.fn,PV.sl (List.map (fun x=>PV.agg [I x.w,I x.s,PV.sl (List.map I x.may)]) b.rs)]) an) (zAd (zAc (zAa (zAe 1 (S_a [(6,.ret (zBO tries 0 0) ([]))] (ap (f22 (tries)) an) (zAe 1 (zAd (zAc (zAa (zAe 1 (S_a [(6,.ret (PV.tup [zVK best,I close,I 0]) ([]))] (ap (h43) an) (zAe 7 (zAd (zAc (zAa (zAe 2 (S_a [(5,.ob),(0,.v (PV.sl (List.map I best))),(2,.ret (PV.own 1 (List.map I (zAj b best))) ([])),(1,.yes)] (ap ((by exact zAL (by simp only [List.length_map,zzLn,zAI]<;>omega)):(0+(List.map I best).length).ble (List.map I best).length=true) (ap ((zCj (zAE (zAu _))):PV.sl (zAo (List.take (List.map I best).length (List.drop 0 (List.map I best))))=PV.sl (List.map I best)) (ap (h25b) (ap ((by exact zCO _):(PV.own 1 (List.map I (zAj b best))).free=true) an)))) (zAe 1 (zAd (zAc (zAc (zAa (zAe 4 (S_a [(0,.v (PV.bool false))] (ap (zTz (by first | omega | (simp<;>omega)):zNB Try.prog BinOp.eql 22 (PV.bor 10 [] 1 0 (List.map I (zAj b best)).length) (zEg (Value.slice none 0 0))=some (PV.bool false)) an) (zAe 3 (S_a [(3,.ob),(0,.v (PV.sl (List.map I (zAj b best)))),(2,.ret (I (zBI (zAj b best))) ([]))] (ap ((by exact zAL (by simp only [List.length_map,zzLn,zAI]<;>omega)):(0+(List.map I (zAj b best)).length).ble (List.map I (zAj b best)).length=true) (ap ((zCj (zAE (zAu _))):PV.sl (zAo (List.take (List.map I (zAj b best)).length (List.drop 0 (List.map I (zAj b best)))))=PV.sl (List.map I (zAj b best))) (ap (f53 (zAj b best) (by omega) (by omega)) an))) (zAe 1 (S_a [(3,.ob),(0,.v (PV.sl (List.map I (zAj b best)))),(2,.ret (I (zCc (zAj b best))) ([]))] (ap ((by exact zAL (by simp only [List.length_map,zzLn,zAI]<;>omega)):(0+(List.map I (zAj b best)).length).ble (List.map I (zAj b best)).length=true) (ap ((zCj (zAE (zAu _))):PV.sl (zAo (List.take (List.map I (zAj b best)).length (List.drop 0 (List.map I (zAj b best)))))=PV.sl (List.map I (zAj b best))) (ap (f54 (zAj b best) (by omega) (by omega)) an))) (S_a [(1,.v (I (zBI (zAj b best)-zCc (zAj b best))))] (ap ((zAR rfl (by omega)):I (IntKind.i64.wrap (zBI (zAj b best)-zCc (zAj b best)))=I (zBI (zAj b best)-zCc (zAj b best))) an) (zAe 3 (zAd (zIL (zBI (zAj b best)-zCc (zAj b best)=close) (by omega) (zAx (zAc (zAc (zAa (zAe 1 (zAd (zAp 0 ?_)))))))))))))))))))))))))))))))))))))))))))))))))
 refine zBo (fun (i,a,t)=>i≤8∧zD5 tries a) (fun (i,a,t)=>[(6,zBO tries a t),(53,I (i:Nat))]) (fun (i,_,_)=>8-i) ((0:Nat),(0:Nat),(0:Int)) ⟨by omega,Nat.zero_le _,h2⟩ fun (i,a,t) ⟨hi,ha⟩=>?_
 by_cases hi8:i<8
 ·obtain ⟨v,h',jU,s,a3,t3,rfl,rfl,hs,ha3⟩:=f23_ex tries a t b ha hg
  have jK:=hs.len
  have h55:=f55 b s jc (by omega)
  have h56:=f56 b s jc (by omega)
  rw [zC8 hs] at h55 h56
  have h25s:=f25_1 b s hs
  have wL:=zGT hs
  have yK:=vB s hs
  have esp:zJx b s=zBI (zAj b s)-zCc (zAj b s):=by simp only [zJx,zC8 hs,if_true]
  rw [esp] at h55
  have h20:=f20 (zAj b s) (zAj b s) (by omega)
  rw [show decide (zAj b s=zAj b s)=true from by simp] at h20
  have uh:=zHF hs _ (zIr (zEy hs))
  have kK:=zHF hs _ (zHk (zEy hs))
  have hs3:(zBI (zAj b s)-zCc (zAj b s) != zBI (zAj b s)-zCc (zAj b s))=false:=by simp
  clear hs vB wl
  refine zAc (zAa (zAe 1 (zAd (zAc (zFm ((↑i:Int)<8) (by omega) (zAx (zAc (zAp 1 (zAc (zAa (zAe 2 (S_a [(6,.ret (PV.own 1 (List.map I s)) ([zBO tries a3 t3]))] (ap (jU) an) (zAe 1 (zAd (zAc (zAa (zAe 2 (S_a [(5,.ob),(0,.v (PV.sl (List.map I s))),(2,.ret (PV.tup [I (zBI (zAj b s)-zCc (zAj b s)),I 0]) ([]))] (ap ((by exact zAL (by simp only [List.length_map,zzLn,zAI]<;>omega)):(0+(List.map I s).length).ble (List.map I s).length=true) (ap ((zCj (zAE (zAu _))):PV.sl (zAo (List.take (List.map I s).length (List.drop 0 (List.map I s))))=PV.sl (List.map I s)) (ap (h55) an))) (zAe 5 (zAd (zAc (zAa (zAe 2 (S_a [(5,.ob),(0,.v (PV.sl (List.map I s))),(2,.ret (PV.tup [PV.own 1 (List.map I (zAj b s)),I 0]) ([])),(1,.yes)] (ap ((by exact zAL (by simp only [List.length_map,zzLn,zAI]<;>omega)):(0+(List.map I s).length).ble (List.map I s).length=true) (ap ((zCj (zAE (zAu _))):PV.sl (zAo (List.take (List.map I s).length (List.drop 0 (List.map I s))))=PV.sl (List.map I s)) (ap (h56) (ap ((by exact zOd (zCO _) rfl):(PV.tup [PV.own 1 (List.map I (zAj b s)),I 0]).free=true) an)))) (zAe 5 (zAd (zAc (zAa (zAe 2 (S_a [(5,.ob),(0,.v (PV.sl (List.map I s))),(2,.ret (PV.own 1 (List.map I (zAj b s))) ([])),(1,.yes)] (ap ((by exact zAL (by simp only [List.length_map,zzLn,zAI]<;>omega)):(0+(List.map I s).length).ble (List.map I s).length=true) (ap ((zCj (zAE (zAu _))):PV.sl (zAo (List.take (List.map I s).length (List.drop 0 (List.map I s))))=PV.sl (List.map I s)) (ap (h25s) (ap ((by exact zCO _):(PV.own 1 (List.map I (zAj b s))).free=true) an)))) (zAe 1 (zAd (zAc (zAa (zAe 9 (S_a [(3,.ob),(0,.v (PV.sl (List.map I (zAj b s)))),(1,.ob),(0,.v (PV.sl (List.map I (zAj b s)))),(2,.ret (PV.bool true) ([]))] (ap ((by exact zAL (by simp only [List.length_map,zzLn,zAI]<;>omega)):(0+(List.map I (zAj b s)).length).ble (List.map I (zAj b s)).length=true) (ap ((zCj (zAE (zAu _))):PV.sl (zAo (List.take (List.map I (zAj b s)).length (List.drop 0 (List.map I (zAj b s)))))=PV.sl (List.map I (zAj b s))) (ap ((by exact zAL (by simp only [List.length_map,zzLn,zAI]<;>omega)):(0+(List.map I (zAj b s)).length).ble (List.map I (zAj b s)).length=true) (ap ((zCj (zAE (zAu _))):PV.sl (zAo (List.take (List.map I (zAj b s)).length (List.drop 0 (List.map I (zAj b s)))))=PV.sl (List.map I (zAj b s))) (ap (h20) an))))) (zAe 5 (S_a [(3,.ob),(0,.v (PV.sl (List.map I (zAj b s)))),(2,.ret (I (zBI (zAj b s))) ([]))] (ap ((by exact zAL (by simp only [List.length_map,zzLn,zAI]<;>omega)):(0+(List.map I (zAj b s)).length).ble (List.map I (zAj b s)).length=true) (ap ((zCj (zAE (zAu _))):PV.sl (zAo (List.take (List.map I (zAj b s)).length (List.drop 0 (List.map I (zAj b s)))))=PV.sl (List.map I (zAj b s))) (ap (f53 (zAj b s) (by omega) (by omega)) an))) (zAe 1 (S_a [(3,.ob),(0,.v (PV.sl (List.map I (zAj b s)))),(2,.ret (I (zCc (zAj b s))) ([]))] (ap ((by exact zAL (by simp only [List.length_map,zzLn,zAI]<;>omega)):(0+(List.map I (zAj b s)).length).ble (List.map I (zAj b s)).length=true) (ap ((zCj (zAE (zAu _))):PV.sl (zAo (List.take (List.map I (zAj b s)).length (List.drop 0 (List.map I (zAj b s)))))=PV.sl (List.map I (zAj b s))) (ap (f54 (zAj b s) (by omega) (by omega)) an))) (S_a [(1,.v (I (zBI (zAj b s)-zCc (zAj b s))))] (ap ((zAR rfl (by omega)):I (IntKind.i64.wrap (zBI (zAj b s)-zCc (zAj b s)))=I (zBI (zAj b s)-zCc (zAj b s))) an) (zAe 3 (zHt 94 (zBI (zAj b s)-zCc (zAj b s)=zBI (zAj b s)-zCc (zAj b s)) (by omega) (zAe 4 (zAd (zEo (zBI (zAj b s)-zCc (zAj b s)<close) (by omega) (zAx (zAa (S_a [(1,.v (I (↑(i+1):Int)))] (ap ((zAR (by omega) (by omega)):I (IntKind.i64.wrap ((↑i:Int)+1))=I (↑(i+1):Int)) an) (zAe 1 (zAd ?_)))))))))))))))))))))))))))))))))))))))))))))))))))
  exact ⟨(i+1,a3,t3),⟨by omega,ha3⟩,by simp only;omega,by kernel_rfl,by kernel_rfl⟩
 ·have hL0:(b.rs.map (Mk.mk false)).length=b.rs.length:=List.length_map _
  refine zAc (zAa (zAe 1 (zAd (zAc (zEo ((↑i:Int)<8) (by omega) (zBM 0 (zAc (zAa (zAe 1 (S_a [(6,.ret (PV.agg [I b.cr,I b.wd,I b.st,I b.fn,PV.own 3 (List.map zCl (List.map (Mk.mk false) b.rs))]) ([]))] (ap (h30) an) (zAe 2 (zAd (zAc (zAa (zAe 1 (zAd (zAc (zAc (zAa (zAe 1 (S_a [(1,.v (PV.bor 17 [(0,4)] 3 0 (List.map (Mk.mk false) b.rs).length))] (ap ((by simp):PV.bor 17 [(0,4)] 3 0 (List.map zCl (List.map (Mk.mk false) b.rs)).length=PV.bor 17 [(0,4)] 3 0 (List.map (Mk.mk false) b.rs).length) an) (zAe 2 (zAd (zAp 2 ?_))))))))))))))))))))))))
  refine zBo (fun (r,L,G)=>r≤L.length∧FrOk b r L G) (fun (r,L,G)=>[(17,.box (.agg [I b.cr,I b.wd,I b.st,I b.fn,.own 3 (L.map zCl)])),(18,I G),(105,I (r:Nat))]) (fun (r,L,_)=>L.length-r) ((0:Nat),b.rs.map (Mk.mk false),(0:Int)) ⟨Nat.zero_le _,zUj hg⟩ fun (r,L,G) ⟨hr,hf⟩=>?_
  by_cases qd:r<L.length
  ·have hxo0:=hf.ok r qd
   obtain ⟨L1,x,rfl,qF,hx⟩:=zSE hf qd
   have hxo:RndOk b.cr x:=by rw [hx];exact hxo0
   clear hxo0 hx
   have hO:=hf.len
   have hG:=hf.g
   refine zAc (zAa (zAe 1 (zAd (zAc (zFm ((↑r:Int)<(↑(List.map (Mk.mk false) b.rs).length:Int)) (by omega) (zAx (zAc (zAp 3 (zAc (zAa (zAe 2 (zAd (zAc (zAa (zAe 1 (S_a [(1,.v (PV.bor 17 [(0,4)] 3 0 (L1.set r {k:=false,r:=x}).length))] (ap ((by simp):PV.bor 17 [(0,4)] 3 0 (List.map zCl (L1.set r {k:=false,r:=x})).length=PV.bor 17 [(0,4)] 3 0 (L1.set r {k:=false,r:=x}).length) an) (zAe 1 (S_a [(2,.ob),(1,.n (r))] (ap ((by exact zA8 (by omega)):decide (r<(L1.set r {k:=false,r:=x}).length)=true) (ap ((by simp):some (0+r)=some r) an)) (zAe 1 (S_a [(5,.root ((PV.agg [I b.cr,I b.wd,I b.st,I b.fn,PV.own 3 (List.map zCl (L1.set r {k:=true,r:={w:=x.w,s:=x.s,may:=[]}}))]).box) true)] (ap (zSP (zO6 (p:=(PV.agg [I b.cr,I b.wd,I b.st,I b.fn,PV.own 3 (List.map zCl (L1.set r {k:=false,r:=x}))]).box) (xs:=[PV.agg [I b.cr,I b.wd,I b.st,I b.fn,PV.own 3 (List.map zCl (L1.set r {k:=false,r:=x}))]]) (x:=PV.agg [I b.cr,I b.wd,I b.st,I b.fn,PV.own 3 (List.map zCl (L1.set r {k:=false,r:=x}))]) (q:=PV.own 3 (List.map zCl (L1.set r {k:=false,r:=x}))) (q':=PV.own 3 (List.map zCl (L1.set r {k:=true,r:={w:=x.w,s:=x.s,may:=[]}}))) (y:=PV.agg [I b.cr,I b.wd,I b.st,I b.fn,PV.own 3 (List.map zCl (L1.set r {k:=true,r:={w:=x.w,s:=x.s,may:=[]}}))]) (p':=(PV.agg [I b.cr,I b.wd,I b.st,I b.fn,PV.own 3 (List.map zCl (L1.set r {k:=true,r:={w:=x.w,s:=x.s,may:=[]}}))]).box) rfl (zOj (q:=PV.own 3 (List.map zCl (L1.set r {k:=false,r:=x}))) (xs:=List.map zCl (L1.set r {k:=false,r:=x})) (x:=PV.agg [I x.w,I x.s,PV.sl (List.map I x.may)]) (y:=PV.agg [I x.w,I x.s,PV.own 1 []]) (q':=PV.own 3 (List.map zCl (L1.set r {k:=true,r:={w:=x.w,s:=x.s,may:=[]}}))) (zNW (by omega)) rfl (zUk (g:=zCl) (u:={k:=true,r:={w:=x.w,s:=x.s,may:=[]}}))) rfl rfl) rfl:zBL (PV.agg [I b.cr,I b.wd,I b.st,I b.fn,PV.own 3 (List.map zCl (L1.set r {k:=false,r:=x}))]).box [(0,4)] r 2 (PV.own 1 []).cells=some (PV.agg [I b.cr,I b.wd,I b.st,I b.fn,PV.own 3 (List.map zCl (L1.set r {k:=true,r:={w:=x.w,s:=x.s,may:=[]}}))]).box∧zAM (PV.agg [I b.cr,I b.wd,I b.st,I b.fn,PV.own 3 (List.map zCl (L1.set r {k:=false,r:=x}))]).box (PV.agg [I b.cr,I b.wd,I b.st,I b.fn,PV.own 3 (List.map zCl (L1.set r {k:=true,r:={w:=x.w,s:=x.s,may:=[]}}))]).box [(0,4)]=true) an) (zAd (zAc (zAc (zAa (zAe 3 (zAd (zAp 4 ?_)))))))))))))))))))))))))))
   refine zBo (fun (q,l)=>q≤b.cr.toNat∧l=rng q) (fun (q,l)=>[(17,.box (.agg [I b.cr,I b.wd,I b.st,I b.fn,.own 3 ((L1.set r ⟨true,⟨x.w,x.s,l⟩⟩).map zCl)])),(115,I (q:Nat))]) (fun (q,_)=>b.cr.toNat-q) ((0:Nat),([]:List Int)) ⟨Nat.zero_le _,rfl⟩ fun (q,l) ⟨hq,hl⟩=>?_
   have hll:l.length=q:=by rw [hl];simp [rng]
   by_cases hqc:(q:Int)<b.cr
   ·refine zAc (zAa (zAe 1 (zAd (zAc (zFm ((↑q:Int)<b.cr) (by omega) (zAx (zAc (zAp 5 (zAc (zAa (zAe 2 (zAd (zAa (zAe 1 (S_a [(1,.v (PV.bor 17 [(0,4)] 3 0 (L1.set r {k:=true,r:={w:=x.w,s:=x.s,may:=l}}).length))] (ap ((by simp):PV.bor 17 [(0,4)] 3 0 (List.map zCl (L1.set r {k:=true,r:={w:=x.w,s:=x.s,may:=l}})).length=PV.bor 17 [(0,4)] 3 0 (L1.set r {k:=true,r:={w:=x.w,s:=x.s,may:=l}}).length) an) (zAe 2 (S_a [(1,.v (PV.bor 17 [(0,4)] 3 0 (L1.set r {k:=true,r:={w:=x.w,s:=x.s,may:=l}}).length))] (ap ((by simp):PV.bor 17 [(0,4)] 3 0 (List.map zCl (L1.set r {k:=true,r:={w:=x.w,s:=x.s,may:=l}})).length=PV.bor 17 [(0,4)] 3 0 (L1.set r {k:=true,r:={w:=x.w,s:=x.s,may:=l}}).length) an) (zAe 1 (S_a [(2,.ob),(1,.n (r))] (ap ((by exact zA8 (by simp only [List.length_map,zzLn]<;>omega)):decide (r<(L1.set r {k:=true,r:={w:=x.w,s:=x.s,may:=l}}).length)=true) (ap ((by simp):some (0+r)=some r) an)) (zAe 1 (S_a [(0,.cs true ([PV.bor 17 [(0,4),(r,2)] 1 0 (List.map I l).length])),(0,.v (PV.bor 17 [(0,4),(r,2)] 1 0 l.length))] (ap (zEJ (q:=PV.own 3 (List.map zCl (L1.set r {k:=true,r:={w:=x.w,s:=x.s,may:=l}}))) (xs:=List.map zCl (L1.set r {k:=true,r:={w:=x.w,s:=x.s,may:=l}})) (x:=PV.agg [I x.w,I x.s,PV.own 1 (List.map I l)]) (zR4 (xs:=[PV.agg [I b.cr,I b.wd,I b.st,I b.fn,PV.own 3 (List.map zCl (L1.set r {k:=true,r:={w:=x.w,s:=x.s,may:=l}}))]]) (x:=PV.agg [I b.cr,I b.wd,I b.st,I b.fn,PV.own 3 (List.map zCl (L1.set r {k:=true,r:={w:=x.w,s:=x.s,may:=l}}))]) (y:=PV.own 3 (List.map zCl (L1.set r {k:=true,r:={w:=x.w,s:=x.s,may:=l}}))) rfl rfl) (zNW (by first | omega | (simp<;>omega))):zAH 17 (PV.agg [I b.cr,I b.wd,I b.st,I b.fn,PV.own 3 (List.map zCl (L1.set r {k:=true,r:={w:=x.w,s:=x.s,may:=l}}))]).box [(0,4)] r 2 1=some (true,[PV.bor 17 [(0,4),(r,2)] 1 0 (List.map I l).length])) (ap ((by simp):PV.bor 17 [(0,4),(r,2)] 1 0 (List.map I l).length=PV.bor 17 [(0,4),(r,2)] 1 0 l.length) an)) (zAe 2 (S_a [(2,.v (PV.own 1 (List.map I l))),(1,.ob),(0,.ob),(0,.yes),(1,.root ((PV.agg [I b.cr,I b.wd,I b.st,I b.fn,PV.own 3 ((List.map zCl (L1.set r {k:=true,r:={w:=x.w,s:=x.s,may:=l}})).set r (PV.agg [I x.w,I x.s,PV.bad]))]).box) true),(0,.v (PV.own 1 (List.map I (l++[(↑q:Int)]))))] (ap ((zR4 (xs:=[PV.agg [I b.cr,I b.wd,I b.st,I b.fn,PV.own 3 (List.map zCl (L1.set r {k:=true,r:={w:=x.w,s:=x.s,may:=l}}))]]) (x:=PV.agg [I b.cr,I b.wd,I b.st,I b.fn,PV.own 3 (List.map zCl (L1.set r {k:=true,r:={w:=x.w,s:=x.s,may:=l}}))]) (y:=PV.own 3 (List.map zCl (L1.set r {k:=true,r:={w:=x.w,s:=x.s,may:=l}}))) rfl (zR4 (xs:=List.map zCl (L1.set r {k:=true,r:={w:=x.w,s:=x.s,may:=l}})) (x:=PV.agg [I x.w,I x.s,PV.own 1 (List.map I l)]) (y:=PV.own 1 (List.map I l)) (zNW (by first | omega | (simp<;>omega))) rfl)):zAC (PV.agg [I b.cr,I b.wd,I b.st,I b.fn,PV.own 3 (List.map zCl (L1.set r {k:=true,r:={w:=x.w,s:=x.s,may:=l}}))]).box [(0,4),(r,2)]=some (PV.own 1 (List.map I l))) (ap ((by exact zAL (by simp only [List.length_map,zzLn,zAI]<;>omega)):(0+l.length).ble (List.map I l).length=true) (ap ((by exact zAL (by simp only [List.length_map,zzLn,zAI]<;>omega)):((List.map I l).length + [I (↑q:Int)].length).ble zAI=true) (ap ((by exact zB0 (by simp<;>omega)):(0+l.length).beq (List.map I l).length=true) (ap (⟨(zO6 (p:=(PV.agg [I b.cr,I b.wd,I b.st,I b.fn,PV.own 3 (List.map zCl (L1.set r {k:=true,r:={w:=x.w,s:=x.s,may:=l}}))]).box) (xs:=[PV.agg [I b.cr,I b.wd,I b.st,I b.fn,PV.own 3 (List.map zCl (L1.set r {k:=true,r:={w:=x.w,s:=x.s,may:=l}}))]]) (x:=PV.agg [I b.cr,I b.wd,I b.st,I b.fn,PV.own 3 (List.map zCl (L1.set r {k:=true,r:={w:=x.w,s:=x.s,may:=l}}))]) (q:=PV.own 3 (List.map zCl (L1.set r {k:=true,r:={w:=x.w,s:=x.s,may:=l}}))) (q':=PV.own 3 ((List.map zCl (L1.set r {k:=true,r:={w:=x.w,s:=x.s,may:=l}})).set r (PV.agg [I x.w,I x.s,PV.bad]))) (y:=PV.agg [I b.cr,I b.wd,I b.st,I b.fn,PV.own 3 ((List.map zCl (L1.set r {k:=true,r:={w:=x.w,s:=x.s,may:=l}})).set r (PV.agg [I x.w,I x.s,PV.bad]))]) (p':=(PV.agg [I b.cr,I b.wd,I b.st,I b.fn,PV.own 3 ((List.map zCl (L1.set r {k:=true,r:={w:=x.w,s:=x.s,may:=l}})).set r (PV.agg [I x.w,I x.s,PV.bad]))]).box) rfl (zO6 (p:=PV.own 3 (List.map zCl (L1.set r {k:=true,r:={w:=x.w,s:=x.s,may:=l}}))) (xs:=List.map zCl (L1.set r {k:=true,r:={w:=x.w,s:=x.s,may:=l}})) (x:=PV.agg [I x.w,I x.s,PV.own 1 (List.map I l)]) (q:=PV.own 1 (List.map I l)) (q':=PV.bad) (y:=PV.agg [I x.w,I x.s,PV.bad]) (p':=PV.own 3 ((List.map zCl (L1.set r {k:=true,r:={w:=x.w,s:=x.s,may:=l}})).set r (PV.agg [I x.w,I x.s,PV.bad]))) (zNW (by first | omega | (simp<;>omega))) rfl rfl rfl) rfl rfl),rfl⟩:zAv (fun x=>some PV.bad) (PV.agg [I b.cr,I b.wd,I b.st,I b.fn,PV.own 3 (List.map zCl (L1.set r {k:=true,r:={w:=x.w,s:=x.s,may:=l}}))]).box [(0,4),(r,2)]=some (PV.agg [I b.cr,I b.wd,I b.st,I b.fn,PV.own 3 ((List.map zCl (L1.set r {k:=true,r:={w:=x.w,s:=x.s,may:=l}})).set r (PV.agg [I x.w,I x.s,PV.bad]))]).box∧zAM (PV.agg [I b.cr,I b.wd,I b.st,I b.fn,PV.own 3 (List.map zCl (L1.set r {k:=true,r:={w:=x.w,s:=x.s,may:=l}}))]).box (PV.agg [I b.cr,I b.wd,I b.st,I b.fn,PV.own 3 ((List.map zCl (L1.set r {k:=true,r:={w:=x.w,s:=x.s,may:=l}})).set r (PV.agg [I x.w,I x.s,PV.bad]))]).box [(0,4),(r,2)]=true) (ap ((by simp):PV.own 1 (List.map I l++[I (↑q:Int)])=PV.own 1 (List.map I (l++[(↑q:Int)]))) an)))))) (S_a [(2,.ob),(1,.n (r))] (ap ((by exact zA8 (by simp only [List.length_map,zzLn]<;>omega)):decide (r<(L1.set r {k:=true,r:={w:=x.w,s:=x.s,may:=l}}).length)=true) (ap ((by simp):some (0+r)=some r) an)) (zAe 1 (S_a [(8,.root ((PV.agg [I b.cr,I b.wd,I b.st,I b.fn,PV.own 3 (List.map zCl (L1.set r {k:=true,r:={w:=x.w,s:=x.s,may:=l++[(↑q:Int)]}}))]).box) true)] (ap (zSP (zO6 (p:=(PV.agg [I b.cr,I b.wd,I b.st,I b.fn,PV.own 3 ((List.map zCl (L1.set r {k:=true,r:={w:=x.w,s:=x.s,may:=l}})).set r (PV.agg [I x.w,I x.s,PV.bad]))]).box) (xs:=[PV.agg [I b.cr,I b.wd,I b.st,I b.fn,PV.own 3 ((List.map zCl (L1.set r {k:=true,r:={w:=x.w,s:=x.s,may:=l}})).set r (PV.agg [I x.w,I x.s,PV.bad]))]]) (x:=PV.agg [I b.cr,I b.wd,I b.st,I b.fn,PV.own 3 ((List.map zCl (L1.set r {k:=true,r:={w:=x.w,s:=x.s,may:=l}})).set r (PV.agg [I x.w,I x.s,PV.bad]))]) (q:=PV.own 3 ((List.map zCl (L1.set r {k:=true,r:={w:=x.w,s:=x.s,may:=l}})).set r (PV.agg [I x.w,I x.s,PV.bad]))) (q':=PV.own 3 (List.map zCl (L1.set r {k:=true,r:={w:=x.w,s:=x.s,may:=l++[(↑q:Int)]}}))) (y:=PV.agg [I b.cr,I b.wd,I b.st,I b.fn,PV.own 3 (List.map zCl (L1.set r {k:=true,r:={w:=x.w,s:=x.s,may:=l++[(↑q:Int)]}}))]) (p':=(PV.agg [I b.cr,I b.wd,I b.st,I b.fn,PV.own 3 (List.map zCl (L1.set r {k:=true,r:={w:=x.w,s:=x.s,may:=l++[(↑q:Int)]}}))]).box) rfl (zOj (q:=PV.own 3 ((List.map zCl (L1.set r {k:=true,r:={w:=x.w,s:=x.s,may:=l}})).set r (PV.agg [I x.w,I x.s,PV.bad]))) (xs:=(List.map zCl (L1.set r {k:=true,r:={w:=x.w,s:=x.s,may:=l}})).set r (PV.agg [I x.w,I x.s,PV.bad])) (x:=PV.agg [I x.w,I x.s,PV.bad]) (y:=PV.agg [I x.w,I x.s,PV.own 1 (List.map I (l++[(↑q:Int)]))]) (q':=PV.own 3 (List.map zCl (L1.set r {k:=true,r:={w:=x.w,s:=x.s,may:=l++[(↑q:Int)]}}))) (zV5 (by first | omega | (simp<;>omega))) rfl (zT4 (g:=zCl) (u:={k:=true,r:={w:=x.w,s:=x.s,may:=l++[(↑q:Int)]}}))) rfl rfl) rfl:zBL (PV.agg [I b.cr,I b.wd,I b.st,I b.fn,PV.own 3 ((List.map zCl (L1.set r {k:=true,r:={w:=x.w,s:=x.s,may:=l}})).set r (PV.agg [I x.w,I x.s,PV.bad]))]).box [(0,4)] r 2 (PV.own 1 (List.map I (l++[(↑q:Int)]))).cells=some (PV.agg [I b.cr,I b.wd,I b.st,I b.fn,PV.own 3 (List.map zCl (L1.set r {k:=true,r:={w:=x.w,s:=x.s,may:=l++[(↑q:Int)]}}))]).box∧zAM (PV.agg [I b.cr,I b.wd,I b.st,I b.fn,PV.own 3 ((List.map zCl (L1.set r {k:=true,r:={w:=x.w,s:=x.s,may:=l}})).set r (PV.agg [I x.w,I x.s,PV.bad]))]).box (PV.agg [I b.cr,I b.wd,I b.st,I b.fn,PV.own 3 (List.map zCl (L1.set r {k:=true,r:={w:=x.w,s:=x.s,may:=l++[(↑q:Int)]}}))]).box [(0,4)]=true) an) (zAd (zAa (S_a [(1,.v (I (↑(q+1):Int)))] (ap ((zAR (by omega) (by omega)):I (IntKind.i64.wrap ((↑q:Int)+1))=I (↑(q+1):Int)) an) (zAe 1 (zAd ?_)))))))))))))))))))))))))))))))
    exact ⟨(q+1,l++[(q:Int)]),⟨by omega,by rw [hl,zSG]⟩,by simp only;omega,by kernel_rfl,by kernel_rfl⟩
   ·have hqe:q=b.cr.toNat:=by omega
    rw [hqe] at hl
    rw [List.length_set] at qd
    have hxb:=zF1 hg ⟨hxo.w,hxo.s⟩
    have h57:=f57M b (L1.set r ⟨true,⟨x.w,x.s,rng b.cr.toNat⟩⟩) r (by rw [List.length_set];omega) (zP5 hg (by rw [List.length_set];rw [List.length_set] at hO;exact hO) (zVs jD.1 hf qd hxo))
    rw [zDh qd,if_pos rfl,← hl] at h57
    replace h57:FG 57 [.agg [I b.cr,I b.wd,I b.st,I b.fn,.sl ((L1.set r ⟨true,⟨x.w,x.s,l⟩⟩).map zQ7)],I r] (I (zBW b x)):=h57
    refine zAc (zAa (zAe 1 (zAd (zAc (zEo ((↑q:Int)<b.cr) (by omega) (zBM 4 (zAa (zAe 3 (S_a [(12,.ob),(0,.v (PV.sl (List.map zQ7 (L1.set r {k:=true,r:={w:=x.w,s:=x.s,may:=l}})))),(4,.ret (I (zBW b x)) ([]))] (ap ((by exact zAL (by simp only [List.length_map,zzLn,zAI]<;>omega)):(0+(List.map zCl (L1.set r {k:=true,r:={w:=x.w,s:=x.s,may:=l}})).length).ble (List.map zCl (L1.set r {k:=true,r:={w:=x.w,s:=x.s,may:=l}})).length=true) (ap ((zCj (zAE (zDJ _))):PV.sl (zAo (List.take (List.map zCl (L1.set r {k:=true,r:={w:=x.w,s:=x.s,may:=l}})).length (List.drop 0 (List.map zCl (L1.set r {k:=true,r:={w:=x.w,s:=x.s,may:=l}})))))=PV.sl (List.map zQ7 (L1.set r {k:=true,r:={w:=x.w,s:=x.s,may:=l}}))) (ap (h57) an))) (zAe 2 (zAd (zAa (S_a [(1,.v (I (↑(r+1):Int)))] (ap ((zAR (by omega) (by omega)):I (IntKind.i64.wrap ((↑r:Int)+1))=I (↑(r+1):Int)) an) (zAe 1 (zAd ?_)))))))))))))))
    exact ⟨(r+1,L1.set r ⟨true,⟨x.w,x.s,l⟩⟩,if zBW b x>G then zBW b x else G),⟨by simp only [List.length_set];omega,by rw [hl];exact zTO jD.1 hf qd hxo (by split<;>omega) (by split<;>omega) (by split<;>omega)⟩,by simp only [List.length_set];omega,by kernel_rfl,by kernel_rfl⟩
  ·have hO:=hf.len
   have hgB:=zP5 hg hf.len hf.ok
   have hrL:r=L.length:=by omega
   have hG:=hf.g
   obtain ⟨v2,jF,hsh2,s2,a4,t4,rfl,rfl,kK,ha4⟩:=f23_ex tries a t (frB b L) ha hgB
   have qB:=kK.len
   have hlB:(frB b L).rs.length=b.rs.length:=by rw [← hO];exact List.length_map _
   have hsmB:zGe (frB b L):=⟨by omega,fun r hr=>by have:=hgB.may r hr;have:=zEv this.2.2 this.2.1 hgB.cr;omega⟩
   have h36:=f36 (frB b L) s2 hsmB (by omega)
   rw [zC8 kK] at h36
   obtain ⟨z1,z2,z3,z4,z5⟩:=zLW kK
   have yS:=zQc hf hrL z1 z3
   have vS:=f25_1 (frB b L) _ z1
   have hfz:=zGT z1
   have uL:=zHF z1 _ (zIr (zEy z1))
   have kC:=zHF z1 _ (zHk (zEy z1))
   have hcB:(frB b L).cr=b.cr:=rfl
   rw [hcB] at hfz
   rw [zV1] at hsh2 h36 vS
   clear z1 z2 z3 z5 kK vB wl hf hgB
   obtain ⟨fz,e1⟩:∃ x,zAj (frB b L) (zDP (frB b L) s2)=x:=⟨_,rfl⟩
   rw [e1] at yS vS hfz uL kC
   obtain ⟨z,e2⟩:∃ x,zDP (frB b L) s2=x:=⟨_,rfl⟩
   rw [e2] at vS h36
   obtain ⟨kz,e3⟩:∃ x,zE9 (frB b L) s2=x:=⟨_,rfl⟩
   rw [e3] at h36
   clear e1 e2 e3 z4
   replace h36:FG 36 [.agg [I b.cr,I b.wd,I b.st,I b.fn,.sl (L.map zQ7)],zCm s2] (.tup [.own 1 (z.map I),I kz,I 0]):=h36
   replace vS:FG 25 [.agg [I b.cr,I b.wd,I b.st,I b.fn,.sl (L.map zQ7)],zCm z] (.own 1 (fz.map I)):=vS
   refine zAc (zAa (zAe 1 (zAd (zAc (zEo ((↑r:Int)<(↑(List.map (Mk.mk false) b.rs).length:Int)) (by omega) (zT3 2 ([(5,(PV.agg [I b.cr,I b.wd,I b.st,I b.fn,PV.sl (List.map (fun x=>PV.agg [I x.w,I x.s,PV.sl (List.map I x.may)]) b.rs)]).box),(6,(PV.agg [PV.sl (List.map u8 tries),I (↑a:Int),PV.int IntKind.u32 t]).box),(8,I close),(17,(PV.agg [I b.cr,I b.wd,I b.st,I b.fn,PV.sl (zAo (List.map zCl L))]).ref),(18,I G),(29,PV.tup [PV.bad,PV.bad,PV.bad]),(31,PV.tup [PV.bad,PV.bad,PV.bad]),(52,PV.bool (zBI (zAj b best)-zCc (zAj b best) != close)),(53,I (↑i:Int)),(54,PV.bool (decide ((↑i:Int)<8))),(104,I (↑(List.map (Mk.mk false) b.rs).length:Int)),(105,I (↑r:Int)),(106,PV.bool (decide ((↑r:Int)<(↑(List.map (Mk.mk false) b.rs).length:Int)))),(2000465,I close),(2000466,I 0)]) ([(5,(PV.agg [I b.cr,I b.wd,I b.st,I b.fn,PV.sl (List.map (fun x=>PV.agg [I x.w,I x.s,PV.sl (List.map I x.may)]) b.rs)]).box),(6,(PV.agg [PV.sl (List.map u8 tries),I (↑a:Int),PV.int IntKind.u32 t]).box),(8,I close),(17,(PV.agg [I b.cr,I b.wd,I b.st,I b.fn,PV.sl (List.map zQ7 L)]).ref),(18,I G),(29,PV.tup [PV.bad,PV.bad,PV.bad]),(31,PV.tup [PV.bad,PV.bad,PV.bad]),(52,PV.bool (zBI (zAj b best)-zCc (zAj b best) != close)),(53,I (↑i:Int)),(54,PV.bool (decide ((↑i:Int)<8))),(104,I (↑(List.map (Mk.mk false) b.rs).length:Int)),(105,I (↑r:Int)),(106,PV.bool (decide ((↑r:Int)<(↑(List.map (Mk.mk false) b.rs).length:Int)))),(2000465,I close),(2000466,I 0)]) (by simp only [show zAo (List.map zCl L)=List.map zQ7 L from (by first | exact zA6 _ | exact zDJ _ | exact zAu _ | exact zAE (zDJ _) | exact zAE (zAu _) | exact zD4 (by simp [zDg]) (zA6 _))]) (zAc (zAa (zAe 3 (S_a [(6,.ret (PV.own 1 (List.map I s2)) ([zBO tries a4 t4]))] (ap (hsh2) an) (S_a [(5,.ob),(0,.v (PV.sl (List.map I s2))),(2,.ret (PV.tup [PV.own 1 (List.map I z),I kz,I 0]) ([])),(1,.yes)] (ap ((by exact zAL (by simp only [List.length_map,zzLn,zAI]<;>omega)):(0+(List.map I s2).length).ble (List.map I s2).length=true) (ap ((zCj (zAE (zAu _))):PV.sl (zAo (List.take (List.map I s2).length (List.drop 0 (List.map I s2))))=PV.sl (List.map I s2)) (ap (h36) (ap ((by exact zOd (zCO _) rfl):(PV.tup [PV.own 1 (List.map I z),I kz,I 0]).free=true) an)))) (zAe 7 (zAd (zAc (zAa (zAe 2 (S_a [(5,.ob),(0,.v (PV.sl (List.map I z))),(2,.ret (PV.own 1 (List.map I fz)) ([])),(1,.yes)] (ap ((by exact zAL (by simp only [List.length_map,zzLn,zAI]<;>omega)):(0+(List.map I z).length).ble (List.map I z).length=true) (ap ((zCj (zAE (zAu _))):PV.sl (zAo (List.take (List.map I z).length (List.drop 0 (List.map I z))))=PV.sl (List.map I z)) (ap (vS) (ap ((by exact zCO _):(PV.own 1 (List.map I fz)).free=true) an)))) (zAe 1 (zAd (zAc (zAa (zAe 4 (S_a [(0,.v (PV.bool true))] (ap (zUh (by first | omega | (simp<;>omega)):zNB Try.prog BinOp.neq 22 (PV.bor 23 [] 1 0 (List.map I fz).length) (zEg (Value.slice none 0 0))=some (PV.bool true)) an) (zAe 3 (S_a [(3,.ob),(0,.v (PV.sl (List.map I fz))),(2,.ret (I (zBI fz)) ([]))] (ap ((by exact zAL (by simp only [List.length_map,zzLn,zAI]<;>omega)):(0+(List.map I fz).length).ble (List.map I fz).length=true) (ap ((zCj (zAE (zAu _))):PV.sl (zAo (List.take (List.map I fz).length (List.drop 0 (List.map I fz))))=PV.sl (List.map I fz)) (ap (f53 (fz) (by omega) (by omega)) an))) (zAe 1 (S_a [(3,.ob),(0,.v (PV.sl (List.map I fz))),(2,.ret (I (zCc fz)) ([]))] (ap ((by exact zAL (by simp only [List.length_map,zzLn,zAI]<;>omega)):(0+(List.map I fz).length).ble (List.map I fz).length=true) (ap ((zCj (zAE (zAu _))):PV.sl (zAo (List.take (List.map I fz).length (List.drop 0 (List.map I fz))))=PV.sl (List.map I fz)) (ap (f54 (fz) (by omega) (by omega)) an))) (S_a [(1,.v (I (zBI fz-zCc fz)))] (ap ((zAR rfl (by omega)):I (IntKind.i64.wrap (zBI fz-zCc fz))=I (zBI fz-zCc fz)) an) (zAe 4 (zJy 166 (zBI fz-zCc fz≤G) (by omega) (S_a [(4,.ret (PV.bool true) ([]))] (ap (f16) an) (zAe 2 (zAd (zAJ (E_a [] an (PV.bool true) ([]) rfl rfl)))))))))))))))))))))))))))))))))))
end Go.Eng
set_option maxRecDepth 100000
namespace Go.Proofs.Ytpmbobnmpehobaa
open Go.ChangeShapes Go.WideShapes Go.ChangeAt Go.RowKit Go.Eng
theorem feeClose_gives (ss:List (Bool×List Sh)) (kZ:zE6 Try.prog Try.f10.params.toList=some ss) (qs:List PV) (hq:zLg ss qs):@zBm (yo1 Try.prog zAq) Try.prog zAq 10 qs [] (.bool true) []:=by
 have he:zE6 Try.prog Try.f10.params.toList=some [(false,[.list false [.num .u8]]),(false,[.list false [.num .u8]])]:=by kernel_rfl
 rw [he] at kZ
 cases kZ
 obtain ⟨p0,qs0,rfl,h0,hq0⟩:=hq
 obtain ⟨p1,qs1,rfl,h1,kf⟩:=hq0
 simp only [zLg] at kf
 subst kf
 obtain ⟨x0,rfl,l0,b0⟩:=zPT h0
 unfold maxLen at l0
 simp only [IntKind.min,IntKind.max,IntKind.signed,IntKind.bits] at b0
 simp at b0
 obtain ⟨x1,rfl,l1,b1⟩:=zPT h1
 unfold maxLen at l1
 simp only [IntKind.min,IntKind.max,IntKind.signed,IntKind.bits] at b1
 simp at b1
 exact f10 x0 x1 (by omega) (by omega)
theorem feeClose_lifted (os:Os) (started:os.Started) (H:Type) (enc:TypeId×Value→H) :
  ReturnsInHanded {} Try.checked os 10 .any (Rows.feeCloseSpec.pre6 enc Try.prog Try.f10 Rows.feeCloseRow.domain false) (Rows.feeCloseSpec.post enc Try.prog Try.f10 false true false false):=by
 refine returnsInHanded_of_change (C:=Try.checked) Try.own started (by kernel_rfl) Try.func10
  (ChangeSpec.witness6 (enc:=enc) (C:=Try.checked) false ⟨#[],#[.slice none 0 0,.slice none 0 0],[]⟩ 8 (by kernel_rfl) (by kernel_rfl) (by kernel_rfl) (by kernel_rfl)) ?_
 intro W base args ds gs before hval0 hW hcnd _
 obtain ⟨p,q,hA0,hV,_,_,_⟩:=id hW
 obtain ⟨rfl,rfl⟩:=trodVars_none hV
 obtain ⟨ss,kZ⟩:∃ ss,zE6 Try.prog Try.f10.params.toList=some ss:=Option.isSome_iff_exists.1 (by kernel_rfl)
 have hO:ss.length≤1000:=by
  have h:((zE6 Try.prog Try.f10.params.toList).map fun s=>Nat.ble s.length 1000)=some true:=by kernel_rfl
  rw [kZ] at h
  simpa using h
 exact zTS zFi hnm zMK hin Try.laidOut rfl Try.underlying4 (by kernel_rfl) (by kernel_rfl) (fun ds hd=>by match ds,hd with | [d0,d1],_=>rfl) kZ hO (feeClose_gives ss kZ) hval0 hW
theorem feeClose_holds:Rows.FeeCloseSaid :=
 OpenClaim.holds_of_wide 10 Try.f10 rfl rfl rfl rfl rfl rfl rfl ⟨rfl,rfl,rfl,rfl,rfl⟩ rfl rfl rfl rfl rfl (by kernel_rfl) Try.func10 (by kernel_rfl)
  (of_decide_eq_true (by kernel_rfl)) (by unfold Func.isWrapper;first | (rw [if_pos (by decide +kernel)];kernel_rfl) | (rw [if_neg (by decide +kernel)];exact ⟨rfl,rfl⟩))
  (fun os started H enc _=>feeClose_lifted os started H enc)
end Go.Proofs.Ytpmbobnmpehobaa
