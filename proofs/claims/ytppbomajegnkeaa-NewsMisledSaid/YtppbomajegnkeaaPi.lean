/- For all numbers, cries and when the law NewsMisled ends in true: who is misled is left, and in linked towns nobody is left in the end; without conditions. -/
import Derived.Test.YtppbomajegnkeaaPh
import Derived.Test.YtppbomajegnkeaaPd
import Derived.Test.YtppbomajegnkeaaPe
set_option linter.unusedVariables false
set_option linter.unusedSimpArgs false
set_option linter.unusedSectionVars false
namespace Go.Eng
open Go Go.Proofs
inductive Way (n:Nw) (a:Nat):Nat→Prop where
 | here:Way n a a
 | step {b c:Nat}:Way n a b→zDP n b c=true→c<n.h.toNat→Way n a c
theorem zSD {n:Nw} {x:Int×Int} (h:x∈n.l):zDP n x.1 x.2=true∧zDP n x.2 x.1=true:=by
 have h1:zDP n x.1 x.2=true:=by
  unfold zDP;rw [decide_eq_true_eq]
  exact List.mem_map_of_mem h
 exact ⟨h1,by rw [zMt];exact h1⟩
def AwW (n:Nw) (a:Nat) (o:List Int):Prop:=∀ i,i<o.length→o.getD i 0<n.h→Way n a i
theorem zUY {n:Nw} (ho:NwOk n) {a:Nat} {o:List Int} {x:Int×Int} (hl:o.length=n.h.toNat) (hx:x∈n.l) (h:AwW n a o):AwW n a (awS o x):=fun i hi yC=>by
 have hr:=ho.lr x hx
 obtain ⟨h1,h2⟩:=zSD hx
 rw [zHC] at hi
 have e1:((x.1.toNat:Nat):Int)=x.1:=by omega
 have e2:((x.2.toNat:Nat):Int)=x.2:=by omega
 unfold awS at yC
 rw [zBZ,zBZ] at yC
 by_cases c2:x.2.toNat=i
 ·rw [if_pos ⟨c2,by rw [List.length_set];omega⟩] at yC
  split at yC
  ·have:=h x.1.toNat (by omega) (by omega)
   rw [← c2]
   exact .step this (by rw [e1,e2];exact h1) (by omega)
  ·rw [← c2];exact h x.2.toNat (by omega) yC
 ·rw [if_neg (fun h=>c2 h.1)] at yC
  by_cases c1:x.1.toNat=i
  ·rw [if_pos ⟨c1,by omega⟩] at yC
   split at yC
   ·have:=h x.2.toNat (by omega) (by omega)
    rw [← c1]
    exact .step this (by rw [e1,e2];exact h2) (by omega)
   ·rw [← c1];exact h x.1.toNat (by omega) yC
  ·rw [if_neg (fun h=>c1 h.1)] at yC
   exact h i hi yC
theorem zR1 {n:Nw} (ho:NwOk n) {a:Nat}:∀ (l:List (Int×Int)) {o:List Int},(∀ x∈l,x∈n.l)→o.length=n.h.toNat→AwW n a o→AwW n a (l.foldl awS o)
 | [],_,_,_,h=>h
 | x::l,o,hl,gy,h=>by
  rw [List.foldl_cons]
  exact zR1 ho l (fun y hy=>hl y (List.mem_cons_of_mem _ hy)) (by rw [zHC,gy]) (zUY ho gy (hl x List.mem_cons_self) h)
theorem zQx {n:Nw} (ho:NwOk n) {a:Nat}:∀ k,AwW n a (awR n [(a:Int)] k)
 | 0 => fun i hi yC=>by
  have e:awR n [(a:Int)] 0=awI n [(a:Int)] n.h.toNat:=by simp [awR]
  rw [e] at hi yC
  rw [zGE] at hi
  rw [zAB (by rw [zGE];exact hi)] at yC
  simp only [awI,List.getElem_map,List.getElem_range] at yC
  split at yC
  ·rename_i hm
   simp only [has,List.any_cons,List.any_nil,Bool.or_false,decide_eq_true_eq] at hm
   have:i=a:=by omega
   subst this;exact .here
  ·omega
 | k+1=>by
  rw [zIu]
  exact zR1 ho n.l (fun _ h=>h) (zE9 k) (zQx ho k)
theorem zTF {n:Nw} (ho:NwOk n) {w:List Int} (hw:w.length=80) (yH:zCz n w=w) {a:Nat} (ha:a<n.h.toNat) {c:Nat} (hc:c<8):∀ b,Way n a b→w.getD (b*8+c) 0=w.getD (a*8+c) 0∧b<n.h.toNat:=fun b hb=>by
 induction hb with
 | here=>exact ⟨rfl,ha⟩
 | step h1 h2 h3 ih =>
  rename_i b c2
  obtain ⟨ih1,ih2⟩:=ih
  refine ⟨?_,h3⟩
  have key:∀ p q:Nat,p<n.h.toNat→q<n.h.toNat→zDP n p q=true→w.getD (q*8+c) 0≤w.getD (p*8+c) 0:=fun p q hp hq hn=>by
   have:=(zNv ho hw hp hc (v:=w.getD (q*8+c) 0)).2 (.inr ⟨q,List.mem_filter.2 ⟨List.mem_range.2 hq,hn⟩,Int.le_refl _⟩)
   rwa [yH] at this
  have k1:=key b c2 ih2 h3 h2
  have k2:=key c2 b h3 ih2 (by rw [zMt];exact h2)
  omega
theorem zHw {n:Nw} {cs:List (Int×Int)} (ho:CrW n cs) {c:Nat} (hc:c<8) {v:Int}:∀ (e h:Nat),h<n.h.toNat→v≤(zBe n cs e).getD (h*8+c) 0→∃ h',h'<n.h.toNat∧v≤(zMF n cs).getD (h'*8+c) 0
 | 0,h,hh,hv=>⟨h,hh,hv⟩
 | e+1,h,hh,hv=>by
  rcases (zNv ho.nw (zBI e) hh hc).1 hv with g | ⟨o,g1,g2⟩
  ·exact zHw ho hc e h hh g
  ·exact zHw ho hc e o (List.mem_range.1 (List.mem_filter.1 g1).1) g2
theorem zQb {n:Nw} {cs:List (Int×Int)} (ho:CrW n cs) (ke:∀ b,b<n.h.toNat→Way n 0 b) (vY:∀ i,i<n.n.length→(∃ h,h<n.h.toNat∧zJ2 n cs h i=true)→∃ h,h<n.h.toNat∧zJ2 n cs h ((zAU n).getD i 0)=true):zBy n (zBe n cs n.h.toNat)=[]:=by
 refine List.eq_nil_iff_forall_not_mem.2 fun g hg=>?_
 obtain ⟨h,i,hh,hi,rfl,hb⟩:=zNm hg
 simp only [zSu,Bool.and_eq_true,decide_eq_true_eq] at hb
 obtain ⟨y1,jF⟩:=hb
 have hf:=zCA ho.nw i hi
 have h8:=ho.nw.nl.2
 have hH:=ho.nw.h
 have yH:zCz n (zBe n cs n.h.toNat)=zBe n cs n.h.toNat:=zP6 (n:=n) (cs:=cs) ho.nw (e:=n.h.toNat) (by omega)
 have yX:=fun b (hb:b<n.h.toNat)=>(zTF ho.nw (zBI n.h.toNat) yH (a:=0) (by omega) (c:=((zAj n).getD i 0).toNat) (by omega) b (ke b hb)).1
 obtain ⟨h',g1,g2⟩:=zHw ho (c:=((zAj n).getD i 0).toNat) (by omega) n.h.toNat h hh (Int.le_of_eq y1.symm)
 have g3:=zOW (n:=n) (cs:=cs) ho.nw (e:=0) (k:=n.h.toNat) (h'*8+((zAj n).getD i 0).toNat) (Nat.zero_le _)
 have g4:(zBe n cs 0).getD (h'*8+((zAj n).getD i 0).toNat) 0=(zMF n cs).getD (h'*8+((zAj n).getD i 0).toNat) 0:=rfl
 have g5:=yX h hh
 have g6:=yX h' g1
 have tb:=zWE ho
 have hear_i:zJ2 n cs h' i=true:=by
  rcases tb.at_ h' ((zAj n).getD i 0).toNat g1 (by omega) with q | ⟨i',q1,q2,q3,q4⟩
  ·omega
  ·have:i'=i:=by omega
   rw [← this];exact q4
 obtain ⟨hl,l1,l2⟩:=vY i hi ⟨h',g1,hear_i⟩
 obtain ⟨l,s1,s2,s3,s4,_⟩:=zHa ho.nw hi
 rw [s1] at l2 jF
 have t1:=tb.top hl l l1 s2 l2
 have ue:(zAj n).getD l 0=(zAj n).getD i 0:=s3
 rw [ue] at t1
 have g7:=zOW (n:=n) (cs:=cs) ho.nw (e:=0) (k:=n.h.toNat) (hl*8+((zAj n).getD i 0).toNat) (Nat.zero_le _)
 have g8:(zBe n cs 0).getD (hl*8+((zAj n).getD i 0).toNat) 0=(zMF n cs).getD (hl*8+((zAj n).getD i 0).toNat) 0:=rfl
 have g9:=yX hl l1
 exact jF (by omega)
end Go.Eng
set_option maxRecDepth 10000
set_option maxHeartbeats 4000000
namespace Go.Eng
open Go Go.Proofs
end Go.Eng
set_option maxRecDepth 100000
set_option maxHeartbeats 4000000
namespace Go.Eng
open Go Go.Proofs
def zDV:Nw:=⟨4,[(0,1),(1,2),(2,3)],[(-1,false),(0,true)],[[0],[0,3]]⟩
def zFl:List (Int×Int):=[(0,1),(1,0)]
def zJl:List (Int×Int):=[(2,0),(3,0)]
theorem zUl:NwOk zDV:=zVv (by decide +kernel)
theorem zKA:CrOk zDV zFl:=zVq (by decide +kernel)
theorem zO1:zBy zDV (zBe zDV zFl (1:Int).toNat)=zJl:=by decide +kernel
theorem zUz:OffOk zDV zFl 1 [0,1]:=⟨by decide +kernel,zS2 (by decide +kernel),by decide,by decide⟩
theorem zWb:zIe zDV (zBe zDV (zFl++[(1,0)]) (1:Int).toNat) zJl=[]:=by decide +kernel
theorem zVY:zIe zDV (zBe zDV (zFl++[(1,1)]) (1:Int).toNat) zJl=zJl:=by decide +kernel
def zYK:List (PV×PV):=[(.agg [I 1,I 0],.sl []),(.agg [I 1,I 1],.sl (zJl.map prV))]
abbrev zQL:List PV:=[.addr 50000000 [] 0 0 none,.addr 50000001 [] 0 0 none,.addr 50000002 [] 0 0 none,.addr 50000003 [] 0 0 none,.addr 50000004 [] 0 0 none]
abbrev zRO (b:Bool) (l:List PV):List PV:=[.box (.bool b),.box (.own 2 l),.box (.own 2 [prV (1,0),prV (1,1)]),.box (.omap [(prV (1,0),.sl []),(prV (1,1),prs zJl)]),.box (.func 114 [] zQL)]
theorem zPP:zBD Try.prog zBO 114 (.nils 0::prs zJl::zQL) (zRO false []) (.tup []) (zRO true [prV (1,1)]):=zBD.closed 60
theorem zSa:FG 90 [zDT zDV zFl,.agg [zXO zDV zFl 1 zJl],prs zJl,I 0,zBi [0,1]] (.tup [.own 2 [.agg [I 1,I 1]],.bool true]):=by
 have h0:FG 113 [.agg [I 1,I 0],.ref (zDT zDV zFl),.ref (prs zJl),.ref (I 1)] (.sl []):=by
  have:=f113 zDV zFl zJl 1 (1,0) zKA.w (by decide) (by decide) (by decide) (by decide) (by decide)
  rw [zWb] at this;exact this
 have h1:FG 113 [.agg [I 1,I 1],.ref (zDT zDV zFl),.ref (prs zJl),.ref (I 1)] (.sl (zJl.map prV)):=by
  have:=f113 zDV zFl zJl 1 (1,1) zKA.w (by decide) (by decide) (by decide) (by decide) (by decide)
  rw [zVY] at this;exact this
 refine zAe Try.f90 ?_
 refine zAd 3<|zAa<|zAd 3<|zAa<|zAd 1<|zAa<|zAh<|zAd 1<|zAc 1<|zAc 1<|zAa<|zAk 0 ?_
 refine zAz (fun j=>j≤2) (fun (j:Nat)=>[(12,.box (.omap (zYK.take j))),(13,.box (.own 2 (([(1,0),(1,1)]:List (Int×Int)).take j |>.map prV))),(23,I (j:Nat))]) (fun j=>2-j) (0:Nat) (by omega) fun j hj=>?_
 have hj3:j=0∨j=1∨j=2:=by omega
 rcases hj3 with e | e | e
 ·subst e
  refine zAd 1<|zAa<|zAh<|zEb<|zAl<|zAh<|zAk 1<|zAd 3<|zAa<|zAd 10<|zAa<|zAg<|zAc 2<|zAc 1<|zAc 6<|S_a [(9,.ret (PV.sl []) [])] (ap h0 an)<|zAc 4<|zAa<|zAg<|zAc 2<|zAa ?_
  exact ⟨1,by omega,by omega,by kernel_rfl,by kernel_rfl⟩
 ·subst e
  refine zAd 1<|zAa<|zAh<|zEb<|zAl<|zAh<|zAk 1<|zAd 3<|zAa<|zAd 10<|zAa<|zAg<|zAc 2<|zAc 1<|zAc 6<|S_a [(9,.ret (prs zJl) [])] (ap h1 an)<|zAc 4<|zAa<|zAg<|zAc 2<|zAa ?_
  exact ⟨2,by omega,by omega,by kernel_rfl,by kernel_rfl⟩
 ·subst e
  have y8:=zPP
  refine zAd 1<|zAa<|zAh<|zAN<|zAO 0<|zAd 1<|zAa<|zAd 2<|zAa<|zAd 1<|zAa<|zAd 2<|zAa<|zAd 2<|S_a [(8,.ret (PV.tup []) (zRO true [prV (1,1)]))] (ap y8 an)<|zAa<|zAd 1<|zAc 1<|zAc 1<|zAc 1<|zAa<|zAn<|E_a [] an (PV.tup [PV.own 2 [PV.agg [I (1,1).fst,I (1,1).snd]],PV.bool true]) [] rfl rfl
theorem zPx:FG 51 [nwV zDV,prs zFl,I 1,zBi [0,1]] (.tup [.own 2 [.agg [I 1,I 1]],I 0]):=by
 have ho:=f89_1 zDV zFl 1 [0,1] zUz (by decide)
 rw [zO1] at ho
 have gi:FG 91 [zDT zDV zFl,prs zJl,I 0] (.own 2 (zJl.map prV)):=by
  have:=f91 zDV zFl zJl 0 zUl (by decide) (by decide)
  rwa [show ofL zDV 0 zJl=zJl from by decide +kernel] at this
 have hc:=zSa
 refine zAe Try.f51 ?_
 refine zAd 3<|zAa<|zAd 4<|S_a [(12,.ret (PV.tup [zDT zDV zFl,prs zJl,PV.agg [zXO zDV zFl 1 zJl],I 0]) [])] (ap ho an)<|zAc 10<|zAa<|zAh<|zAd 2<|zAa<|zAN<|zAl<|zAd 1<|zAa<|zAh<|zAd 2<|zAc 1<|zAc 1<|zAa<|zAk 0 ?_
 refine zAz (fun j=>j≤2) (fun (j:Nat)=>[(14,.own 2 (([(1,1)]:List (Int×Int)).take j |>.map prV)),(34,I (j:Nat))]) (fun j=>2-j) (0:Nat) (by omega) fun j hj=>?_
 have hj3:j=0∨j=1∨j=2:=by omega
 rcases hj3 with e | e | e
 ·subst e
  refine zAd 1<|zAa<|zAh<|zEb<|zAl<|zAh<|zAk 1<|zAd 2<|zAa<|zAh<|zAd 8<|zAa<|zAN<|zAl<|zAd 5<|S_a [(9,.ret (PV.own 2 (List.map prV zJl)) [])] (ap gi an)<|zAc 2<|S_a [(14,.ret (PV.tup [PV.own 2 [PV.agg [I 1,I 1]],PV.bool true]) [])] (ap hc an)<|zAc 5<|zAa<|zAh<|zAd 2<|zAa<|zAN<|zAl<|zAg<|zAc 4<|zAa<|zAg<|zAc 2<|zAa ?_
  exact ⟨1,by omega,by omega,by kernel_rfl,by kernel_rfl⟩
 ·subst e
  refine zAd 1<|zAa<|zAh<|zEb<|zAl<|zAh<|zAk 1<|zAd 2<|zAa<|zAh<|zAd 8<|zAa<|zEb<|zAO 1<|zAg<|zAc 2<|zAa ?_
  exact ⟨2,by omega,by omega,by kernel_rfl,by kernel_rfl⟩
 ·subst e
  refine zAd 1<|zAa<|zAh<|zAN<|zAO 0<|zAd 3<|zAa<|zAn<|E_a [] an (PV.tup [PV.own 2 [PV.agg [I (1,1).fst,I (1,1).snd]],I 0]) [] rfl rfl
end Go.Eng
set_option maxRecDepth 100000
set_option maxHeartbeats 4000000
namespace Go.Eng
open Go Go.Proofs
theorem zUI:FG 47 [] (.tup [nwO zDV,.own 2 (zFl.map prV)]):=zBD.closed 20
theorem zTU:FG 9 [nwV zDV,prs zFl,I 1] (.tup [.own 2 [.agg [I 2,I 0],.agg [I 3,I 0]],I 0]):=by
 have:=f9_1 zDV zFl 1 (zS2 (by decide +kernel))
 rw [zO1] at this;exact this
theorem zNA:FG 48 [nwV zDV,prs zFl] (.tup [I 3,I 0]):=f48_1 zDV zFl 3 zKA (by decide) (by decide +kernel) (by decide +kernel)
theorem zTT:FG 49 [nwV zDV,prs zFl,I 2,I 0] (.tup [.own 1 [I 3,I 2],I 0]):=by
 have:=f49_1 zDV zFl 2 0 1 zKA (by decide) (by decide) (by decide) (by decide +kernel) (by decide +kernel)
 rw [show bkL zDV zFl ((zAj zDV).getD (0:Int).toNat 0).toNat 0 1 [2]=[3,2] from by decide +kernel] at this;exact this
theorem zVW:FG 49 [nwV zDV,prs zFl,I 1,I 0] (.tup [.own 1 [],I 6]):=f49_2 zDV zFl 1 0 zKA (by decide) (by decide) (by decide +kernel)
theorem zRt:FG 52 [nwV zDV,prs zFl] (.tup [I 3,I 0]):=by
 have:=f52_1 zDV zFl zKA
 rw [if_pos (show zBy zDV (zBe zDV zFl 12)=[] from by decide +kernel),if_pos (show zBy zDV (zBe zDV zFl 12)=[] from by decide +kernel),show zUH zDV zFl 12=3 from by decide +kernel] at this;exact this
theorem zPf:FG 15 [nwV zDV,prs zFl,I 0] (.tup [.own 1 [I 3],I 0]):=by
 have:=f15_1 zDV zFl 0 (zS2 (by decide +kernel))
 rw [show zFB (msl zDV (zBy zDV (zBe zDV zFl (0:Int).toNat)))=[3] from by decide +kernel] at this;exact this
theorem zSm:FG 16 [nwV zDV] (.tup [.own 1 [],I 0]):=by
 have:=f16_1 zDV zUl
 rw [show zDh (zNS zDV) zDV.n.length=[] from by decide +kernel] at this;exact this
theorem f14:FG 14 [] (.bool true):=by
 have h1:=zUI
 have h2:=zTU
 have h3:=zNA
 have h4:=zTT
 have h5:=zVW
 have h6:=zPx
 have h7:=zRt
 have h8:=zPf
 have h9:=zSm
 have l1:FG 50 [.sl [.agg [I 2,I 0],.agg [I 3,I 0]],.sl [.agg [I 2,I 0],.agg [I 3,I 0]]] (.bool true):=f50 [(2,0),(3,0)] [(2,0),(3,0)] (by decide)
 have l2:FG 33 [.sl [I 3,I 2],.sl [I 3,I 2]] (.bool true):=f33 [3,2] [3,2] (by decide)
 have l3:FG 53 [.sl [.agg [I 1,I 1]],.sl [.agg [I 1,I 1]]] (.bool true):=f53 [(1,1)] [(1,1)] (by decide)
 have l4:FG 33 [.sl [I 3],.sl [I 3]] (.bool true):=f33 [3] [3] (by decide)
 refine zAe Try.f14 ?_
 refine zAd 1<|zAa<|zAh<|zAg<|S_a [(4,.ret (PV.tup [nwO zDV,PV.own 2 (List.map prV zFl)]) [])] (ap h1 an)<|zAc 6<|zAa<|zAd 2<|S_a [(21,.ret (PV.tup [PV.own 2 [PV.agg [I 2,I 0],PV.agg [I 3,I 0]],I 0]) [])] (ap h2 an)<|zAc 5<|zAa<|zAd 2<|S_a [(19,.ret (PV.tup [I 3,I 0]) [])] (ap h3 an)<|zAc 5<|zAa<|zAd 2<|S_a [(23,.ret (PV.tup [PV.own 1 [I 3,I 2],I 0]) [])] (ap h4 an)<|zAc 5<|zAa<|zAd 2<|S_a [(23,.ret (PV.tup [PV.own 1 [],I 6]) [])] (ap h5 an)<|zAc 5<|zAa<|zAh<|zAd 19<|S_a [(10,.ret (PV.bool true) [])] (ap l1 an)<|zAc 9<|S_a [(10,.ret (PV.bool true) [])] (ap l2 an)<|zAc 2<|zAa<|zAN<|zAl<|zAd 3<|S_a [(24,.ret (PV.tup [PV.own 2 [PV.agg [I 1,I 1]],I 0]) [])] (ap h6 an)<|zAc 5<|zAa<|zAd 2<|S_a [(19,.ret (PV.tup [I 3,I 0]) [])] (ap h7 an)<|zAc 5<|zAa<|zAd 2<|S_a [(21,.ret (PV.tup [PV.own 1 [I 3],I 0]) [])] (ap h8 an)<|zAc 5<|zAa<|zAd 1<|S_a [(16,.ret (PV.tup [PV.own 1 [],I 0]) [])] (ap h9 an)<|zAc 5<|zAa<|zAd 18<|S_a [(10,.ret (PV.bool true) [])] (ap l3 an)<|zAc 8<|S_a [(10,.ret (PV.bool true) [])] (ap l4 an)<|zAc 3<|zAc 4<|zAa<|zAn<|E_a [] an (PV.bool true) [] rfl rfl
end Go.Eng
set_option maxRecDepth 10000
set_option maxHeartbeats 4000000
namespace Go.Eng
open Go Go.Proofs
theorem zXB {n:Nw} {cs:List (Int×Int)} (h:zGF n=0) (hl:cs.length≤16) (hc:∀ c∈cs,(0≤c.1∧c.1<n.n.length)∧(0≤c.2∧c.2<n.s.length)):CrOk n cs:=by
 refine zVq ?_
 have ha:(cs.all fun c=>zIr n c)=true:=List.all_eq_true.2 fun c hm=>by
  have:=hc c hm
  simp only [zIr,inB,Bool.and_eq_true,decide_eq_true_eq];omega
 have ws:¬ (cs.length:Int)>16:=by omega
 simp only [zPI,h,ws,ha,if_true,if_false];rfl
theorem zUy {n:Nw} {cs:List (Int×Int)} {e:Int} (h:CrOk n cs) (he:0≤e∧e≤12):EvOk n cs e:=by
 refine zS2 ?_
 have hi:inB e 0 12=true:=by simp only [inB,Bool.and_eq_true,decide_eq_true_eq];omega
 simp only [zPS,h.err,hi,if_true]
end Go.Eng
set_option maxRecDepth 10000
set_option maxHeartbeats 4000000
namespace Go.Eng
open Go Go.Proofs
def mxF (a x:Int):Int:=if x>a then x else a
def mxN (l:List Int):Nat→Int
 | 0=>l.getD 0 0
 | k+1=>mxF (mxN l k) (l.getD (k+1) 0)
def mxL (l:List Int):Int:=mxN l (l.length-1)
theorem zUr {l:List Int}:∀ k i,i≤k→l.getD i 0≤mxN l k
 | 0,i,h=>by rw [show i=0 by omega];exact Int.le_refl _
 | k + 1,i,h=>by
  have ih:=zUr (l:=l) k
  by_cases e:i=k+1
  ·subst e;unfold mxN mxF;split<;>omega
  ·have:=ih i (by omega)
   unfold mxN mxF;split<;>omega
theorem zUe {l:List Int} {H:Int} (h:∀ i,i<l.length→l.getD i 0≤H):∀ k,k<l.length→mxN l k≤H
 | 0,hk=>h 0 hk
 | k+1,hk=>by
  have ih:=zUe h k (by omega)
  have:=h (k+1) hk
  unfold mxN mxF;split<;>omega
def msP (n:Nw) (h:Int) (g:Int×Int):Bool:=decide (g.1=h) && !(n.n.getD g.2.toNat default).2
def hdP (n:Nw) (x:Int) (y:Int×Int):Bool:=decide (y.1=x)&&decide ((n.s.getD y.2.toNat []).length>0)
section
variable [Yo]
theorem f19 (n:Nw) (h:Int) (ho:NwOk n) (x:Int×Int) (hx:0≤x.2∧x.2<n.n.length):FG 19 [prV x,.ref (I h),.ref (nwV n)] (.bool (msP n h x)):=by
 refine zAe Try.f19 ?_
 refine zAd 2<|zAa<|zAd 5<|zIR 9 (x.fst=h) (fun k0=>(zAc 5<|zRh 14 (x.snd≥0) (by omega) (zAc 4<|S_a [(0,.n n.n.length)] (ap (lnS ntV n.n) an)<|zAc 3<|zRh 22 (x.snd<(↑n.n.length:Int)) (by omega) (zAc 4<|S_a [(0,.ob),(1,.v (PV.agg [I (n.n.getD x.snd.toNat default).fst,PV.bool (n.n.getD x.snd.toNat default).snd]))] (ap ((by exact zAp (by omega)):decide (0≤x.snd)=true)<|ap (zCG default (by omega):(List.map ntV n.n)[x.snd.toNat]? = some (PV.agg [I (n.n.getD x.snd.toNat default).fst,PV.bool (n.n.getD x.snd.toNat default).snd])) an)<|zAc 5<|zAa<|zAn<|E_a [] an (PV.bool !(n.n.getD x.snd.toNat default).snd) [] ?_ rfl)))) (fun k0=>(zAc 23<|zAa<|zAn<|E_a [] an (PV.bool false) [] ?_ rfl))
 ·simp only [msP,decide_eq_true k0,Bool.true_and]
 ·simp only [msP,decide_eq_false k0,Bool.false_and]
theorem f25 (n:Nw) (x:Int) (ho:NwOk n) (y:Int×Int) (hy:0≤y.2∧y.2<n.s.length):FG 25 [prV y,.ref (I x),.ref (nwV n)] (.bool (hdP n x y)):=by
 refine zAe Try.f25 ?_
 refine zAd 2<|zAa<|zAd 5<|zIR 9 (y.fst=x) (fun k0=>(zAc 4<|S_a [(0,.ob),(1,.v (zBi (n.s.getD y.snd.toNat [])))] (ap ((by exact zAp (by omega)):decide (0≤y.snd)=true)<|ap (zCG [] (by omega):(List.map zBi n.s)[y.snd.toNat]? = some (zBi (n.s.getD y.snd.toNat []))) an)<|zAc 1<|S_a [(0,.n ((n.s.getD y.snd.toNat []).length))] (ap (lnS I (n.s.getD y.snd.toNat [])) an)<|zAc 3<|zAa<|zAn<|E_a [] an (PV.bool (decide ((↑(n.s.getD y.snd.toNat []).length:Int)>0))) [] ?_ rfl)) (fun k0=>(zAc 10<|zAa<|zAn<|E_a [] an (PV.bool false) [] ?_ rfl))
 ·simp only [hdP,decide_eq_true k0,Bool.true_and]
  congr 1
  rw [Bool.eq_iff_iff,decide_eq_true_eq,decide_eq_true_eq]
  omega
 ·simp only [hdP,decide_eq_false k0,Bool.false_and]
theorem f57_6 (n:Nw) (h:Int) (ho:NwOk n) (l:List (Int×Int)) (hl:l.length<4294967296) (hr:∀ x∈l,(fun z:Int×Int=>0≤z.2∧z.2<n.n.length) x):FG 57 [.sl (l.map prV),.func 19 [] [.ref (I h),.ref (nwV n)]] (I (zD4 (fun x=>msP n h x) l)):=by
 refine zAe Try.f57 ?_
 refine zAd 1<|zAa<|zAh<|zAd 1<|S_a [(0,.n l.length)] (ap (lnS prV l) an)<|zAc 1<|zAa<|zAk 0 ?_
 refine zAz (fun i=>i≤l.length∧∀ j,j<i→(fun x=>msP n h x) (l.getD j default)=false) (fun i=>[(8,I (i:Nat))]) (fun i=>l.length-i) (0:Nat) (by simp) fun i ⟨hi,ha⟩=>?_
 by_cases yR:i<l.length
 ·have gv:=zCp (d:=default) hr i yR
  refine zAd 1<|zAa<|zAh<|zA5 ((↑i:Int)<(↑l.length:Int)) (by omega)<|zAl<|zAh<|zAk 1<|zAd 2<|zAa<|zAd 3<|S_a [(2,.v (PV.agg [I (l.getD i default).fst,I (l.getD i default).snd]))] (ap (zCG default (by omega):(List.map prV l)[i]? = some (PV.agg [I (l.getD i default).fst,I (l.getD i default).snd])) an)<|zAc 1<|S_a [(8,.ret (PV.bool (msP n h (l.getD i default))) [])] (ap (f19 n h (by omega) (l.getD i default) (by omega)) an)<|zAa<|zED (msP n h (l.getD i default)) (fun k0=>(zAd 2<|zAa<|zAn<|E_a [] an (I (↑i:Int)) [] ?_ rfl)) (fun k0=>(zAl<|zAg<|S_a [(1,.v (I (↑(i+1):Int)))] (ap (wrN i) an)<|zAc 1<|zAa ?_))
  ·rw [zBN (i:=i) yR (fun j hj=>by rw [← zAB (d:=default)];exact ha j hj) (by rw [← zAB (d:=default)];first | assumption | exact decide_eq_true ‹_›)]
  ·refine ⟨i+1,⟨by omega,fun j hj=>?_⟩,by omega,by kernel_rfl,by kernel_rfl⟩
   rcases Nat.lt_succ_iff_lt_or_eq.1 hj with h | rfl
   ·exact ha j h
   ·first | assumption | exact decide_eq_false ‹_› | (simp only [Bool.not_eq_false',decide_eq_true_eq];assumption)
 ·refine zAd 1<|zAa<|zAh<|zBd ((↑i:Int)<(↑l.length:Int)) (by omega)<|zAO 0<|zAd 1<|zAa<|zAn<|E_a [] an (I (-1)) [] ?_ rfl
  rw [zB2 fun j hj=>by rw [← zAB (d:=default)];exact ha j (by omega)]
theorem f18_6 (n:Nw) (h:Int) (ho:NwOk n) (l:List (Int×Int)) (hl:l.length<4294967296) (hr:∀ x∈l,(fun z:Int×Int=>0≤z.2∧z.2<n.n.length) x):FG 18 [.sl (l.map prV),.func 19 [] [.ref (I h),.ref (nwV n)]] (.bool (l.any (fun x=>msP n h x))):=by
 refine zAe Try.f18 ?_
 refine zAd 1<|zAa<|zAd 2<|S_a [(7,.ret (I (zD4 (fun x=>msP n h x) l)) [])] (ap (f57_6 n h (by omega) l (by omega) (by omega)) an)<|zAc 2<|zAa<|zAn<|E_a [] an (PV.bool (decide (zD4 (fun x=>msP n h x) l≥0))) [] ?_ rfl
 rw [zDB]
theorem f59_7 (n:Nw) (z:Int) (ho:NwOk n) (l:List (Int×Int)) (hl:l.length<4294967296) (hr:∀ x∈l,(fun z:Int×Int=>0≤z.2∧z.2<n.s.length) x):FG 59 [.sl (l.map prV),.func 25 [] [.ref (I z),.ref (nwV n)]] (I (zD4 (fun x=>hdP n z x) l)):=by
 refine zAe Try.f59 ?_
 refine zAd 1<|zAa<|zAh<|zAd 1<|S_a [(0,.n l.length)] (ap (lnS prV l) an)<|zAc 1<|zAa<|zAk 0 ?_
 refine zAz (fun i=>i≤l.length∧∀ j,j<i→(fun x=>hdP n z x) (l.getD j default)=false) (fun i=>[(8,I (i:Nat))]) (fun i=>l.length-i) (0:Nat) (by simp) fun i ⟨hi,ha⟩=>?_
 by_cases yR:i<l.length
 ·have gv:=zCp (d:=default) hr i yR
  refine zAd 1<|zAa<|zAh<|zA5 ((↑i:Int)<(↑l.length:Int)) (by omega)<|zAl<|zAh<|zAk 1<|zAd 2<|zAa<|zAd 3<|S_a [(2,.v (PV.agg [I (l.getD i default).fst,I (l.getD i default).snd]))] (ap (zCG default (by omega):(List.map prV l)[i]? = some (PV.agg [I (l.getD i default).fst,I (l.getD i default).snd])) an)<|zAc 1<|S_a [(8,.ret (PV.bool (hdP n z (l.getD i default))) [])] (ap (f25 n z (by omega) (l.getD i default) (by omega)) an)<|zAa<|zED (hdP n z (l.getD i default)) (fun k0=>(zAd 2<|zAa<|zAn<|E_a [] an (I (↑i:Int)) [] ?_ rfl)) (fun k0=>(zAl<|zAg<|S_a [(1,.v (I (↑(i+1):Int)))] (ap (wrN i) an)<|zAc 1<|zAa ?_))
  ·rw [zBN (i:=i) yR (fun j hj=>by rw [← zAB (d:=default)];exact ha j hj) (by rw [← zAB (d:=default)];first | assumption | exact decide_eq_true ‹_›)]
  ·refine ⟨i+1,⟨by omega,fun j hj=>?_⟩,by omega,by kernel_rfl,by kernel_rfl⟩
   rcases Nat.lt_succ_iff_lt_or_eq.1 hj with h | rfl
   ·exact ha j h
   ·first | assumption | exact decide_eq_false ‹_› | (simp only [Bool.not_eq_false',decide_eq_true_eq];assumption)
 ·refine zAd 1<|zAa<|zAh<|zBd ((↑i:Int)<(↑l.length:Int)) (by omega)<|zAO 0<|zAd 1<|zAa<|zAn<|E_a [] an (I (-1)) [] ?_ rfl
  rw [zB2 fun j hj=>by rw [← zAB (d:=default)];exact ha j (by omega)]
theorem f24_7 (n:Nw) (z:Int) (ho:NwOk n) (l:List (Int×Int)) (hl:l.length<4294967296) (hr:∀ x∈l,(fun z:Int×Int=>0≤z.2∧z.2<n.s.length) x):FG 24 [.sl (l.map prV),.func 25 [] [.ref (I z),.ref (nwV n)]] (.bool (l.any (fun x=>hdP n z x))):=by
 refine zAe Try.f24 ?_
 refine zAd 1<|zAa<|zAd 2<|S_a [(7,.ret (I (zD4 (fun x=>hdP n z x) l)) [])] (ap (f59_7 n z (by omega) l (by omega) (by omega)) an)<|zAc 2<|zAa<|zAn<|E_a [] an (PV.bool (decide (zD4 (fun x=>hdP n z x) l≥0))) [] ?_ rfl
 rw [zDB]
theorem f23 (n:Nw) (cs:List (Int×Int)) (x:Int) (ho:NwOk n) (hl:cs.length≤1000) (hc:∀ c∈cs,0≤c.2∧c.2<n.s.length):FG 23 [I x,.ref (prs cs),.ref (nwV n)] (.bool (cs.any (hdP n x))):=by
 refine zAe Try.f23 ?_
 refine zAd 2<|zAa<|zAd 2<|S_a [(14,.ret (PV.bool (cs.any fun x_1=>hdP n x x_1)) [])] (ap (f24_7 n x (by omega) cs (by omega) (by omega)) an)<|zAc 1<|zAa<|zAn<|E_a [] an (PV.bool (cs.any fun x_1=>hdP n x x_1)) [] rfl rfl
theorem f21 (l:List Int) (h0:0<l.length) (hl:l.length<1000000):FG 21 [zBi l] (I (mxL l)):=by
 refine zAe Try.f21 ?_
 refine zAd 1<|zAa<|zAh<|zAd 1<|S_a [(0,.n l.length)] (ap (lnS I l) an)<|zAc 1<|zAa<|zBd ((↑l.length:Int)<1) (by omega)<|zAl<|zAd 1<|S_a [(2,.v (I (l.getD 0 0)))] (ap (zCG (0) (by omega):(List.map I l)[0]? = some (I (l.getD 0 0))) an)<|zAc 2<|zAa<|zAh<|zAd 1<|zAa<|zAk 0 ?_
 refine zAz (fun (k,m)=>k<l.length∧m=mxN l k) (fun ((k:Nat),(m:Int))=>[(3,I m),(4,I ((k+1:Nat):Int))]) (fun (k,_)=>l.length-k) ((0:Nat),l.getD 0 0) ⟨h0,rfl⟩ fun (k,m) ⟨hk,hm⟩=>?_
 by_cases vR:k+1<l.length
 ·have j3:mxN l (k+1)=mxF m (l.getD (k+1) 0):=by rw [hm];rfl
  clear hm
  refine zAh<|zAd 2<|S_a [(0,.n l.length)] (ap (lnS I l) an)<|zAc 1<|zAa<|zA5 ((↑(k+1):Int)<(↑l.length:Int)) (by omega)<|zAl<|zAh<|zAk 1<|zAg<|zAc 3<|S_a [(2,.v (I (l.getD (k+1) 0)))] (ap (zCG (0) (by omega):(List.map I l)[k+1]? = some (I (l.getD (k+1) 0))) an)<|zAc 3<|zAa<|zAg<|zAc 1<|S_a [(1,.v (I (↑(k+1+1):Int)))] (ap ((zCq (by omega) (by omega)):I (IntKind.i64.wrap ((↑(k+1):Int)+1))=I (↑(k+1+1):Int)) an)<|zAc 1<|zAa ?_
  exact ⟨(k+1,mxF m (l.getD (k+1) 0)),⟨by omega,j3.symm⟩,by simp only;omega,by kernel_rfl,by kernel_rfl⟩
 ·have e:mxL l=m:=by rw [hm,mxL,show l.length-1=k by omega]
  rw [e]
  clear hm
  refine zAh<|zAd 2<|S_a [(0,.n l.length)] (ap (lnS I l) an)<|zAc 1<|zAa<|zBd ((↑(k+1):Int)<(↑l.length:Int)) (by omega)<|zAO 0<|zAd 2<|zAa<|zAn<|E_a [] an (I m) [] rfl rfl
end
end Go.Eng
set_option maxRecDepth 10000
set_option maxHeartbeats 4000000
namespace Go.Eng
open Go Go.Proofs
theorem zOx {p:Nat→Bool} {k i:Nat} (hi:i<k):has (zDh p k) (i:Int)=p i:=by
 cases h:p i
 ·refine List.any_eq_false.2 fun y hy=>?_
  obtain ⟨j,h1,h2,h3⟩:=zHc.1 hy
  rw [decide_eq_true_eq]
  intro e
  have:j=i:=by omega
  rw [this,h] at h2;cases h2
 ·exact List.any_eq_true.2 ⟨(i:Int),zHc.2 ⟨i,hi,h,rfl⟩,decide_eq_true rfl⟩
theorem zIE {p:Nat→Bool}:∀ k,zEE (zDh p k)=true
 | 0=>rfl
 | k + 1=>by
  have ih:=zIE (p:=p) k
  rw [zHs]
  split
  ·simp only [zEE,List.all_eq_true,List.mem_range,decide_eq_true_eq,List.length_append,List.length_singleton] at ih ⊢
   intro j hj
   rw [List.getD_eq_getElem?_getD,List.getD_eq_getElem?_getD,List.getElem?_append_left (by omega)]
   by_cases e:j+1<(zDh p k).length
   ·rw [List.getElem?_append_left e,← List.getD_eq_getElem?_getD,← List.getD_eq_getElem?_getD]
    exact ih j (by omega)
   ·rw [List.getElem?_append_right (by omega),show j+1-(zDh p k).length=0 by omega]
    have jD:j<(zDh p k).length:=by omega
    rw [List.getElem?_eq_getElem jD]
    obtain ⟨m,h1,_,h3⟩:=zHc.1 (List.getElem_mem jD)
    simp only [Option.getD_some,List.getElem?_cons_zero]
    omega
  ·exact ih
theorem zSX {n:Nw} {cs:List (Int×Int)} {i:Int} {h:Nat} (hh:zJ2 n cs h i=true):cs.any (hdP n i)=true:=by
 obtain ⟨y,h1,h2⟩:=List.any_eq_true.1 hh
 simp only [hrB,Bool.and_eq_true,decide_eq_true_eq] at h2
 refine List.any_eq_true.2 ⟨y,h1,?_⟩
 simp only [hdP,Bool.and_eq_true,decide_eq_true_eq]
 refine ⟨h2.1,?_⟩
 obtain ⟨z,h3,_⟩:=List.any_eq_true.1 h2.2
 exact List.length_pos_of_mem h3
theorem zTf {n:Nw} {cs:List (Int×Int)} (ho:CrW n cs) {i:Int} (hh:cs.any (hdP n i)=true):∃ h,h<n.h.toNat∧zJ2 n cs h i=true:=by
 obtain ⟨y,h1,h2⟩:=List.any_eq_true.1 hh
 simp only [hdP,Bool.and_eq_true,decide_eq_true_eq] at h2
 have hy:=(ho.cs y h1).2
 have yH:=zCp (d:=[]) ho.nw.sr y.2.toNat (by omega)
 have h0:(n.s.getD y.2.toNat []).getD 0 0∈n.s.getD y.2.toNat []:=by rw [zAB h2.2];exact List.getElem_mem _
 have h3:=yH _ h0
 refine ⟨((n.s.getD y.2.toNat []).getD 0 0).toNat,by omega,List.any_eq_true.2 ⟨y,h1,?_⟩⟩
 simp only [hrB,Bool.and_eq_true,decide_eq_true_eq]
 refine ⟨h2.1,List.any_eq_true.2 ⟨_,h0,decide_eq_true (by omega)⟩⟩
theorem zUg {n:Nw} (ho:NwOk n) {F:List Int}:∀ k,AwB n.h (awR n F k)
 | 0=>fun j hj=>by
  have hH:=ho.h
  rw [zE9] at hj
  simp only [awR,List.range_zero,List.foldl_nil]
  rw [zAB (by rw [zGE];exact hj)]
  simp only [awI,List.getElem_map,List.getElem_range]
  split<;>omega
 | k + 1=>by
  have key:∀ (l:List (Int×Int)) (o:List Int),(∀ x∈l,x∈n.l)→o.length=n.h.toNat→AwB n.h o→AwB n.h (l.foldl awS o):=by
   intro l
   induction l with
   | nil=>intro o _ _ h;exact h
   | cons x l ih =>
    intro o hl gy h
    have hr:=ho.lr x (hl x List.mem_cons_self)
    rw [List.foldl_cons]
    exact ih _ (fun y hy=>hl y (List.mem_cons_of_mem _ hy)) (by rw [zHC,gy]) (zTZ h (by omega))
  rw [zIu]
  exact key n.l _ (fun _ h=>h) (zE9 k) (zUg ho k)
theorem zV6 {n:Nw} (ho:NwOk n) (hm:mxL (awL n [0])≠n.h) (b:Nat) (hb:b<n.h.toNat):Way n 0 b:=by
 have hl:(awL n [0]).length=n.h.toNat:=zE9 _
 have hH:=ho.h
 have h1:=zUe (l:=awL n [0]) (H:=n.h) (fun i hi=>(zUg ho _ i hi).2) ((awL n [0]).length-1) (by omega)
 have h2:=zUr (l:=awL n [0]) ((awL n [0]).length-1) b (by omega)
 have h3:mxL (awL n [0])=mxN (awL n [0]) ((awL n [0]).length-1):=rfl
 have h4:awR n [((0:Nat):Int)] n.h.toNat=awL n [0]:=rfl
 refine zQx ho (a:=0) n.h.toNat b (by rw [zE9];exact hb) ?_
 rw [h4]
 omega
theorem f4 (nums crs:List Int) (whe:Int) (v8:nums.length<9223372036854775808) (ws:crs.length<9223372036854775808) (hw3:0≤whe∧whe≤255):FG 4 [.sl (nums.map u8),.sl (crs.map u8),.int .u8 whe] (.bool true):=by
 obtain ⟨v1,h1,kw,n,a1,t1,rfl,rfl,herr,hH,hN,hS,y1⟩:=f6_ex nums 0 0 7 5 4 ⟨Nat.zero_le _,v8⟩ (by omega) (by omega) (by omega)
 have ho:=zVv herr
 have wB:=ho.nl
 have hs6:=ho.sl
 have hHH:=ho.h
 obtain ⟨v2,h2,gW,cs,a2,t2,rfl,rfl,yO,gz,jF⟩:=f8_ex n crs 0 0 6 ho ⟨Nat.zero_le _,ws⟩ (by omega)
 have m5:=Int.tmod_nonneg (6:Int) hw3.1
 have m6:=Int.tmod_lt_of_pos whe (show (0:Int)<6 by omega)
 have uw:=zXB herr (by omega) gz
 have wH:=uw.w
 have c1:=f9_1 n cs (whe.tmod 6) (zUy uw ⟨m5,by omega⟩)
 have c2:=f15_1 n cs (whe.tmod 6) (zUy uw ⟨m5,by omega⟩)
 have c3:=f16_1 n ho
 have c4:=f9_1 n cs n.h (zUy uw (by omega))
 have b1:=zGS (w:=zBe n cs (whe.tmod 6).toNat) ho
 have hgi:∀ g∈zBy n (zBe n cs (whe.tmod 6).toNat),0≤g.2∧g.2<n.n.length:=fun g hg=>(zUZ g hg).2
 have hci:∀ c∈cs,0≤c.2∧c.2<n.s.length:=fun c hc=>(gz c hc).2
 rw [zVk] at c2
 have q1:∀ h:Nat,h<n.h.toNat→has (zDh (zSv n (zBy n (zBe n cs (whe.tmod 6).toNat))) n.h.toNat) (h:Int)=(zBy n (zBe n cs (whe.tmod 6).toNat)).any (msP n h):=fun h hh=>zOx hh
 have q2:∀ i:Nat,i<n.n.length→has (zDh (zNS n) n.n.length) (i:Int)=zNS n i:=fun i hi=>zOx hi
 have yx:=zIE (p:=zSv n (zBy n (zBe n cs (whe.tmod 6).toNat))) n.h.toNat
 have b2:=zJh (p:=zSv n (zBy n (zBe n cs (whe.tmod 6).toNat))) (k:=n.h.toNat)
 have b3:=zJh (p:=zNS n) (k:=n.n.length)
 generalize zDh (zSv n (zBy n (zBe n cs (whe.tmod 6).toNat))) n.h.toNat=Mi at *
 generalize zBy n (zBe n cs (whe.tmod 6).toNat)=G at *
 generalize zDh (zNS n) n.n.length=Fo at *
 have c5:=f17 Mi (by omega)
 rw [yx] at c5
 have vY:∀ i:Nat,i<n.n.length→FG 13 [nwV n,I i] (I ((zAU n).getD i 0)):=fun i hi=>f13 n ho n.n.length i hi (by omega)
 have c6:=f22 n [0] ho (by simp)
 have uG:(awL n [0]).length=n.h.toNat:=zE9 _
 have c7:=f21 (awL n [0]) (by omega) (by omega)
 have hwy:=fun hm=>zV6 ho (n:=n) hm
 have hec:=fun hw hl=>zQb wH hw hl
 clear gz uw
 refine zAe Try.f4 ?_
 refine zAd 1<|zAa<|zAd 1<|S_a [(6,.ret (zB3 nums 0 0) [])] (ap (f7 nums) an)<|S_a [(10,.ret (nwO n) ([zB3 nums a1 t1]))] (ap kw an)<|zAc 1<|S_a [(3,.v (PV.agg [I n.h,prs n.l,PV.sl (List.map ntV n.n),PV.sl (List.map zBi n.s)]))] (ap ((by simp only [show zAA (List.map prV n.l)=List.map prV n.l from (by first | exact zA4 _ | exact zBB _ | exact zBn _ | exact zBF (zBB _) | exact zBF (zBn _) | exact zEC (by simp [zDg]) (zA4 _)),show zAA (List.map ntV n.n)=List.map ntV n.n from (by first | exact zA4 _ | exact zBB _ | exact zBn _ | exact zBF (zBB _) | exact zBF (zBn _) | exact zEC (by simp [zDg]) (zA4 _)),show zAA (List.map zKs n.s)=List.map zBi n.s from (by first | exact zA4 _ | exact zBB _ | exact zBn _ | exact zBF (zBB _) | exact zBF (zBn _) | exact zEC (by simp [zDg]) (zA4 _))]):PV.agg [I n.h,PV.sl (zAA (List.map prV n.l)),PV.sl (zAA (List.map ntV n.n)),PV.sl (zAA (List.map zKs n.s))]=PV.agg [I n.h,prs n.l,PV.sl (List.map ntV n.n),PV.sl (List.map zBi n.s)]) an)<|zAa<|zAd 1<|S_a [(6,.ret (zB3 crs 0 0) [])] (ap (f7 crs) an)<|zAc 1<|S_a [(8,.ret (PV.own 2 (List.map prV cs)) ([zB3 crs a2 t2]))] (ap gW an)<|zAc 1<|S_a [(3,.v (prs cs))] (ap ((zSr (zA4 _)):PV.sl (zAA (List.map prV cs))=prs cs) an)<|zAa<|zAd 1<|S_a [(0,.v (I whe))] (ap ((zCq rfl (by omega)):I (IntKind.i64.wrap whe)=I whe) an)<|zAc 2<|zAa<|zAd 3<|S_a [(10,.ret (PV.tup [PV.own 2 (List.map prV G),I 0]) [])] (ap c1 an)<|zAc 5<|zAa<|zAd 3<|S_a [(10,.ret (PV.tup [PV.own 1 (List.map I Mi),I 0]) [])] (ap c2 an)<|zAc 5<|zAa<|zAd 1<|S_a [(6,.ret (PV.tup [PV.own 1 (List.map I Fo),I 0]) [])] (ap c3 an)<|zAc 5<|zAa<|zAh<|zAd 12<|S_a [(3,.ob),(0,.v (zBi Mi)),(2,.ret (PV.bool true) [])] (ap (blz (List.map I Mi))<|ap (frT I Mi)<|ap c5 an)<|zAc 2<|zAa<|zAN<|zAl<|zAh<|zAd 3<|zAa<|zAk 0 ?_
 refine zAz (fun h=>h≤n.h.toNat) (fun (h:Nat)=>[(69,I (h:Nat))]) (fun h=>n.h.toNat-h) (0:Nat) (Nat.zero_le _) fun h hh=>?_
 by_cases gw:(h:Int)<n.h
 ·have hq:=q1 h (by omega)
  clear q1 q2 hwy hec vY
  refine zAd 1<|zAa<|zAh<|zA5 ((↑h:Int)<n.h) (by omega)<|zAl<|zAh<|zAk 1<|zAd 3<|zAa<|zAd 2<|S_a [(3,.ob),(0,.v (prs G)),(15,.ret (PV.bool (G.any fun x=>msP n (↑h:Int) x)) [])] (ap (blz (List.map prV G))<|ap (frT prV G)<|ap (f18_6 n ((↑h:Int)) (by omega) G (by omega) (by omega)) an)<|zAc 1<|zAa<|zAd 3<|S_a [(3,.ob),(0,.v (zBi Mi)),(4,.ret (PV.bool (has Mi (↑h:Int))) [])] (ap (blz (List.map I Mi))<|ap (frT I Mi)<|ap (f20 Mi ((↑h:Int)) (by omega)) an)<|zAc 1<|zAa<|zED (!(G.any fun x=>msP n (↑h:Int) x)==has Mi (↑h:Int)) (fun k0=>(zAd 1<|zAa<|zAn<|E_a [] an (PV.bool false) [] ?_ rfl)) (fun k0=>(zAl<|zAg<|S_a [(1,.v (I (↑(h+1):Int)))] (ap (wrN h) an)<|zAc 1<|zAa ?_))
  ·exfalso
   have e:(G.any fun x=>msP n (h:Int) x)=G.any (msP n (h:Int)):=rfl
   rw [hq,e] at k0
   simp at k0
  ·exact ⟨h+1,by omega,by omega,by kernel_rfl,by kernel_rfl⟩
 clear q1
 refine zAd 1<|zAa<|zAh<|zBd ((↑h:Int)<n.h) (by omega)<|zAO 0<|zAh<|zAd 2<|S_a [(0,.n n.n.length)] (ap (lnS ntV n.n) an)<|zAc 1<|zAa<|zAk 2 ?_
 refine zAz (fun i=>i≤n.n.length) (fun (i:Nat)=>[(84,I (i:Nat))]) (fun i=>n.n.length-i) (0:Nat) (Nat.zero_le _) fun i hi=>?_
 by_cases yR:i<n.n.length
 ·have hq:=q2 i yR
  have hli:=vY i yR
  clear q2 hwy hec vY
  refine zAd 1<|zAa<|zAh<|zA5 ((↑i:Int)<(↑n.n.length:Int)) (by omega)<|zAl<|zAh<|zAk 3<|zAd 1<|S_a [(2,.v (PV.agg [I (n.n.getD i default).fst,PV.bool (n.n.getD i default).snd]))] (ap (zCG default (by omega):(List.map ntV n.n)[i]? = some (PV.agg [I (n.n.getD i default).fst,PV.bool (n.n.getD i default).snd])) an)<|zAc 4<|zAa<|zAd 2<|S_a [(8,.ret (I ((zAU n).getD i 0)) [])] (ap hli an)<|zAc 3<|zIR 94 ((zAU n).getD i 0=(↑i:Int)) (fun k0=>(zAc 6<|S_a [(3,.ob),(0,.v (zBi Fo)),(4,.ret (PV.bool (has Fo (↑i:Int))) [])] (ap (blz (List.map I Fo))<|ap (frT I Fo)<|ap (f20 Fo ((↑i:Int)) (by omega)) an)<|zAc 1<|zAa<|zED (!(!(n.n.getD i default).snd)==has Fo (↑i:Int)) (fun k1=>(zAd 1<|zAa<|zAn<|E_a [] an (PV.bool false) [] ?_ rfl)) (fun k1=>(zAl<|zAg<|S_a [(1,.v (I (↑(i+1):Int)))] (ap (wrN i) an)<|zAc 1<|zAa ?_)))) (fun k0=>(zAc 6<|S_a [(3,.ob),(0,.v (zBi Fo)),(4,.ret (PV.bool (has Fo (↑i:Int))) [])] (ap (blz (List.map I Fo))<|ap (frT I Fo)<|ap (f20 Fo ((↑i:Int)) (by omega)) an)<|zAc 1<|zAa<|zED (!false==has Fo (↑i:Int)) (fun k2=>(zAd 1<|zAa<|zAn<|E_a [] an (PV.bool false) [] ?_ rfl)) (fun k2=>(zAl<|zAg<|S_a [(1,.v (I (↑(i+1):Int)))] (ap (wrN i) an)<|zAc 1<|zAa ?_))))
  ·exfalso;rw [hq,zNS,decide_eq_true k0,Bool.true_and] at k1;simp at k1
  ·exact ⟨i+1,by omega,by omega,by kernel_rfl,by kernel_rfl⟩
  ·exfalso
   rw [hq,zNS,decide_eq_false k0,Bool.false_and] at k2
   simp at k2
  ·exact ⟨i+1,by omega,by omega,by kernel_rfl,by kernel_rfl⟩
 clear q2
 have kT:=f14
 refine zAd 1<|zAa<|zAh<|zBd ((↑i:Int)<(↑n.n.length:Int)) (by omega)<|zAO 2<|zAh<|zAd 2<|S_a [(9,.ret (PV.own 1 (List.map I (awL n [0]))) []),(1,.yes)] (ap c6<|ap ((by exact zLZ _):(PV.own 1 (List.map I (awL n [0]))).free=true) an)<|S_a [(3,.ob),(0,.v (zBi (awL n [0]))),(2,.ret (I (mxL (awL n [0]))) [])] (ap (blz (List.map I (awL n [0])))<|ap (frT I (awL n [0]))<|ap c7 an)<|zAc 3<|zAa<|zDa (mxL (awL n [0])=n.h) (fun k0=>(zAh<|zAg<|S_a [(4,.ret (PV.bool true) [])] (ap kT an)<|zAc 1<|zAa<|zAn<|E_a [] an (PV.bool true) [] rfl rfl)) (fun k0=>(zAl<|zAh<|zAd 2<|S_a [(0,.n n.n.length)] (ap (lnS ntV n.n) an)<|zAc 1<|zAa<|zAk 4 ?_))
 have hw:=hwy k0
 clear hwy
 refine zAz (fun i=>i≤n.n.length∧∀ j:Nat,j<i→cs.any (hdP n j)=true→cs.any (hdP n ((zAU n).getD j 0))=true) (fun (i:Nat)=>[(115,I (i:Nat))]) (fun i=>n.n.length-i) (0:Nat) ⟨Nat.zero_le _,fun j hj=>absurd hj (Nat.not_lt_zero j)⟩ fun i ⟨hi,ha⟩=>?_
 by_cases yR:i<n.n.length
 ·have hon:(cs.any (hdP n i)=true→cs.any (hdP n ((zAU n).getD i 0))=true)→∀ j:Nat,j<i+1→cs.any (hdP n j)=true→cs.any (hdP n ((zAU n).getD j 0))=true:=fun h j hj=>by
   rcases Nat.lt_succ_iff_lt_or_eq.1 hj with h2 | rfl
   ·exact ha j h2
   ·exact h
  have hli:=vY i yR
  clear ha hec vY
  refine zAd 1<|zAa<|zAh<|zA5 ((↑i:Int)<(↑n.n.length:Int)) (by omega)<|zAl<|zAh<|zAk 5<|zAd 2<|zAa<|zAd 2<|zAa<|zAd 2<|S_a [(18,.ret (PV.bool (cs.any (hdP n (↑i:Int)))) [])] (ap (f23 n cs ((↑i:Int)) (by omega) (by omega) (by omega)) an)<|zAc 1<|zFp 122 (cs.any (hdP n (↑i:Int))) (fun k1=>(zAc 3<|S_a [(8,.ret (I ((zAU n).getD i 0)) [])] (ap hli an)<|S_a [(18,.ret (PV.bool (cs.any (hdP n ((zAU n).getD i 0)))) [])] (ap (f23 n cs ((zAU n).getD i 0) (by omega) (by omega) (by omega)) an)<|zAc 2<|zAa<|zED (!cs.any (hdP n ((zAU n).getD i 0))) (fun k2=>(zAh<|zAg<|S_a [(4,.ret (PV.bool true) [])] (ap kT an)<|zAc 1<|zAa<|zAn<|E_a [] an (PV.bool true) [] rfl rfl)) (fun k2=>(zAl<|zAg<|S_a [(1,.v (I (↑(i+1):Int)))] (ap (wrN i) an)<|zAc 1<|zAa ?_)))) (fun k1=>(zAc 7<|zAa<|zAN<|zAl<|zAg<|S_a [(1,.v (I (↑(i+1):Int)))] (ap (wrN i) an)<|zAc 1<|zAa ?_))
  ·exact ⟨i+1,⟨by omega,hon fun _=>by simpa using k2⟩,by omega,by kernel_rfl,by kernel_rfl⟩
  ·exact ⟨i+1,⟨by omega,hon fun h=>absurd h (by rw [k1];simp)⟩,by omega,by kernel_rfl,by kernel_rfl⟩
 have ju:zBy n (zBe n cs n.h.toNat)=[]:=hec hw fun j hj ⟨h,g1,g2⟩=>zTf wH (ha j (by omega) (zSX g2))
 rw [ju] at c4
 clear ha hec hw
 refine zAd 1<|zAa<|zAh<|zBd ((↑i:Int)<(↑n.n.length:Int)) (by omega)<|zAO 4<|zAd 4<|S_a [(10,.ret (PV.tup [PV.own 2 (List.map prV []),I 0]) [])] (ap c4 an)<|zAc 5<|zAa<|zAd 4<|zAc 4<|S_a [(4,.ret (PV.bool true) [])] (ap kT an)<|zAc 2<|zAa<|zAn<|E_a [] an (PV.bool true) [] rfl rfl
end Go.Eng
set_option maxRecDepth 100000
namespace Go.Proofs.Ytppbomajegnkeaa
open Go.ChangeShapes Go.WideShapes Go.ChangeAt Go.RowKit Go.Eng
theorem newsMisled_gives (ss:List (Bool×List Sh)) (wM:zFd Try.prog Try.f4.params.toList=some ss) (qs:List PV) (hq:zLv ss qs):@zBD (yo1 Try.prog zBO) Try.prog zBO 4 qs [] (.bool true) []:=by
 have he:zFd Try.prog Try.f4.params.toList=some [(false,[.list false [.num .u8]]),(false,[.list false [.num .u8]]),(false,[.num .u8])]:=by kernel_rfl
 rw [he] at wM
 cases wM
 obtain ⟨p0,qs0,rfl,h0,hq0⟩:=hq
 obtain ⟨p1,qs1,rfl,h1,kU⟩:=hq0
 obtain ⟨p2,qs2,rfl,h2,kF⟩:=kU
 simp only [zLv] at kF
 subst kF
 obtain ⟨x0,rfl,l0,b0⟩:=zRd h0
 unfold maxLen at l0
 simp only [IntKind.min,IntKind.max,IntKind.signed,IntKind.bits] at b0
 simp at b0
 obtain ⟨x1,rfl,l1,b1⟩:=zRd h1
 unfold maxLen at l1
 simp only [IntKind.min,IntKind.max,IntKind.signed,IntKind.bits] at b1
 simp at b1
 obtain ⟨x2,rfl,b2⟩:=zWK h2
 simp only [IntKind.min,IntKind.max,IntKind.signed,IntKind.bits] at b2
 simp at b2
 exact f4 x0 x1 x2 (by omega) (by omega) (by omega)
theorem newsMisled_lifted (os:Os) (started:os.Started) (H:Type) (enc:TypeId×Value→H) :
  ReturnsInHanded {} Try.checked os 4 .any (Rows.newsMisledSpec.pre6 enc Try.prog Try.f4 Rows.newsMisledRow.domain false) (Rows.newsMisledSpec.post enc Try.prog Try.f4 false true false false):=by
 refine returnsInHanded_of_change (C:=Try.checked) Try.own started (by kernel_rfl) Try.func4
  (ChangeSpec.witness6 (enc:=enc) (C:=Try.checked) false ⟨#[],#[.slice none 0 0,.slice none 0 0,.int .u8 0],[]⟩ 8 (by kernel_rfl) (by kernel_rfl) (by kernel_rfl) (by kernel_rfl)) ?_
 intro W base args ds gs before hval0 hW hcnd _
 obtain ⟨p,q,hA0,hV,_,_,_⟩:=id hW
 obtain ⟨rfl,rfl⟩:=trodVars_none hV
 obtain ⟨ss,wM⟩:∃ ss,zFd Try.prog Try.f4.params.toList=some ss:=Option.isSome_iff_exists.1 (by kernel_rfl)
 have hZ:ss.length≤1000:=by
  have h:((zFd Try.prog Try.f4.params.toList).map fun s=>Nat.ble s.length 1000)=some true:=by kernel_rfl
  rw [wM] at h
  simpa using h
 exact zVt zE5 hnm zMd hin Try.laidOut rfl Try.underlying4 (by kernel_rfl) (by kernel_rfl) (fun ds hd=>by match ds,hd with | [d0,d1,d2],_=>rfl) wM hZ (newsMisled_gives ss wM) hval0 hW
theorem newsMisled_holds:Rows.NewsMisledSaid :=
 OpenClaim.holds_of_wide 4 Try.f4 rfl rfl rfl rfl rfl rfl rfl ⟨rfl,rfl,rfl,rfl,rfl⟩ rfl rfl rfl rfl rfl (by kernel_rfl) Try.func4 (by kernel_rfl)
  (of_decide_eq_true (by kernel_rfl)) (by unfold Func.isWrapper;first | (rw [if_pos (by decide +kernel)];kernel_rfl) | (rw [if_neg (by decide +kernel)];exact ⟨rfl,rfl⟩))
  (fun os started H enc _=>newsMisled_lifted os started H enc)
end Go.Proofs.Ytppbomajegnkeaa
