/- For whatever news and notice, the law NewsChecks returns true and changes no argument: the error of news, chains and the notices in force are as the reference tells them. -/
import Derived.Test.YtppbomajegnkeaaPg
import Derived.Test.YtppbomajegnkeaaPd
set_option linter.unusedVariables false
set_option linter.unusedSimpArgs false
set_option linter.unusedSectionVars false
set_option maxRecDepth 10000
set_option maxHeartbeats 4000000
namespace Go.Eng
open Go Go.Proofs
def zPP (n:Nw) (i:Nat):Bool:=decide ((zAU n).getD i 0=i) && !(n.n.getD i default).2
def zCH (p:Nat→Bool) (k:Nat):List Int:=((List.range k).filter p).map fun (i:Nat)=>(i:Int)
theorem zD1 {p:Nat→Bool} {k:Nat}:zCH p (k+1)=if p k=true then zCH p k++[(k:Int)] else zCH p k:=by
 unfold zCH;rw [List.range_succ,List.filter_append,List.map_append]
 by_cases hn:p k=true
 ·rw [if_pos hn];simp [hn]
 ·rw [if_neg hn];simp [hn]
theorem zEJ {p:Nat→Bool} {k:Nat}:(zCH p k).length≤k:=by
 unfold zCH;rw [List.length_map];exact Nat.le_trans (List.length_filter_le _ _) (by simp)
theorem f16_1 (n:Nw) (ho:NwOk n):FG 16 [nwV n] (.tup [.own 1 ((zCH (zPP n) n.n.length).map I),I 0]):=by
 have ut:=ho.nl
 refine zAf Try.f16 ?_
 refine zAc 3<|zAa<|zAc 1<|S_a [(6,.ret (PV.tup [(zCp n (PV.own 2 []) (zSp (List.map pr2 n.l)) (zAj n) (zAU n)).box,I 0]) [])] (ap (f55_1 n (by omega)) an)<|zAd 5<|zAa<|zAh<|zAc 2<|zAa<|zA4<|zAl<|zAc 1<|zAa<|zAh<|zAc 2<|S_a [(0,.n n.n.length)] (ap (lnS ntV n.n) an)<|zAd 1<|zAa<|zAi 0 ?_
 refine zAu (fun (i,l)=>i≤n.n.length∧l=zCH (zPP n) i) (fun (i,l)=>[(6,.own 1 (l.map I)),(20,I (i:Nat))]) (fun (i,_)=>n.n.length-i) ((0:Nat),([]:List Int)) ⟨by omega,by simp [zCH]⟩ fun (i,l) ⟨hi,hl⟩=>?_
 have wo:l.length≤i:=by rw [hl];exact zEJ
 by_cases yJ:i<n.n.length
 ·have y4:=zD1 (p:=zPP n) (k:=i)
  rw [← hl] at y4
  have jp:zPP n i=false→l=zCH (zPP n) (i+1):=fun h=>by rw [y4,if_neg (by rw [h];simp)]
  refine zAc 1<|zAa<|zAh<|zA0 ((↑i:Int)<(↑n.n.length:Int)) (by omega)<|zAl<|zAh<|zAi 1<|zAc 1<|S_a [(2,.v (PV.agg [I (n.n.getD i default).fst,PV.bool (n.n.getD i default).snd]))] (ap (zB0 default (by omega):(List.map ntV n.n)[i]? = some (PV.agg [I (n.n.getD i default).fst,PV.bool (n.n.getD i default).snd])) an)<|zAd 4<|zAa<|zAc 4<|S_a [(2,.ob),(1,.v (PV.addr 4 [] 0 (14+i) none))] (ap ((by exact zAr (by omega)):decide (i<8)=true)<|ap ((zEr (by kernel_rfl)):PV.addr 4 [] 0 (14+i*(fun x=>x.size) Try.prog.types[3]) none=PV.addr 4 [] 0 (14+i) none) an)<|S_a [(0,.cs true ([I ((zAU n).getD i 0)]))] (ap (zDu (q:=(PV.agg (I n.h::prs n.l::PV.sl (List.map ntV n.n)::PV.sl (List.map zAF n.s)::PV.own 2 []::PV.omap (List.map zBq (List.map pr2 n.l))::(zAq (zAj n) 8++zAq (zAU n) 8))).box) (xs:=[PV.agg (I n.h::prs n.l::PV.sl (List.map ntV n.n)::PV.sl (List.map zAF n.s)::PV.own 2 []::PV.omap (List.map zBq (List.map pr2 n.l))::(zAq (zAj n) 8++zAq (zAU n) 8))]) (x:=PV.agg (I n.h::prs n.l::PV.sl (List.map ntV n.n)::PV.sl (List.map zAF n.s)::PV.own 2 []::PV.omap (List.map zBq (List.map pr2 n.l))::(zAq (zAj n) 8++zAq (zAU n) 8))) rfl rfl (zHZ (A:=I n.h::prs n.l::PV.sl (List.map ntV n.n)::PV.sl (List.map zAF n.s)::PV.own 2 []::PV.omap (List.map zBq (List.map pr2 n.l))::zAq (zAj n) 8) (B:=[]) (F:=zAU n) (m:=8) (j:=i) (by first | rfl | exact zBJ (by kernel_rfl) | exact zBP (by kernel_rfl) | exact zBL (by kernel_rfl) (by kernel_rfl) | exact zBN (by kernel_rfl) | exact zBT (by kernel_rfl) (by kernel_rfl) | exact zBM (by kernel_rfl) | (simp;done)) (by omega)):zAv 4 (PV.agg (I n.h::prs n.l::PV.sl (List.map ntV n.n)::PV.sl (List.map zAF n.s)::PV.own 2 []::PV.omap (List.map zBq (List.map pr2 n.l))::(zAq (zAj n) 8++zAq (zAU n) 8))).box [] 0 (14+i) 1=some (true,[I ((zAU n).getD i 0)])) an)<|zAd 3<|zEY 33 ((zAU n).getD i 0=(↑i:Int)) (fun k0=>(zAd 4<|zAa<|zEu (!(n.n.getD i default).snd) (fun k1=>(zAg<|zAd 3<|S_a [(4,.ob),(0,.ob),(0,.yes),(2,.v (PV.own 1 (List.map I (l++[(↑i:Int)]))))] (ap (blz (List.map I l))<|ap ((by exact zBx (by simp only [List.length_map,zzLn,zBe]<;>omega)):((List.map I l).length + [I (↑i:Int)].length).ble zBe=true)<|ap ((by exact zBW (by simp<;>omega)):(0+(List.map I l).length).beq (List.map I l).length=true)<|ap ((zA3 (zDx (by kernel_rfl))):PV.own 1 (List.map I l++[I (↑i:Int)])=PV.own 1 (List.map I (l++[(↑i:Int)]))) an)<|zAd 1<|zAa<|zAg<|S_a [(1,.v (I (↑(i+1):Int)))] (ap (wrN i) an)<|zAd 1<|zAa ?_)) (fun k1=>(zAl<|zAg<|S_a [(1,.v (I (↑(i+1):Int)))] (ap (wrN i) an)<|zAd 1<|zAa ?_)))) (fun k0=>(zAd 4<|zAa<|zA4<|zAl<|zAg<|S_a [(1,.v (I (↑(i+1):Int)))] (ap (wrN i) an)<|zAd 1<|zAa ?_))
  ·rw [if_pos (by simp only [zPP,decide_eq_true k0,k1];rfl)] at y4
   exact ⟨(i+1,l++[(i:Int)]),⟨by omega,y4.symm⟩,by simp only;omega,by kernel_rfl,by kernel_rfl⟩
  ·exact ⟨(i+1,l),⟨by omega,jp (by simp only [zPP,decide_eq_true k0,k1];rfl)⟩,by simp only;omega,by kernel_rfl,by kernel_rfl⟩
  ·exact ⟨(i+1,l),⟨by omega,jp (by simp only [zPP,decide_eq_false k0,Bool.false_and])⟩,by simp only;omega,by kernel_rfl,by kernel_rfl⟩
 ·refine zAc 1<|zAa<|zAh<|zA1 ((↑i:Int)<(↑n.n.length:Int)) (by omega)<|zAE 0<|zAc 1<|S_a [(2,.yes)] (ap ((by exact zBW (by simp<;>omega)):(Nat.beq 0 0&&(List.map I l).length.beq (List.map I l).length)=true) an)<|zAd 1<|zAa<|zAm<|E_a [(1,.yes),(1,.v (PV.own 1 (List.map I l)))] (ap (blz (List.map I l))<|ap ((zA3 zAV):PV.own 1 (List.take (List.map I l).length (List.drop 0 (List.map I l)))=PV.own 1 (List.map I l)) an) (PV.tup [PV.own 1 (List.map I l),I 0]) [] ?_ rfl
  rw [hl,show i=n.n.length by omega]
theorem f16_2 (n:Nw) (hs:Small n) (ho:¬ zBu n=0):FG 16 [nwV n] (.tup [.own 1 [],I (zBu n)]):=by
 refine zAf Try.f16 ?_
 refine zAc 3<|zAa<|zAc 1<|S_a [(6,.ret (PV.tup [PV.nilp,I (zBu n)]) [])] (ap (f55_2 n (by omega) (by omega)) an)<|zAd 5<|zAa<|zAh<|zAc 2<|zAa<|zEV (zBu n=0) (by omega)<|zAc 3<|zAa<|zAm<|E_a [] an (PV.tup [PV.own 1 [],I (zBu n)]) [] rfl rfl
def zJW (n:Nw) (x:Int) (i:Nat):Bool:=decide ((zAj n).getD i 0=(zAj n).getD x.toNat 0)
theorem f31_1 (n:Nw) (x:Int) (ho:NwOk n) (hx:0≤x∧x<n.n.length):FG 31 [nwV n,I x] (.tup [.own 1 ((zCH (zJW n x) n.n.length).map I),I 0]):=by
 have ut:=ho.nl
 have hin:inB x 0 (n.n.length-1)=true:=by simp only [inB,Bool.and_eq_true,decide_eq_true_eq];omega
 refine zAf Try.f31 ?_
 refine zAc 3<|zAa<|zAc 1<|S_a [(6,.ret (PV.tup [(zCp n (PV.own 2 []) (zSp (List.map pr2 n.l)) (zAj n) (zAU n)).box,I 0]) [])] (ap (f55_1 n (by omega)) an)<|zAd 5<|zAa<|zAh<|zAi 0<|zAc 3<|zAa<|zA4<|zAc 2<|S_a [(8,.ret (PV.bool (inB x 0 ((↑n.n.length:Int)-1))) [])] (ap (f73 n x (by first | omega | (simp<;>omega))) an)<|zAd 2<|zAa<|zEu (!inB x 0 ((↑n.n.length:Int)-1)) (fun k0=>(zAc 2<|zAa<|zAm<|E_a [] an (PV.tup [PV.own 1 [],I 1]) [] ?_ rfl)) (fun k0=>(zAl<|zAc 1<|zAa<|zAh<|zAc 2<|S_a [(0,.n n.n.length)] (ap (lnS ntV n.n) an)<|zAd 1<|zAa<|zAi 1 ?_))
 ·rw [hin] at k0;cases k0
 ·refine zAu (fun (i,l)=>i≤n.n.length∧l=zCH (zJW n x) i) (fun (i,l)=>[(8,.own 1 (l.map I)),(27,I (i:Nat))]) (fun (i,_)=>n.n.length-i) ((0:Nat),([]:List Int)) ⟨by omega,by simp [zCH]⟩ fun (i,l) ⟨hi,hl⟩=>?_
  have wo:l.length≤i:=by rw [hl];exact zEJ
  by_cases yJ:i<n.n.length
  ·have y4:=zD1 (p:=zJW n x) (k:=i)
   rw [← hl] at y4
   refine zAc 1<|zAa<|zAh<|zA0 ((↑i:Int)<(↑n.n.length:Int)) (by omega)<|zAl<|zAh<|zAi 2<|zAc 2<|zAa<|zAc 4<|S_a [(2,.ob),(1,.v (PV.addr 6 [] 0 (6+i) none))] (ap ((by exact zAr (by omega)):decide (i<8)=true)<|ap ((zEr (by kernel_rfl)):PV.addr 6 [] 0 (6+i*(fun x=>x.size) Try.prog.types[3]) none=PV.addr 6 [] 0 (6+i) none) an)<|S_a [(0,.cs true ([I ((zAj n).getD i 0)]))] (ap (zDu (q:=(PV.agg (I n.h::prs n.l::PV.sl (List.map ntV n.n)::PV.sl (List.map zAF n.s)::PV.own 2 []::PV.omap (List.map zBq (List.map pr2 n.l))::(zAq (zAj n) 8++zAq (zAU n) 8))).box) (xs:=[PV.agg (I n.h::prs n.l::PV.sl (List.map ntV n.n)::PV.sl (List.map zAF n.s)::PV.own 2 []::PV.omap (List.map zBq (List.map pr2 n.l))::(zAq (zAj n) 8++zAq (zAU n) 8))]) (x:=PV.agg (I n.h::prs n.l::PV.sl (List.map ntV n.n)::PV.sl (List.map zAF n.s)::PV.own 2 []::PV.omap (List.map zBq (List.map pr2 n.l))::(zAq (zAj n) 8++zAq (zAU n) 8))) rfl rfl (zHZ (A:=[I n.h,prs n.l,PV.sl (List.map ntV n.n),PV.sl (List.map zAF n.s),PV.own 2 [],PV.omap (List.map zBq (List.map pr2 n.l))]) (B:=zAq (zAU n) 8) (F:=zAj n) (m:=8) (j:=i) (by first | rfl | exact zBJ (by kernel_rfl) | exact zBP (by kernel_rfl) | exact zBL (by kernel_rfl) (by kernel_rfl) | exact zBN (by kernel_rfl) | exact zBT (by kernel_rfl) (by kernel_rfl) | exact zBM (by kernel_rfl) | (simp;done)) (by omega)):zAv 6 (PV.agg (I n.h::prs n.l::PV.sl (List.map ntV n.n)::PV.sl (List.map zAF n.s)::PV.own 2 []::PV.omap (List.map zBq (List.map pr2 n.l))::(zAq (zAj n) 8++zAq (zAU n) 8))).box [] 0 (6+i) 1=some (true,[I ((zAj n).getD i 0)])) an)<|zAd 4<|S_a [(0,.ob),(1,.ob),(1,.v (PV.addr 6 [] 0 (6+x.toNat) none))] (ap ((by exact zAr (by omega)):decide (0≤x)=true)<|ap ((by exact zAr (by omega)):decide (x.toNat<8)=true)<|ap ((zEr (by kernel_rfl)):PV.addr 6 [] 0 (6+x.toNat*(fun x=>x.size) Try.prog.types[3]) none=PV.addr 6 [] 0 (6+x.toNat) none) an)<|S_a [(0,.cs true ([I ((zAj n).getD x.toNat 0)]))] (ap (zDu (q:=(PV.agg (I n.h::prs n.l::PV.sl (List.map ntV n.n)::PV.sl (List.map zAF n.s)::PV.own 2 []::PV.omap (List.map zBq (List.map pr2 n.l))::(zAq (zAj n) 8++zAq (zAU n) 8))).box) (xs:=[PV.agg (I n.h::prs n.l::PV.sl (List.map ntV n.n)::PV.sl (List.map zAF n.s)::PV.own 2 []::PV.omap (List.map zBq (List.map pr2 n.l))::(zAq (zAj n) 8++zAq (zAU n) 8))]) (x:=PV.agg (I n.h::prs n.l::PV.sl (List.map ntV n.n)::PV.sl (List.map zAF n.s)::PV.own 2 []::PV.omap (List.map zBq (List.map pr2 n.l))::(zAq (zAj n) 8++zAq (zAU n) 8))) rfl rfl (zHZ (A:=[I n.h,prs n.l,PV.sl (List.map ntV n.n),PV.sl (List.map zAF n.s),PV.own 2 [],PV.omap (List.map zBq (List.map pr2 n.l))]) (B:=zAq (zAU n) 8) (F:=zAj n) (m:=8) (j:=x.toNat) (by first | rfl | exact zBJ (by kernel_rfl) | exact zBP (by kernel_rfl) | exact zBL (by kernel_rfl) (by kernel_rfl) | exact zBN (by kernel_rfl) | exact zBT (by kernel_rfl) (by kernel_rfl) | exact zBM (by kernel_rfl) | (simp;done)) (by omega)):zAv 6 (PV.agg (I n.h::prs n.l::PV.sl (List.map ntV n.n)::PV.sl (List.map zAF n.s)::PV.own 2 []::PV.omap (List.map zBq (List.map pr2 n.l))::(zAq (zAj n) 8++zAq (zAU n) 8))).box [] 0 (6+x.toNat) 1=some (true,[I ((zAj n).getD x.toNat 0)])) an)<|zAd 1<|zAa<|zCn ((zAj n).getD i 0=(zAj n).getD x.toNat 0) (fun k1=>(zAg<|zAd 3<|S_a [(4,.ob),(0,.ob),(0,.yes),(2,.v (PV.own 1 (List.map I (l++[(↑i:Int)]))))] (ap (blz (List.map I l))<|ap ((by exact zBx (by simp only [List.length_map,zzLn,zBe]<;>omega)):((List.map I l).length + [I (↑i:Int)].length).ble zBe=true)<|ap ((by exact zBW (by simp<;>omega)):(0+(List.map I l).length).beq (List.map I l).length=true)<|ap ((zA3 (zDx (by kernel_rfl))):PV.own 1 (List.map I l++[I (↑i:Int)])=PV.own 1 (List.map I (l++[(↑i:Int)]))) an)<|zAd 1<|zAa<|zAg<|S_a [(1,.v (I (↑(i+1):Int)))] (ap (wrN i) an)<|zAd 1<|zAa ?_)) (fun k1=>(zAl<|zAg<|S_a [(1,.v (I (↑(i+1):Int)))] (ap (wrN i) an)<|zAd 1<|zAa ?_))
   ·rw [if_pos (by simp only [zJW,decide_eq_true k1])] at y4
    exact ⟨(i+1,l++[(i:Int)]),⟨by omega,y4.symm⟩,by simp only;omega,by kernel_rfl,by kernel_rfl⟩
   ·rw [if_neg (by simp only [zJW,decide_eq_false k1];simp)] at y4
    exact ⟨(i+1,l),⟨by omega,y4.symm⟩,by simp only;omega,by kernel_rfl,by kernel_rfl⟩
  ·refine zAc 1<|zAa<|zAh<|zA1 ((↑i:Int)<(↑n.n.length:Int)) (by omega)<|zAE 1<|zAc 1<|S_a [(2,.yes)] (ap ((by exact zBW (by simp<;>omega)):(Nat.beq 0 0&&(List.map I l).length.beq (List.map I l).length)=true) an)<|zAd 1<|zAa<|zAm<|E_a [(1,.yes),(1,.v (PV.own 1 (List.map I l)))] (ap (blz (List.map I l))<|ap ((zA3 zAV):PV.own 1 (List.take (List.map I l).length (List.drop 0 (List.map I l)))=PV.own 1 (List.map I l)) an) (PV.tup [PV.own 1 (List.map I l),I 0]) [] ?_ rfl
   rw [hl,show i=n.n.length by omega]
theorem f31_2 (n:Nw) (x:Int) (ho:NwOk n) (hx:inB x 0 (n.n.length-1)=false):FG 31 [nwV n,I x] (.tup [.own 1 [],I 1]):=by
 have ut:=ho.nl
 refine zAf Try.f31 ?_
 refine zAc 3<|zAa<|zAc 1<|S_a [(6,.ret (PV.tup [(zCp n (PV.own 2 []) (zSp (List.map pr2 n.l)) (zAj n) (zAU n)).box,I 0]) [])] (ap (f55_1 n (by omega)) an)<|zAd 5<|zAa<|zAh<|zAi 0<|zAc 3<|zAa<|zA4<|zAc 2<|S_a [(8,.ret (PV.bool (inB x 0 ((↑n.n.length:Int)-1))) [])] (ap (f73 n x (by first | omega | (simp<;>omega))) an)<|zAd 2<|zAa<|zEu (!inB x 0 ((↑n.n.length:Int)-1)) (fun k0=>(zAc 2<|zAa<|zAm<|E_a [] an (PV.tup [PV.own 1 [],I 1]) [] rfl rfl)) (fun k0=>(zAl<|zAc 1<|zAa<|zAh<|zAc 2<|S_a [(0,.n n.n.length)] (ap (lnS ntV n.n) an)<|zAd 1<|zAa<|zAi 1 ?_))
 rw [hx] at k0;cases k0
theorem f31_3 (n:Nw) (x:Int) (hs:Small n) (ho:¬ zBu n=0):FG 31 [nwV n,I x] (.tup [.own 1 [],I (zBu n)]):=by
 refine zAf Try.f31 ?_
 refine zAc 3<|zAa<|zAc 1<|S_a [(6,.ret (PV.tup [PV.nilp,I (zBu n)]) [])] (ap (f55_2 n (by omega) (by omega)) an)<|zAd 5<|zAa<|zAh<|zAi 0<|zAc 3<|zAa<|zEV (zBu n=0) (by omega)<|zAc 3<|zAa<|zAm<|E_a [] an (PV.tup [PV.own 1 [],I (zBu n)]) [] rfl rfl
def bkL (n:Nw) (cs:List (Int×Int)) (c:Nat) (x:Int):Nat→List Int→List Int
 | 0,out=>out
 | k+1,out=>bkL n cs c x k (match (zJL n (out.getD 0 0).toNat n.h.toNat).find? fun o=>decide ((zBs n cs k).getD (o*8+c) 0=x) with | some o=>(o:Int)::out | none=>out)
abbrev zTF (S:List (List Int)):PV := .box (.own 80 (S.map hdV))
def zQI (n:Nw) (cs:List (Int×Int)) (k:Nat):List (List Int):=(List.range k).map fun k=>zBs n cs k
theorem zMo {n:Nw} {cs:List (Int×Int)} {k:Nat}:zQI n cs (k+1)=zQI n cs k++[zBs n cs k]:=by
 simp only [zQI,List.range_succ,List.map_append,List.map_cons,List.map_nil]
theorem zK3 {n:Nw} {cs:List (Int×Int)} {k j:Nat} (h:j<k):(zQI n cs k).getD j []=zBs n cs j:=by
 simp [zQI,List.getD_eq_getElem?_getD,h]
theorem zT9 (n:Nw) (cs:List (Int×Int)) (h:Int) (ho:NwOk n) (hh:0≤h∧h<n.h):zFS 112 [] [.ref (zDP n cs),.ref (I h)] (zIx n h.toNat n.h.toNat):=by
 obtain ⟨g,rfl⟩:∃ g:Nat,h=g:=⟨h.toNat,by omega⟩
 exact zTE n cs g ho hh.2
theorem zKh {p:Nat→Bool}:∀ {l:List Nat} {j o:Nat},l[j]? = some o→p o=true→(∀ i,i<j→p (l.getD i 0)=false)→l.find? p=some o
 | [],j,o,h,_,_=>by cases h
 | x::l,0,o,h,hp,_=>by
  simp only [List.getElem?_cons_zero,Option.some.injEq] at h
  subst h;rw [List.find?_cons,hp]
 | x::l,j+1,o,h,hp,ha=>by
  have h0:=ha 0 (by omega)
  simp only [List.getD_cons_zero] at h0
  rw [List.find?_cons,h0]
  exact zKh (by simpa using h) hp fun i hi=>by simpa using ha (i+1) (by omega)
theorem zPM {p:Nat→Bool} {l:List Nat} (ha:∀ i,i<l.length→p (l.getD i 0)=false):l.find? p=none:=by
 rw [List.find?_eq_none]
 intro x hx
 obtain ⟨i,hi,rfl⟩:=List.getElem_of_mem hx
 have:=ha i hi
 rw [zAB hi] at this
 simp [this]
theorem f49_1 (n:Nw) (cs:List (Int×Int)) (h:Int) (x:Int) (k:Nat) (ho:CrOk n cs) (hh:0≤h∧h<n.h) (hx:0≤x∧x<n.n.length) (hk:k≤12) (kF:(zBs n cs k).getD (h.toNat*8+((zAj n).getD x.toNat 0).toNat) 0=x) (hm:∀ j,j<k→(zBs n cs j).getD (h.toNat*8+((zAj n).getD x.toNat 0).toNat) 0≠x):FG 49 [nwV n,prs cs,I h,I x] (.tup [.own 1 ((bkL n cs ((zAj n).getD x.toNat 0).toNat x k [h]).map I),I 0]):=by
 have hn:=ho.nw
 have qa:=ho.w
 have hb:=hn.h
 have ut:=hn.nl
 have hin:inB x 0 (n.n.length-1)=true:=by simp only [inB,Bool.and_eq_true,decide_eq_true_eq];omega
 have hih:inB h 0 (n.h-1)=true:=by simp only [inB,Bool.and_eq_true,decide_eq_true_eq];omega
 have hfb:=zCh hn x.toNat (by omega)
 refine zAf Try.f49 ?_
 refine zAc 4<|zAa<|zAc 2<|S_a [(8,.ret (PV.tup [zDP n cs,I 0]) [])] (ap (f82_1 n cs (by omega)) an)<|zAd 5<|zAa<|zAh<|zAi 0<|zAc 3<|zAa<|zA4<|zAc 2<|S_a [(8,.ret (PV.bool (inB h 0 (n.h-1))) [])] (ap (f69 n h (by omega)) an)<|zAd 2<|zFh 32 (!inB h 0 (n.h-1)) (fun k1=>(zAd 6<|zAa<|zBX<|zAc 2<|zAa<|zAm<|E_a [] an (PV.tup [PV.own 1 [],I 1]) [] ?_ rfl)) (fun k1=>(zAd 2<|S_a [(8,.ret (PV.bool (inB x 0 ((↑n.n.length:Int)-1))) [])] (ap (f73 n x (by first | omega | (simp<;>omega))) an)<|zAd 3<|zAa<|zEu (!inB x 0 ((↑n.n.length:Int)-1)) (fun k2=>(zAc 2<|zAa<|zAm<|E_a [] an (PV.tup [PV.own 1 [],I 1]) [] ?_ rfl)) (fun k2=>(zAl<|zAc 4<|S_a [(0,.ob),(1,.ob),(0,.v ((I ((zAj n).getD x.toNat 0)).ref))] (ap ((by exact zAr (by omega)):decide (0≤x)=true)<|ap ((by exact zAr (by omega)):decide (x.toNat<8)=true)<|ap (zGo (F:=zAj n) (m:=8) (j:=x.toNat) (by omega):zCc (PV.agg (zAq (zAj n) 8)).ref (x.toNat*(fun x=>x.size) Try.prog.types[3]) none=some (I ((zAj n).getD x.toNat 0)).ref) an)<|zAd 3<|zAa<|zAc 1<|S_a [(5,.ret (hdV (zPE n cs)) [])] (ap (f83 n cs (by omega)) an)<|zAd 3<|zAa<|zAh<|zAi 1 ?_))))
 ·rw [hih] at k1;cases k1
 ·rw [hin] at k2;cases k2
 ·generalize hc:((zAj n).getD x.toNat 0)=c at *
  refine zAu (fun (j,S)=>j≤k∧S=zQI n cs (j+1)) (fun (j,S)=>[(13,zTF S)]) (fun (j,_)=>k-j) ((0:Nat),[zPE n cs]) ⟨by omega,rfl⟩ fun (j,S) ⟨hj,hS⟩=>?_
  have hSl:S.length=j+1:=by rw [hS];simp [zQI]
  have wp:S.getD (S.length-1) []=zBs n cs j:=by rw [hSl,hS];exact zK3 (by omega)
  have hwl:(S.getD (S.length-1) []).length=80:=by rw [wp];exact zC9 j
  by_cases gM:j<k
  ·have hI:=hm j gM
   rw [← wp] at hI
   have hSS:S++[zDZ n (S.getD (S.length-1) [])]=zQI n cs (j+1+1):=by rw [zMo (k:=j+1),← hS,wp];rfl
   refine zAh<|zAh<|zAg<|S_a [(1,.v (PV.bor 13 [(0,0)] 80 0 S.length))] (ap ((by simp):PV.bor 13 [(0,0)] 80 0 (List.map hdV S).length=PV.bor 13 [(0,0)] 80 0 S.length) an)<|S_a [(1,.v (PV.bor 13 [(0,0)] 80 0 S.length))] (ap ((by simp):PV.bor 13 [(0,0)] 80 0 (List.map hdV S).length=PV.bor 13 [(0,0)] 80 0 S.length) an)<|zAd 1<|S_a [(1,.v (I (↑(S.length-1):Int)))] (ap ((zDl (by omega) (by omega)):I (IntKind.i64.wrap ((↑S.length:Int)-1))=I (↑(S.length-1):Int)) an)<|zAd 2<|S_a [(2,.ob),(1,.n (S.length-1))] (ap ((by exact zAr (by omega)):decide (S.length-1<S.length)=true)<|ap ((by simp):some (0+(S.length-1))=some (S.length-1)) an)<|S_a [(0,.ob),(1,.ob)] (ap ((by exact zAr (by omega)):decide (0≤h)=true)<|ap ((by exact zAr (by omega)):decide (h.toNat<10)=true) an)<|S_a [(0,.ob),(1,.ob)] (ap ((by exact zAr (by omega)):decide (0≤c)=true)<|ap ((by exact zAr (by omega)):decide (c.toNat<8)=true) an)<|S_a [(0,.cs true ([I ((S.getD (S.length-1) []).getD (h.toNat*8+c.toNat) 0)]))] (ap (zDu (q:=PV.own 80 (List.map hdV S)) (xs:=List.map hdV S) (x:=PV.agg (zAq (S.getD (S.length-1) []) 80)) (zLM (xs:=[PV.own 80 (List.map hdV S)]) (x:=PV.own 80 (List.map hdV S)) (y:=PV.own 80 (List.map hdV S)) rfl rfl) (zB0 [] (by omega)) (zE4 (F:=S.getD (S.length-1) []) (m:=80) (j:=h.toNat*8+c.toNat) (by first | rfl | exact zBJ (by kernel_rfl) | exact zBP (by kernel_rfl) | exact zBL (by kernel_rfl) (by kernel_rfl) | exact zBN (by kernel_rfl) | exact zBT (by kernel_rfl) (by kernel_rfl) | exact zBM (by kernel_rfl) | (simp;done)) (by omega)):zAv 13 (PV.own 80 (List.map hdV S)).box [(0,0)] (S.length-1) (0+h.toNat*(fun x=>x.size) Try.prog.types[89]+c.toNat*(fun x=>x.size) Try.prog.types[3]) 1=some (true,[I ((S.getD (S.length-1) []).getD (h.toNat*8+c.toNat) 0)])) an)<|zAd 2<|zAa<|zEV ((S.getD (S.length-1) []).getD (h.toNat*8+c.toNat) 0=x) (by omega)<|zAl<|zAi 2<|zAh<|zAh<|zAg<|S_a [(1,.v (PV.bor 13 [(0,0)] 80 0 S.length))] (ap ((by simp):PV.bor 13 [(0,0)] 80 0 (List.map hdV S).length=PV.bor 13 [(0,0)] 80 0 S.length) an)<|zAd 2<|zAa<|zA1 ((↑S.length:Int)>12) (by omega)<|zAl<|zAg<|S_a [(1,.v (PV.bor 13 [(0,0)] 80 0 S.length))] (ap ((by simp):PV.bor 13 [(0,0)] 80 0 (List.map hdV S).length=PV.bor 13 [(0,0)] 80 0 S.length) an)<|zAd 1<|S_a [(1,.v (PV.bor 13 [(0,0)] 80 0 S.length))] (ap ((by simp):PV.bor 13 [(0,0)] 80 0 (List.map hdV S).length=PV.bor 13 [(0,0)] 80 0 S.length) an)<|S_a [(1,.v (PV.bor 13 [(0,0)] 80 0 S.length))] (ap ((by simp):PV.bor 13 [(0,0)] 80 0 (List.map hdV S).length=PV.bor 13 [(0,0)] 80 0 S.length) an)<|zAd 1<|S_a [(1,.v (I (↑(S.length-1):Int)))] (ap ((zDl (by omega) (by omega)):I (IntKind.i64.wrap ((↑S.length:Int)-1))=I (↑(S.length-1):Int)) an)<|S_a [(2,.ob),(1,.n (S.length-1))] (ap ((by exact zAr (by omega)):decide (S.length-1<S.length)=true)<|ap ((by simp):some (0+(S.length-1))=some (S.length-1)) an)<|S_a [(0,.cs true (zAq (S.getD (S.length-1) []) 80))] (ap (zDu (q:=PV.own 80 (List.map hdV S)) (xs:=List.map hdV S) (x:=PV.agg (zAq (S.getD (S.length-1) []) 80)) (zLM (xs:=[PV.own 80 (List.map hdV S)]) (x:=PV.own 80 (List.map hdV S)) (y:=PV.own 80 (List.map hdV S)) rfl rfl) (zB0 [] (by omega)):zAv 13 (PV.own 80 (List.map hdV S)).box [(0,0)] (S.length-1) 0 Try.prog.types[91].size=some (true,zAq (S.getD (S.length-1) []) 80)) an)<|S_a [(7,.ret (hdV (zDZ n (S.getD (S.length-1) []))) [])] (ap (f84 n cs (S.getD (S.length-1) []) (by omega) (by omega)) an)<|zAd 1<|S_a [(4,.ob),(0,.ob),(0,.yes),(2,.v (PV.own 80 (List.map hdV (S++[zDZ n (S.getD (S.length-1) [])]))))] (ap ((by exact zBx (by simp only [List.length_map,zzLn,zBe]<;>omega)):(0+S.length).ble (List.map hdV S).length=true)<|ap ((by exact zBx (by simp only [List.length_map,zzLn,zBe]<;>omega)):((List.map hdV S).length + [PV.agg (zAq (zDZ n (S.getD (S.length-1) [])) 80)].length).ble zBe=true)<|ap ((by exact zBW (by simp<;>omega)):(0+S.length).beq (List.map hdV S).length=true)<|ap ((zA3 (zDx (by kernel_rfl))):PV.own 80 (List.map hdV S++[PV.agg (zAq (zDZ n (S.getD (S.length-1) [])) 80)])=PV.own 80 (List.map hdV (S++[zDZ n (S.getD (S.length-1) [])]))) an)<|zAd 1<|zAa ?_
   exact ⟨(j+1,S++[zDZ n (S.getD (S.length-1) [])]),⟨by omega,hSS⟩,by simp only;omega,by kernel_rfl,by kernel_rfl⟩
  ·have e:j=k:=by omega
   subst e
   rw [← wp] at kF
   refine zAh<|zAh<|zAg<|S_a [(1,.v (PV.bor 13 [(0,0)] 80 0 S.length))] (ap ((by simp):PV.bor 13 [(0,0)] 80 0 (List.map hdV S).length=PV.bor 13 [(0,0)] 80 0 S.length) an)<|S_a [(1,.v (PV.bor 13 [(0,0)] 80 0 S.length))] (ap ((by simp):PV.bor 13 [(0,0)] 80 0 (List.map hdV S).length=PV.bor 13 [(0,0)] 80 0 S.length) an)<|zAd 1<|S_a [(1,.v (I (↑(S.length-1):Int)))] (ap ((zDl (by omega) (by omega)):I (IntKind.i64.wrap ((↑S.length:Int)-1))=I (↑(S.length-1):Int)) an)<|zAd 2<|S_a [(2,.ob),(1,.n (S.length-1))] (ap ((by exact zAr (by omega)):decide (S.length-1<S.length)=true)<|ap ((by simp):some (0+(S.length-1))=some (S.length-1)) an)<|S_a [(0,.ob),(1,.ob)] (ap ((by exact zAr (by omega)):decide (0≤h)=true)<|ap ((by exact zAr (by omega)):decide (h.toNat<10)=true) an)<|S_a [(0,.ob),(1,.ob)] (ap ((by exact zAr (by omega)):decide (0≤c)=true)<|ap ((by exact zAr (by omega)):decide (c.toNat<8)=true) an)<|S_a [(0,.cs true ([I ((S.getD (S.length-1) []).getD (h.toNat*8+c.toNat) 0)]))] (ap (zDu (q:=PV.own 80 (List.map hdV S)) (xs:=List.map hdV S) (x:=PV.agg (zAq (S.getD (S.length-1) []) 80)) (zLM (xs:=[PV.own 80 (List.map hdV S)]) (x:=PV.own 80 (List.map hdV S)) (y:=PV.own 80 (List.map hdV S)) rfl rfl) (zB0 [] (by omega)) (zE4 (F:=S.getD (S.length-1) []) (m:=80) (j:=h.toNat*8+c.toNat) (by first | rfl | exact zBJ (by kernel_rfl) | exact zBP (by kernel_rfl) | exact zBL (by kernel_rfl) (by kernel_rfl) | exact zBN (by kernel_rfl) | exact zBT (by kernel_rfl) (by kernel_rfl) | exact zBM (by kernel_rfl) | (simp;done)) (by omega)):zAv 13 (PV.own 80 (List.map hdV S)).box [(0,0)] (S.length-1) (0+h.toNat*(fun x=>x.size) Try.prog.types[89]+c.toNat*(fun x=>x.size) Try.prog.types[3]) 1=some (true,[I ((S.getD (S.length-1) []).getD (h.toNat*8+c.toNat) 0)])) an)<|zAd 2<|zAa<|zFr ((S.getD (S.length-1) []).getD (h.toNat*8+c.toNat) 0=x) (by omega)<|zAE 1<|zAc 4<|zAa<|zAh<|zAh<|zAg<|S_a [(1,.v (PV.bor 13 [(0,0)] 80 0 S.length))] (ap ((by simp):PV.bor 13 [(0,0)] 80 0 (List.map hdV S).length=PV.bor 13 [(0,0)] 80 0 S.length) an)<|zAd 1<|S_a [(1,.v (I ((↑S.length:Int)-2)))] (ap ((zDl rfl (by omega)):I (IntKind.i64.wrap ((↑S.length:Int)-2))=I ((↑S.length:Int)-2)) an)<|zAd 2<|zAa<|zAi 3 ?_
   have hS0:∀ r:Nat,r<S.length→(S.getD r []).length=80∧S.getD r []=zBs n cs r:=fun r hr=>by
    rw [hS,zK3 (by omega)];exact ⟨zC9 r,rfl⟩
   have hSm:((S.length:Nat):Int)-2=(j:Int)-1:=by omega
   generalize yL:bkL n cs c.toNat x j [h]=fin
   clear hS wp hwl kF hm
   refine zAu (fun ((m:Int),(out:List Int))=>-1≤m∧m<j∧out.length≤20-m∧0<out.length∧(0≤out.getD 0 0∧out.getD 0 0<n.h)∧bkL n cs c.toNat x (m+1).toNat out=fin) (fun (m,out)=>[(14,.box (.own 1 (out.map I))),(15,.box (I m))]) (fun (m,_)=>(m+1).toNat) (((S.length:Nat):Int)-2,[h]) ⟨by omega,by omega,by simp only [List.length_cons,List.length_nil];omega,by simp,by simpa using hh,by rw [← yL];congr 1;omega⟩ fun (m,out) ⟨hm1,vN,ho1,ho2,ho3,gO⟩=>?_
   by_cases qt:0≤m
   ·have hA:=zT9 n cs (out.getD 0 0) hn ho3
    obtain ⟨uc,uN⟩:=hS0 m.toNat (by omega)
    rw [show (m+1).toNat=m.toNat+1 by omega,bkL,← uN] at gO
    refine zAh<|zAc 2<|zAa<|zA0 (m≥0) (by omega)<|zAl<|zAh<|zAi 4<|zUA<|zAh<|zVh (zAc 1<|S_a [(1,.v (PV.bor 14 [(0,0)] 1 0 out.length))] (ap ((by simp):PV.bor 14 [(0,0)] 1 0 (List.map I out).length=PV.bor 14 [(0,0)] 1 0 out.length) an)<|S_a [(2,.ob)] (ap ((by exact zAr (by omega)):decide (0<out.length)=true) an)<|S_a [(0,.cs false ([I (out.getD 0 0)]))] (ap (zDu (q:=PV.own 1 (List.map I out)) (xs:=List.map I out) (x:=I (out.getD 0 0)) (zLM (xs:=[PV.own 1 (List.map I out)]) (x:=PV.own 1 (List.map I out)) (y:=PV.own 1 (List.map I out)) rfl rfl) (zB0 (0) (by omega)):zAv 14 (PV.own 1 (List.map I out)).box [(0,0)] 0 0 1=some (false,[I (out.getD 0 0)])) an)<|S_a [(7,.ret (PV.func 112 [] [(zDP n cs).ref,(I (out.getD 0 0)).ref]) [])] (ap (f87 n cs (out.getD 0 0)) an)<|zAa<|zAi 5 ?_)
    refine zOD (t:=86) hA (fun i (_:Unit)=>∀ r,r<i→decide ((S.getD m.toNat []).getD ((zJL n (out.getD 0 0).toNat n.h.toNat).getD r 0*8+c.toNat) 0=x)=false) (fun _=>[]) () (fun r hr=>absurd hr (Nat.not_lt_zero r)) (fun i y _ hy hi=>?_) (fun _ hi=>?_)
    ·rw [List.getElem?_map] at hy
     obtain ⟨o,hmo,rfl⟩:=Option.map_eq_some_iff.1 hy
     have hol:o<n.h.toNat:=zQF (List.mem_of_getElem? hmo)
     refine zOI ?_
     refine zAg<|zAd 1<|zAa ?_
     have jP:(zJL n (out.getD 0 0).toNat n.h.toNat).getD i 0=o:=by rw [List.getD_eq_getElem?_getD,hmo];rfl
     refine ⟨rfl,by kernel_rfl,?_⟩
     refine zAi 6<|zAh<|zAg<|S_a [(1,.v (PV.bor 13 [(0,0)] 80 0 S.length))] (ap ((by simp):PV.bor 13 [(0,0)] 80 0 (List.map hdV S).length=PV.bor 13 [(0,0)] 80 0 S.length) an)<|zAd 3<|S_a [(0,.ob),(1,.ob),(1,.n m.toNat)] (ap ((by exact zAr (by omega)):decide (0≤m)=true)<|ap ((by exact zAr (by omega)):decide (m.toNat<S.length)=true)<|ap ((by simp):some (0+m.toNat)=some m.toNat) an)<|S_a [(2,.ob)] (ap ((by exact zAr (by omega)):decide (o<10)=true) an)<|S_a [(0,.ob),(1,.ob)] (ap ((by exact zAr (by omega)):decide (0≤c)=true)<|ap ((by exact zAr (by omega)):decide (c.toNat<8)=true) an)<|S_a [(0,.cs true ([I ((S.getD m.toNat []).getD (o*8+c.toNat) 0)]))] (ap (zDu (q:=PV.own 80 (List.map hdV S)) (xs:=List.map hdV S) (x:=PV.agg (zAq (S.getD m.toNat []) 80)) (zLM (xs:=[PV.own 80 (List.map hdV S)]) (x:=PV.own 80 (List.map hdV S)) (y:=PV.own 80 (List.map hdV S)) rfl rfl) (zB0 [] (by omega)) (zE4 (F:=S.getD m.toNat []) (m:=80) (j:=o*8+c.toNat) (by first | rfl | exact zBJ (by kernel_rfl) | exact zBP (by kernel_rfl) | exact zBL (by kernel_rfl) (by kernel_rfl) | exact zBN (by kernel_rfl) | exact zBT (by kernel_rfl) (by kernel_rfl) | exact zBM (by kernel_rfl) | (simp;done)) (by omega)):zAv 13 (PV.own 80 (List.map hdV S)).box [(0,0)] m.toNat (0+(↑o:Int).toNat*(fun x=>x.size) Try.prog.types[89]+c.toNat*(fun x=>x.size) Try.prog.types[3]) 1=some (true,[I ((S.getD m.toNat []).getD (o*8+c.toNat) 0)])) an)<|zAd 2<|zAa<|zCn ((S.getD m.toNat []).getD (o*8+c.toNat) 0=x) (fun k2=>(zAc 2<|S_a [(1,.v (PV.bor 14 [(0,0)] 1 0 out.length))] (ap ((by simp):PV.bor 14 [(0,0)] 1 0 (List.map I out).length=PV.bor 14 [(0,0)] 1 0 out.length) an)<|S_a [(1,.ob),(0,.vs (List.map I out)),(0,.ob),(0,.ob),(0,.ob),(3,.ob)] (ap ((by exact zBx (by simp only [List.length_map,zzLn,zBe]<;>omega)):(0+out.length).ble (List.map I out).length=true)<|ap ((by simp [zEM]):List.take out.length (List.drop 0 (List.map I out))=List.map I out)<|ap ((by exact all_map _):((List.map I out).all fun x=>x.plain)=true)<|ap ((by exact all_map _):((List.map I out).all fun y=>y.cells.length.beq ((fun x=>x.size) Try.prog.types[3])&&y.cells.all fun q=>q.oneCell)=true)<|ap ((by exact List.isEmpty_iff.2 (zQw _)):(zBp (List.map I out)).isEmpty=true)<|ap ((by exact zBx (by simp only [List.length_map,zzLn,zBe]<;>omega)):([I (↑o:Int)].length+(List.map I out).length).ble zBe=true) an)<|zAd 1<|zAa<|zAE 5 ?_)) (fun k2=>(zAl ?_))
     ·rw [zKh hmo (decide_eq_true (by assumption)) hi] at gO
      clear hi hmo hA
      refine ⟨by kernel_rfl,?_⟩
      refine zAh<|zAc 1<|zAa<|zAg<|zAd 2<|zAa<|zAg<|zAd 1<|S_a [(1,.v (I (m-1)))] (ap ((zDl rfl (by omega)):I (IntKind.i64.wrap (m-1))=I (m-1)) an)<|zAd 1<|zAa ?_
      exact ⟨(m-1,(o:Int)::out),⟨by omega,by omega,by simp only [List.length_cons];omega,by simp,by simp only [List.getD_cons_zero];omega,by rw [show (m-1+1).toNat=m.toNat by omega];exact gO⟩,by simp only;omega,by kernel_rfl,by kernel_rfl⟩
     ·refine ⟨by kernel_rfl,(),fun r hr=>?_,by kernel_rfl⟩
      rcases Nat.lt_succ_iff_lt_or_eq.1 hr with h | rfl
      ·exact hi r h
      ·rw [jP];exact decide_eq_false (by assumption)
    ·rw [zPM (by simpa using hi)] at gO
     clear hi hA
     show W _ _ _ _ _ _ _ _
     refine zAh<|zAc 1<|zAa<|zAg<|zAd 2<|zAa<|zAg<|zAd 1<|S_a [(1,.v (I (m-1)))] (ap ((zDl rfl (by omega)):I (IntKind.i64.wrap (m-1))=I (m-1)) an)<|zAd 1<|zAa ?_
     exact ⟨(m-1,out),⟨by omega,by omega,by omega,ho2,ho3,by rw [show (m-1+1).toNat=m.toNat by omega];exact gO⟩,by simp only;omega,by kernel_rfl,by kernel_rfl⟩
   ·have hm3:(m+1).toNat=0:=by omega
    rw [hm3,bkL] at gO
    rw [← gO]
    refine zAh<|zAc 2<|zAa<|zA1 (m≥0) (by omega)<|zAE 3<|zAh<|zAg<|S_a [(1,.v (PV.bor 14 [(0,0)] 1 0 out.length))] (ap ((by simp):PV.bor 14 [(0,0)] 1 0 (List.map I out).length=PV.bor 14 [(0,0)] 1 0 out.length) an)<|S_a [(2,.yes)] (ap ((by exact zBW (by simp<;>omega)):(Nat.beq 0 0&&out.length.beq (List.map I out).length)=true) an)<|zAd 1<|zAa<|zAm<|E_a [(1,.yes),(1,.v (PV.own 1 (List.map I out)))] (ap (blz (List.map I out))<|ap ((zA3 zAV):PV.own 1 (List.take (List.map I out).length (List.drop 0 (List.map I out)))=PV.own 1 (List.map I out)) an) (PV.tup [PV.own 1 (List.map I out),I 0]) [] rfl rfl
end Go.Eng
set_option maxRecDepth 10000
set_option maxHeartbeats 4000000
namespace Go.Eng
open Go Go.Proofs
theorem f49_2 (n:Nw) (cs:List (Int×Int)) (h:Int) (x:Int) (ho:CrOk n cs) (hh:0≤h∧h<n.h) (hx:0≤x∧x<n.n.length) (hm:∀ j,j≤12→(zBs n cs j).getD (h.toNat*8+((zAj n).getD x.toNat 0).toNat) 0≠x):FG 49 [nwV n,prs cs,I h,I x] (.tup [.own 1 [],I 6]):=by
 have hn:=ho.nw
 have qa:=ho.w
 have hb:=hn.h
 have ut:=hn.nl
 have hin:inB x 0 (n.n.length-1)=true:=by simp only [inB,Bool.and_eq_true,decide_eq_true_eq];omega
 have hih:inB h 0 (n.h-1)=true:=by simp only [inB,Bool.and_eq_true,decide_eq_true_eq];omega
 have hfb:=zCh hn x.toNat (by omega)
 refine zAf Try.f49 ?_
 refine zAc 4<|zAa<|zAc 2<|S_a [(8,.ret (PV.tup [zDP n cs,I 0]) [])] (ap (f82_1 n cs (by omega)) an)<|zAd 5<|zAa<|zAh<|zAi 0<|zAc 3<|zAa<|zA4<|zAc 2<|S_a [(8,.ret (PV.bool (inB h 0 (n.h-1))) [])] (ap (f69 n h (by omega)) an)<|zAd 2<|zFh 32 (!inB h 0 (n.h-1)) (fun k0=>(zAd 6<|zAa<|zBX<|zAc 2<|zAa<|zAm<|E_a [] an (PV.tup [PV.own 1 [],I 1]) [] ?_ rfl)) (fun k0=>(zAd 2<|S_a [(8,.ret (PV.bool (inB x 0 ((↑n.n.length:Int)-1))) [])] (ap (f73 n x (by first | omega | (simp<;>omega))) an)<|zAd 3<|zAa<|zEu (!inB x 0 ((↑n.n.length:Int)-1)) (fun k1=>(zAc 2<|zAa<|zAm<|E_a [] an (PV.tup [PV.own 1 [],I 1]) [] ?_ rfl)) (fun k1=>(zAl<|zAc 4<|S_a [(0,.ob),(1,.ob),(0,.v ((I ((zAj n).getD x.toNat 0)).ref))] (ap ((by exact zAr (by omega)):decide (0≤x)=true)<|ap ((by exact zAr (by omega)):decide (x.toNat<8)=true)<|ap (zGo (F:=zAj n) (m:=8) (j:=x.toNat) (by omega):zCc (PV.agg (zAq (zAj n) 8)).ref (x.toNat*(fun x=>x.size) Try.prog.types[3]) none=some (I ((zAj n).getD x.toNat 0)).ref) an)<|zAd 3<|zAa<|zAc 1<|S_a [(5,.ret (hdV (zPE n cs)) [])] (ap (f83 n cs (by omega)) an)<|zAd 3<|zAa<|zAh<|zAi 1 ?_))))
 ·exact absurd (by assumption:(!inB h 0 (n.h-1))=true) (by rw [hih];simp)
 ·exact absurd (by assumption:(!inB x 0 (n.n.length-1))=true) (by rw [hin];simp)
 ·generalize hc:((zAj n).getD x.toNat 0)=c at *
  refine zAu (fun (j,S)=>j≤12∧S=zQI n cs (j+1)) (fun (j,S)=>[(13,zTF S)]) (fun (j,_)=>12-j) ((0:Nat),[zPE n cs]) ⟨by omega,rfl⟩ fun (j,S) ⟨hj,hS⟩=>?_
  have hSl:S.length=j+1:=by rw [hS];simp [zQI]
  have wp:S.getD (S.length-1) []=zBs n cs j:=by rw [hSl,hS];exact zK3 (by omega)
  have hwl:(S.getD (S.length-1) []).length=80:=by rw [wp];exact zC9 j
  have hI:=hm j hj
  rw [← wp] at hI
  have hSS:S++[zDZ n (S.getD (S.length-1) [])]=zQI n cs (j+1+1):=by rw [zMo (k:=j+1),← hS,wp];rfl
  by_cases gM:j<12
  ·refine zAh<|zAh<|zAg<|S_a [(1,.v (PV.bor 13 [(0,0)] 80 0 S.length))] (ap ((by simp):PV.bor 13 [(0,0)] 80 0 (List.map hdV S).length=PV.bor 13 [(0,0)] 80 0 S.length) an)<|S_a [(1,.v (PV.bor 13 [(0,0)] 80 0 S.length))] (ap ((by simp):PV.bor 13 [(0,0)] 80 0 (List.map hdV S).length=PV.bor 13 [(0,0)] 80 0 S.length) an)<|zAd 1<|S_a [(1,.v (I (↑(S.length-1):Int)))] (ap ((zDl (by omega) (by omega)):I (IntKind.i64.wrap ((↑S.length:Int)-1))=I (↑(S.length-1):Int)) an)<|zAd 2<|S_a [(2,.ob),(1,.n (S.length-1))] (ap ((by exact zAr (by omega)):decide (S.length-1<S.length)=true)<|ap ((by simp):some (0+(S.length-1))=some (S.length-1)) an)<|S_a [(0,.ob),(1,.ob)] (ap ((by exact zAr (by omega)):decide (0≤h)=true)<|ap ((by exact zAr (by omega)):decide (h.toNat<10)=true) an)<|S_a [(0,.ob),(1,.ob)] (ap ((by exact zAr (by omega)):decide (0≤c)=true)<|ap ((by exact zAr (by omega)):decide (c.toNat<8)=true) an)<|S_a [(0,.cs true ([I ((S.getD (S.length-1) []).getD (h.toNat*8+c.toNat) 0)]))] (ap (zDu (q:=PV.own 80 (List.map hdV S)) (xs:=List.map hdV S) (x:=PV.agg (zAq (S.getD (S.length-1) []) 80)) (zLM (xs:=[PV.own 80 (List.map hdV S)]) (x:=PV.own 80 (List.map hdV S)) (y:=PV.own 80 (List.map hdV S)) rfl rfl) (zB0 [] (by omega)) (zE4 (F:=S.getD (S.length-1) []) (m:=80) (j:=h.toNat*8+c.toNat) (by first | rfl | exact zBJ (by kernel_rfl) | exact zBP (by kernel_rfl) | exact zBL (by kernel_rfl) (by kernel_rfl) | exact zBN (by kernel_rfl) | exact zBT (by kernel_rfl) (by kernel_rfl) | exact zBM (by kernel_rfl) | (simp;done)) (by omega)):zAv 13 (PV.own 80 (List.map hdV S)).box [(0,0)] (S.length-1) (0+h.toNat*(fun x=>x.size) Try.prog.types[89]+c.toNat*(fun x=>x.size) Try.prog.types[3]) 1=some (true,[I ((S.getD (S.length-1) []).getD (h.toNat*8+c.toNat) 0)])) an)<|zAd 2<|zAa<|zEV ((S.getD (S.length-1) []).getD (h.toNat*8+c.toNat) 0=x) (by omega)<|zAl<|zAi 2<|zAh<|zAh<|zAg<|S_a [(1,.v (PV.bor 13 [(0,0)] 80 0 S.length))] (ap ((by simp):PV.bor 13 [(0,0)] 80 0 (List.map hdV S).length=PV.bor 13 [(0,0)] 80 0 S.length) an)<|zAd 2<|zAa<|zA1 ((↑S.length:Int)>12) (by omega)<|zAl<|zAg<|S_a [(1,.v (PV.bor 13 [(0,0)] 80 0 S.length))] (ap ((by simp):PV.bor 13 [(0,0)] 80 0 (List.map hdV S).length=PV.bor 13 [(0,0)] 80 0 S.length) an)<|zAd 1<|S_a [(1,.v (PV.bor 13 [(0,0)] 80 0 S.length))] (ap ((by simp):PV.bor 13 [(0,0)] 80 0 (List.map hdV S).length=PV.bor 13 [(0,0)] 80 0 S.length) an)<|S_a [(1,.v (PV.bor 13 [(0,0)] 80 0 S.length))] (ap ((by simp):PV.bor 13 [(0,0)] 80 0 (List.map hdV S).length=PV.bor 13 [(0,0)] 80 0 S.length) an)<|zAd 1<|S_a [(1,.v (I (↑(S.length-1):Int)))] (ap ((zDl (by omega) (by omega)):I (IntKind.i64.wrap ((↑S.length:Int)-1))=I (↑(S.length-1):Int)) an)<|S_a [(2,.ob),(1,.n (S.length-1))] (ap ((by exact zAr (by omega)):decide (S.length-1<S.length)=true)<|ap ((by simp):some (0+(S.length-1))=some (S.length-1)) an)<|S_a [(0,.cs true (zAq (S.getD (S.length-1) []) 80))] (ap (zDu (q:=PV.own 80 (List.map hdV S)) (xs:=List.map hdV S) (x:=PV.agg (zAq (S.getD (S.length-1) []) 80)) (zLM (xs:=[PV.own 80 (List.map hdV S)]) (x:=PV.own 80 (List.map hdV S)) (y:=PV.own 80 (List.map hdV S)) rfl rfl) (zB0 [] (by omega)):zAv 13 (PV.own 80 (List.map hdV S)).box [(0,0)] (S.length-1) 0 Try.prog.types[91].size=some (true,zAq (S.getD (S.length-1) []) 80)) an)<|S_a [(7,.ret (hdV (zDZ n (S.getD (S.length-1) []))) [])] (ap (f84 n cs (S.getD (S.length-1) []) (by omega) (by omega)) an)<|zAd 1<|S_a [(4,.ob),(0,.ob),(0,.yes),(2,.v (PV.own 80 (List.map hdV (S++[zDZ n (S.getD (S.length-1) [])]))))] (ap ((by exact zBx (by simp only [List.length_map,zzLn,zBe]<;>omega)):(0+S.length).ble (List.map hdV S).length=true)<|ap ((by exact zBx (by simp only [List.length_map,zzLn,zBe]<;>omega)):((List.map hdV S).length + [PV.agg (zAq (zDZ n (S.getD (S.length-1) [])) 80)].length).ble zBe=true)<|ap ((by exact zBW (by simp<;>omega)):(0+S.length).beq (List.map hdV S).length=true)<|ap ((zA3 (zDx (by kernel_rfl))):PV.own 80 (List.map hdV S++[PV.agg (zAq (zDZ n (S.getD (S.length-1) [])) 80)])=PV.own 80 (List.map hdV (S++[zDZ n (S.getD (S.length-1) [])]))) an)<|zAd 1<|zAa ?_
   exact ⟨(j+1,S++[zDZ n (S.getD (S.length-1) [])]),⟨by omega,hSS⟩,by simp only;omega,by kernel_rfl,by kernel_rfl⟩
  ·refine zAh<|zAh<|zAg<|S_a [(1,.v (PV.bor 13 [(0,0)] 80 0 S.length))] (ap ((by simp):PV.bor 13 [(0,0)] 80 0 (List.map hdV S).length=PV.bor 13 [(0,0)] 80 0 S.length) an)<|S_a [(1,.v (PV.bor 13 [(0,0)] 80 0 S.length))] (ap ((by simp):PV.bor 13 [(0,0)] 80 0 (List.map hdV S).length=PV.bor 13 [(0,0)] 80 0 S.length) an)<|zAd 1<|S_a [(1,.v (I (↑(S.length-1):Int)))] (ap ((zDl (by omega) (by omega)):I (IntKind.i64.wrap ((↑S.length:Int)-1))=I (↑(S.length-1):Int)) an)<|zAd 2<|S_a [(2,.ob),(1,.n (S.length-1))] (ap ((by exact zAr (by omega)):decide (S.length-1<S.length)=true)<|ap ((by simp):some (0+(S.length-1))=some (S.length-1)) an)<|S_a [(0,.ob),(1,.ob)] (ap ((by exact zAr (by omega)):decide (0≤h)=true)<|ap ((by exact zAr (by omega)):decide (h.toNat<10)=true) an)<|S_a [(0,.ob),(1,.ob)] (ap ((by exact zAr (by omega)):decide (0≤c)=true)<|ap ((by exact zAr (by omega)):decide (c.toNat<8)=true) an)<|S_a [(0,.cs true ([I ((S.getD (S.length-1) []).getD (h.toNat*8+c.toNat) 0)]))] (ap (zDu (q:=PV.own 80 (List.map hdV S)) (xs:=List.map hdV S) (x:=PV.agg (zAq (S.getD (S.length-1) []) 80)) (zLM (xs:=[PV.own 80 (List.map hdV S)]) (x:=PV.own 80 (List.map hdV S)) (y:=PV.own 80 (List.map hdV S)) rfl rfl) (zB0 [] (by omega)) (zE4 (F:=S.getD (S.length-1) []) (m:=80) (j:=h.toNat*8+c.toNat) (by first | rfl | exact zBJ (by kernel_rfl) | exact zBP (by kernel_rfl) | exact zBL (by kernel_rfl) (by kernel_rfl) | exact zBN (by kernel_rfl) | exact zBT (by kernel_rfl) (by kernel_rfl) | exact zBM (by kernel_rfl) | (simp;done)) (by omega)):zAv 13 (PV.own 80 (List.map hdV S)).box [(0,0)] (S.length-1) (0+h.toNat*(fun x=>x.size) Try.prog.types[89]+c.toNat*(fun x=>x.size) Try.prog.types[3]) 1=some (true,[I ((S.getD (S.length-1) []).getD (h.toNat*8+c.toNat) 0)])) an)<|zAd 2<|zAa<|zEV ((S.getD (S.length-1) []).getD (h.toNat*8+c.toNat) 0=x) (by omega)<|zAl<|zAi 2<|zAh<|zAh<|zAg<|S_a [(1,.v (PV.bor 13 [(0,0)] 80 0 S.length))] (ap ((by simp):PV.bor 13 [(0,0)] 80 0 (List.map hdV S).length=PV.bor 13 [(0,0)] 80 0 S.length) an)<|zAd 2<|zAa<|zA0 ((↑S.length:Int)>12) (by omega)<|zAc 2<|zAa<|zAm<|E_a [] an (PV.tup [PV.own 1 [],I 6]) [] rfl rfl
end Go.Eng
set_option maxRecDepth 100000
set_option maxHeartbeats 4000000
namespace Go.Eng
open Go Go.Proofs
theorem zT0:FG 47 [] (.tup [nwO zDO,.own 2 (zFj.map prV)]):=zDi.closed 20
theorem zS8:FG 9 [nwV zDO,prs zFj,I 1] (.tup [.own 2 [.agg [I 2,I 0],.agg [I 3,I 0]],I 0]):=by
 have:=f9_1 zDO zFj 1 (zT1 (by decide +kernel))
 rw [zOc] at this;exact this
theorem zNu:FG 48 [nwV zDO,prs zFj] (.tup [I 3,I 0]):=f48_1 zDO zFj 3 zJ2 (by decide) (by decide +kernel) (by decide +kernel)
theorem zSS:FG 49 [nwV zDO,prs zFj,I 2,I 0] (.tup [.own 1 [I 3,I 2],I 0]):=by
 have:=f49_1 zDO zFj 2 0 1 zJ2 (by decide) (by decide) (by decide) (by decide +kernel) (by decide +kernel)
 rw [show bkL zDO zFj ((zAj zDO).getD (0:Int).toNat 0).toNat 0 1 [2]=[3,2] from by decide +kernel] at this;exact this
theorem zWa:FG 49 [nwV zDO,prs zFj,I 1,I 0] (.tup [.own 1 [],I 6]):=f49_2 zDO zFj 1 0 zJ2 (by decide) (by decide) (by decide +kernel)
theorem zQk:FG 52 [nwV zDO,prs zFj] (.tup [I 3,I 0]):=by
 have:=f52_1 zDO zFj zJ2
 rw [if_pos (show zBU zDO (zBs zDO zFj 12)=[] from by decide +kernel),if_pos (show zBU zDO (zBs zDO zFj 12)=[] from by decide +kernel),show zVj zDO zFj 12=3 from by decide +kernel] at this;exact this
theorem zOZ:FG 15 [nwV zDO,prs zFj,I 0] (.tup [.own 1 [I 3],I 0]):=by
 have:=f15_1 zDO zFj 0 (zT1 (by decide +kernel))
 rw [show zGE (msl zDO (zBU zDO (zBs zDO zFj (0:Int).toNat)))=[3] from by decide +kernel] at this;exact this
theorem zQ3:FG 16 [nwV zDO] (.tup [.own 1 [],I 0]):=by
 have:=f16_1 zDO zTJ
 rw [show zCH (zPP zDO) zDO.n.length=[] from by decide +kernel] at this;exact this
theorem f14:FG 14 [] (.bool true):=by
 have h1:=zT0
 have h2:=zS8
 have h3:=zNu
 have h4:=zSS
 have h5:=zWa
 have h6:=zO6
 have h7:=zQk
 have h8:=zOZ
 have h9:=zQ3
 have l1:FG 50 [.sl [.agg [I 2,I 0],.agg [I 3,I 0]],.sl [.agg [I 2,I 0],.agg [I 3,I 0]]] (.bool true):=f50 [(2,0),(3,0)] [(2,0),(3,0)] (by decide)
 have l2:FG 33 [.sl [I 3,I 2],.sl [I 3,I 2]] (.bool true):=f33 [3,2] [3,2] (by decide)
 have l3:FG 53 [.sl [.agg [I 1,I 1]],.sl [.agg [I 1,I 1]]] (.bool true):=f53 [(1,1)] [(1,1)] (by decide)
 have l4:FG 33 [.sl [I 3],.sl [I 3]] (.bool true):=f33 [3] [3] (by decide)
 refine zAf Try.f14 ?_
 refine zAc 1<|zAa<|zAh<|zAg<|S_a [(4,.ret (PV.tup [nwO zDO,PV.own 2 (List.map prV zFj)]) [])] (ap h1 an)<|zAd 6<|zAa<|zAc 2<|S_a [(21,.ret (PV.tup [PV.own 2 [PV.agg [I 2,I 0],PV.agg [I 3,I 0]],I 0]) [])] (ap h2 an)<|zAd 5<|zAa<|zAc 2<|S_a [(19,.ret (PV.tup [I 3,I 0]) [])] (ap h3 an)<|zAd 5<|zAa<|zAc 2<|S_a [(23,.ret (PV.tup [PV.own 1 [I 3,I 2],I 0]) [])] (ap h4 an)<|zAd 5<|zAa<|zAc 2<|S_a [(23,.ret (PV.tup [PV.own 1 [],I 6]) [])] (ap h5 an)<|zAd 5<|zAa<|zAh<|zAc 19<|S_a [(10,.ret (PV.bool true) [])] (ap l1 an)<|zAd 9<|S_a [(10,.ret (PV.bool true) [])] (ap l2 an)<|zAd 2<|zAa<|zA4<|zAl<|zAc 3<|S_a [(24,.ret (PV.tup [PV.own 2 [PV.agg [I 1,I 1]],I 0]) [])] (ap h6 an)<|zAd 5<|zAa<|zAc 2<|S_a [(19,.ret (PV.tup [I 3,I 0]) [])] (ap h7 an)<|zAd 5<|zAa<|zAc 2<|S_a [(21,.ret (PV.tup [PV.own 1 [I 3],I 0]) [])] (ap h8 an)<|zAd 5<|zAa<|zAc 1<|S_a [(16,.ret (PV.tup [PV.own 1 [],I 0]) [])] (ap h9 an)<|zAd 5<|zAa<|zAc 18<|S_a [(10,.ret (PV.bool true) [])] (ap l3 an)<|zAd 8<|S_a [(10,.ret (PV.bool true) [])] (ap l4 an)<|zAd 3<|zAd 4<|zAa<|zAm<|E_a [] an (PV.bool true) [] rfl rfl
end Go.Eng
namespace Go.Eng
open Go Go.Proofs
theorem zHd {n:Nw} (ho:NwOk n) (j:Nat):∀ i,j<i→i≤n.n.length→(zOa n.n i).getD j 0=(zOa n.n (j+1)).getD j 0
 | 0,h,_=>absurd h (Nat.not_lt_zero j)
 | i + 1,h,hi=>by
  have h8:=ho.nl.2
  by_cases hj:j=i
  ·subst hj;rfl
  ·rw [zOa,zJj (zHf i) (by omega) (ho.na i (by omega)),if_neg hj]
   exact zHd ho j i (by omega) (by omega)
theorem zHg {n:Nw} (ho:NwOk n) {i:Nat} (hi:i<n.n.length):(zAj n).getD i 0=if (n.n.getD i default).1 = -1 then (i:Int) else (zAj n).getD (n.n.getD i default).1.toNat 0:=by
 have h8:=ho.nl.2
 have ha:=ho.na i hi
 unfold zAj
 rw [zHd ho i n.n.length hi (Nat.le_refl _),zOa,zJj (zHf i) (by omega) ha,if_pos rfl]
 split
 ·rfl
 ·rename_i hI
  rw [zHd ho (n.n.getD i default).1.toNat i (by omega) (by omega),zHd ho (n.n.getD i default).1.toNat n.n.length (by omega) (Nat.le_refl _)]
theorem zM6 {n:Nw} (ho:NwOk n):∀ (i:Nat),i<n.n.length→(zAj n).getD ((zAj n).getD i 0).toNat 0=(zAj n).getD i 0:=by
 intro i
 induction i using Nat.strongRecOn with
 | ind i ih =>
  intro hi
  have ha:=ho.na i hi
  have hr:=zHg ho hi
  by_cases h:(n.n.getD i default).1 = -1
  ·rw [if_pos h] at hr
   rw [hr,Int.toNat_natCast,hr]
  ·rw [if_neg h] at hr
   rw [hr]
   exact ih (n.n.getD i default).1.toNat (by omega) (by omega)
def chn (n:Nw) (i j:Nat):Prop:=(zAj n).getD i 0=(zAj n).getD j 0
theorem zOO {n:Nw} (ho:NwOk n):∀ (j i:Nat),i<j→j<n.n.length→chn n i j→∃ k,i<k∧k≤j∧k<n.n.length∧(n.n.getD k default).1=i∧chn n k j:=by
 intro j
 induction j using Nat.strongRecOn with
 | ind j ih =>
  intro i hij hj hc
  have ha:=ho.na j hj
  have hr:=zHg ho hj
  have uL:=zCh ho i (by omega)
  by_cases h:(n.n.getD j default).1 = -1
  ·rw [if_pos h] at hr
   unfold chn at hc
   omega
  ·rw [if_neg h] at hr
   by_cases he:(n.n.getD j default).1=(i:Int)
   ·exact ⟨j,hij,Nat.le_refl _,hj,he,rfl⟩
   ·by_cases yI:(i:Int)<(n.n.getD j default).1
    ·obtain ⟨k,h1,h2,h3,h4,h5⟩:=ih (n.n.getD j default).1.toNat (by omega) i (by omega) (by omega) (by unfold chn at hc ⊢;rw [hc,hr])
     exact ⟨k,h1,by omega,h3,h4,by unfold chn at h5 ⊢;rw [h5,hr]⟩
    ·
     exfalso
     obtain ⟨k,h1,h2,h3,h4,_⟩:=ih i hij (n.n.getD j default).1.toNat (by omega) (by omega) (by unfold chn at hc ⊢;rw [← hr,hc])
     exact ho.nd j k (by omega) hj h (by rw [h4];omega)
theorem zF4 {F L:List Int} {i j:Nat} (h:i≠j):∀ k,(zR4 F i L k).getD j 0=L.getD j 0
 | 0=>rfl
 | k+1=>by
  rw [zGP,zLN]
  split
  ·rw [zCL,if_neg (fun h2=>h h2.1)];exact zF4 h k
  ·exact zF4 h k
theorem zRP {F L:List Int} {i:Nat} (hL:L.length=8) (hi:i<8) (h0:L.getD i 0=0):∀ k,∃ l:Nat,(zR4 F i L k).getD i 0=l∧(l=0∨l<k∧F.getD l 0=F.getD i 0)∧∀ j,j<k→F.getD j 0=F.getD i 0→j≤l
 | 0=>⟨0,h0,.inl rfl,fun j hj=>absurd hj (Nat.not_lt_zero j)⟩
 | k + 1 => by
  obtain ⟨l,h1,h2,h3⟩:=zRP hL hi h0 k
  rw [zGP,zLN]
  split
  ·rename_i hk
   refine ⟨max l k,?_,?_,fun j hj hf=>?_⟩
   ·rw [zCL,if_pos ⟨rfl,by rw [zIm];omega⟩,h1];omega
   ·by_cases yC:l≤k
    ·right;rw [Nat.max_eq_right yC];exact ⟨by omega,hk⟩
    ·rw [Nat.max_eq_left (by omega)]
     rcases h2 with h2 | ⟨h2,h4⟩
     ·exact .inl h2
     ·exact .inr ⟨by omega,h4⟩
   ·by_cases gM:j=k
    ·omega
    ·have:=h3 j (by omega) hf;omega
  ·rename_i hk
   refine ⟨l,h1,?_,fun j hj hf=>?_⟩
   ·rcases h2 with h2 | ⟨h2,h4⟩
    ·exact .inl h2
    ·exact .inr ⟨by omega,h4⟩
   ·by_cases gM:j=k
    ·subst gM;exact absurd hf hk
    ·exact h3 j (by omega) hf
theorem zMw {F:List Int} {m:Nat}:∀ i j,i≤j→(zPR F m i).getD j 0=0
 | 0,j,_=>by
  simp only [zPR,List.range_zero,List.foldl_nil,List.getD_eq_getElem?_getD,List.getElem?_replicate]
  split<;>rfl
 | i+1,j,h=>by rw [zFu,zF4 (by omega)];exact zMw i j (by omega)
theorem zMy {F:List Int} {m j:Nat}:∀ i,j<i→(zPR F m i).getD j 0=(zPR F m (j+1)).getD j 0
 | 0,h=>absurd h (Nat.not_lt_zero j)
 | i+1,h=>by
  by_cases hj:j=i
  ·subst hj;rfl
  ·rw [zFu,zF4 (by omega)];exact zMy i (by omega)
theorem zP9 {n:Nw} (ho:NwOk n) {i:Nat} (hi:i<n.n.length):∃ l:Nat,(zAU n).getD i 0=l∧l<n.n.length∧chn n l i∧i≤l∧∀ k,k<n.n.length→chn n k i→k≤l:=by
 have h8:=ho.nl.2
 obtain ⟨l,h1,h2,h3⟩:=zRP (F:=zAj n) (i:=i) (zKC (F:=zAj n) (m:=n.n.length) i) (by omega) (zMw i i (Nat.le_refl i)) n.n.length
 have yJ:=h3 i hi rfl
 refine ⟨l,?_,?_,?_,yJ,fun k hk hc=>h3 k hk hc⟩
 ·unfold zAU
  rw [zMy n.n.length hi,zFu];exact h1
 ·rcases h2 with h2 | ⟨h2,_⟩<;>omega
 ·rcases h2 with h2 | ⟨_,h4⟩
  ·have:i=l:=by omega
   subst this;rfl
  ·exact h4
end Go.Eng
set_option maxRecDepth 10000
set_option maxHeartbeats 4000000
namespace Go.Eng
open Go Go.Proofs
def zGN (n:Nw) (x:Int):Int:=zEL (fun y=>decide (y.1=x)) n.n
theorem f74 (n:Nw) (x:Int) (hl:n.n.length<1000000):FG 74 [nwV n,I x] (I (zGN n x)):=by
 refine zAf Try.f74 ?_
 refine zAc 2<|zAa<|zAh<|zAc 1<|zAa<|zAi 0 ?_
 refine zAu (fun i=>i≤n.n.length∧∀ j,j<i→decide ((n.n.getD j default).1=x)=false) (fun (i:Nat)=>[(5,I (i:Nat))]) (fun i=>n.n.length-i) (0:Nat) ⟨by omega,fun j hj=>absurd hj (Nat.not_lt_zero j)⟩ fun i ⟨hi,ha⟩=>?_
 refine zAh<|zAc 3<|S_a [(0,.n n.n.length)] (ap (lnS ntV n.n) an)<|zAd 1<|zAa<|zCn ((↑i:Int)<(↑n.n.length:Int)) (fun k0=>(zAl<|zAh<|zAi 1<|zAc 3<|S_a [(2,.v (PV.agg [I (n.n.getD i default).fst,PV.bool (n.n.getD i default).snd]))] (ap (zB0 default (by omega):(List.map ntV n.n)[i]? = some (PV.agg [I (n.n.getD i default).fst,PV.bool (n.n.getD i default).snd])) an)<|zAd 4<|zAa<|zCn ((n.n.getD i default).fst=x) (fun k1=>(zAc 2<|zAa<|zAm<|E_a [] an (I (↑i:Int)) [] ?_ rfl)) (fun k1=>(zAl<|zAg<|zAd 1<|S_a [(1,.v (I (↑(i+1):Int)))] (ap (wrN i) an)<|zAd 1<|zAa ?_)))) (fun k0=>(zAE 0<|zAc 1<|zAa<|zAm<|E_a [] an (I (-1)) [] ?_ rfl))
 ·rw [zGN,zBV (i:=i) (by omega) (fun j hj=>by rw [← zAB (d:=default)];exact ha j hj) (by rw [← zAB (d:=default)];exact decide_eq_true (by assumption))]
 ·refine ⟨i+1,⟨by omega,fun j hj=>?_⟩,by omega,by kernel_rfl,by kernel_rfl⟩
  rcases Nat.lt_succ_iff_lt_or_eq.1 hj with h | rfl
  ·exact ha j h
  ·exact decide_eq_false (by assumption)
 ·rw [zGN,zCi fun j hj=>by rw [← zAB (d:=default)];exact ha j (by omega)]
theorem zTy {a b:Int} {x:Int×Int}:pr2 x=pr2 (a,b)↔x.1=a∧x.2=b∨x.1=b∧x.2=a:=by
 obtain ⟨c,d⟩:=x
 simp only [pr2,Prod.mk.injEq]
 constructor
 ·rintro ⟨h1,h2⟩
  repeat' split at h1
  all_goals (repeat' split at h2)
  all_goals omega
 ·intro h
  constructor
  ·repeat' split
   all_goals omega
  ·repeat' split
   all_goals omega
end Go.Eng
set_option maxRecDepth 10000
set_option maxHeartbeats 4000000
namespace Go.Eng
open Go Go.Proofs
abbrev bls (l:List Bool):PV := .sl (l.map PV.bool)
def kn (K:List (List Bool)) (h i:Nat):Bool:=(K.getD h []).getD i false
structure RelK (n:Nw) (K:List (List Bool)) (w:List Int):Prop where
 len:K.length=n.h.toNat
 row:∀ r∈K,r.length=n.n.length
 wl:w.length=80
 top:∀ h i,h<n.h.toNat→i<n.n.length→kn K h i=true→(i:Int)≤w.getD (h*8+((zAj n).getD i 0).toNat) 0
 at_:∀ h c,h<n.h.toNat→c<8→w.getD (h*8+c) 0 = -1∨∃ i,i<n.n.length∧(zAj n).getD i 0=c∧w.getD (h*8+c) 0=i∧kn K h i=true
def hld (n:Nw) (w:List Int) (h i:Nat):Bool:=decide (w.getD (h*8+((zAj n).getD i 0).toNat) 0=i)
theorem zSA {n:Nw} {x:Int} (h:zGN n x≠-1):∃ k:Nat,zGN n x=k∧k<n.n.length∧(n.n.getD k default).1=x:=by
 unfold zGN zEL at h ⊢
 split
 ·rename_i yI
  have hp:=List.findIdx_getElem (w:=yI)
  exact ⟨_,rfl,yI,by rw [zAB yI];simpa using hp⟩
 ·rename_i hn;rw [if_neg hn] at h;exact absurd rfl h
theorem zTg {n:Nw} {x:Int} (h:zGN n x = -1) (k:Nat) (hk:k<n.n.length):(n.n.getD k default).1≠x:=by
 have h2:=zD5 (fun y:Int×Bool=>decide (y.1=x)) n.n
 unfold zGN at h
 rw [h] at h2
 intro he
 have:(n.n.any fun y=>decide (y.1=x))=true:=List.any_eq_true.2 ⟨_,List.getElem_mem hk,by rw [zAB hk] at he;simpa using he⟩
 rw [this] at h2;cases h2
theorem zU0 {n:Nw} (ho:NwOk n) {i k:Nat} (hk:k<n.n.length) (h:(n.n.getD k default).1=i):i<k∧chn n k i:=by
 have ha:=ho.na k hk
 have hr:=zHg ho hk
 refine ⟨by omega,?_⟩
 rw [if_neg (by omega),h,Int.toNat_natCast] at hr
 exact hr
theorem zSK {n:Nw} (ho:NwOk n) {a b:Nat} {x:Int} (hx:0≤x) (ha:a<n.n.length) (hb:b<n.n.length) (h1:(n.n.getD a default).1=x) (h2:(n.n.getD b default).1=x):a=b:=by
 by_cases h:a=b
 ·exact h
 ·exfalso
  by_cases yI:a<b
  ·exact ho.nd b a yI hb (by omega) (by rw [h1,h2])
  ·exact ho.nd a b (by omega) ha (by omega) (by rw [h1,h2])
theorem zOb {n:Nw} (ho:NwOk n) {i:Nat} (hi:i<n.n.length):(zGN n i = -1∧∀ k,k<n.n.length→chn n k i→¬ i<k)∨∃ m:Nat,zGN n i=m∧i<m∧m<n.n.length∧chn n m i∧∀ k,k<n.n.length→chn n k i→i<k→m≤k:=by
 by_cases h:zGN n i = -1
 ·left
  refine ⟨h,fun k hk hc hik=>?_⟩
  obtain ⟨j,_,_,h3,h4,_⟩:=zOO ho k i hik hk hc.symm
  exact zTg h j h3 h4
 ·right
  obtain ⟨m,h1,h2,h3⟩:=zSA h
  obtain ⟨h4,h5⟩:=zU0 ho h2 h3
  refine ⟨m,h1,h4,h2,h5,fun k hk hc hik=>?_⟩
  obtain ⟨j,g1,g2,g3,g4,_⟩:=zOO ho k i hik hk hc.symm
  have:=zSK ho (by omega) h2 g3 h3 g4
  omega
end Go.Eng
set_option maxRecDepth 10000
set_option maxHeartbeats 4000000
namespace Go.Eng
open Go Go.Proofs
def hrB (n:Nw) (h i:Int) (c:Int×Int):Bool:=decide (c.1=i)&&has (n.s.getD c.2.toNat []) h
def zSs (n:Nw) (cs:List (Int×Int)) (h i:Int):Bool:=cs.any (hrB n h i)
end Go.Eng
set_option maxRecDepth 10000
set_option maxHeartbeats 4000000
namespace Go.Eng
open Go Go.Proofs
abbrev lsB (l:List Bool):PV := .own 1 (l.map PV.bool)
instance:FrzOf lsB bls:=⟨fun x=>by simp only [zAP,zE1]⟩
end Go.Eng
namespace Go.Eng
open Go Go.Proofs
structure Tr (n:Nw) (w:List Int) (S:Nat→Nat→Prop):Prop where
 wl:w.length=80
 at_:∀ h c,h<n.h.toNat→c<8→w.getD (h*8+c) 0 = -1∨∃ i,i<n.n.length∧(zAj n).getD i 0=(c:Int)∧w.getD (h*8+c) 0=i∧S h i
 top:∀ h i,h<n.h.toNat→i<n.n.length→S h i→(i:Int)≤w.getD (h*8+((zAj n).getD i 0).toNat) 0
theorem zLq {w:List Int} {i j:Nat} {x:Int} (hi:i<w.length):(zPQ w i x).getD j 0=if i=j then max (w.getD j 0) x else w.getD j 0:=by
 unfold zPQ
 rw [zCL]
 by_cases h:i=j
 ·subst h;rw [if_pos ⟨rfl,hi⟩,if_pos rfl]
 ·rw [if_neg (fun h2=>h h2.1),if_neg h]
theorem Tr.upd {n:Nw} {w:List Int} {S:Nat→Nat→Prop} (ho:NwOk n) (ht:Tr n w S) {h0 i0:Nat} (hh:h0<n.h.toNat) (hi:i0<n.n.length):Tr n (zPQ w (h0*8+((zAj n).getD i0 0).toNat) i0) (fun h i=>S h i∨h=h0∧i=i0):=by
 have ut:=ho.nl.2
 have hH:=ho.h.2
 have hf0:=zCh ho i0 hi
 have yI:h0*8+((zAj n).getD i0 0).toNat<w.length:=by rw [ht.wl];omega
 refine ⟨by rw [zIn];exact ht.wl,fun h c gT hc=>?_,fun h i gT hi1 hS=>?_⟩
 ·rw [zLq yI]
  split
  ·rename_i he
   have e1:h=h0:=by omega
   have e2:((zAj n).getD i0 0).toNat=c:=by omega
   have e3:(zAj n).getD i0 0=(c:Int):=by omega
   subst e1
   have hw:=ht.at_ h c gT hc
   by_cases hm:w.getD (h*8+c) 0≤(i0:Int)
   ·right
    exact ⟨i0,hi,e3,by rw [Int.max_eq_right hm],.inr ⟨rfl,rfl⟩⟩
   ·rcases hw with hw | ⟨i,g1,g2,g3,g4⟩
    ·omega
    ·right;exact ⟨i,g1,g2,by rw [Int.max_eq_left (by omega)];exact g3,.inl g4⟩
  ·rcases ht.at_ h c gT hc with hw | ⟨i,g1,g2,g3,g4⟩
   ·exact .inl hw
   ·exact .inr ⟨i,g1,g2,g3,.inl g4⟩
 ·rw [zLq yI]
  have ga:=zCh ho i hi1
  rcases hS with hS | ⟨rfl,rfl⟩
  ·have:=ht.top h i gT hi1 hS
   split<;>omega
  ·rw [if_pos rfl];omega
theorem Tr.same {n:Nw} {w:List Int} {S S':Nat→Nat→Prop} (ht:Tr n w S) (h:∀ a i,a<n.h.toNat→i<n.n.length→(S a i↔S' a i)):Tr n w S' :=
 ⟨ht.wl,fun a c ha hc=>by
  rcases ht.at_ a c ha hc with h1 | ⟨i,g1,g2,g3,g4⟩
  ·exact .inl h1
  ·exact .inr ⟨i,g1,g2,g3,(h a i ha g1).1 g4⟩,fun a i ha hi hs=>ht.top a i ha hi ((h a i ha hi).2 hs)⟩
theorem Tr.none (n:Nw) (ho:NwOk n):Tr n (List.replicate 80 (-1)) (fun _ _=>False):=by
 have hH:=ho.h.2
 refine ⟨by simp,fun h c hh hc => .inl ?_,fun _ _ _ _ h=>h.elim⟩
 rw [zAB (by rw [List.length_replicate];omega),List.getElem_replicate]
end Go.Eng
namespace Go.Eng
open Go Go.Proofs
theorem Tr.begC {n:Nw} {w:List Int} {S:Nat→Nat→Prop} (ho:NwOk n) (ht:Tr n w S) {h:Nat} (hh:h<n.h.toNat) {c:Int×Int} (hc:0≤c.1∧c.1<n.n.length):Tr n (begC n h w c) (fun a i=>S a i∨a=h∧hrB n h i c=true):=by
 unfold Go.Eng.begC
 split
 ·rename_i hs
  have:=ht.upd ho hh (i0:=c.1.toNat) (by omega)
  rw [Int.toNat_of_nonneg hc.1] at this
  refine this.same fun a i _ _=>?_
  simp only [hrB,hs,Bool.and_true,decide_eq_true_eq]
  refine or_congr Iff.rfl (and_congr Iff.rfl ⟨fun e=>by omega,fun e=>by omega⟩)
 ·rename_i hs
  refine ht.same fun a i _ _=>?_
  have h2:has (n.s.getD c.2.toNat []) h=false:=by
   cases hx:has (n.s.getD c.2.toNat []) h
   ·rfl
   ·exact absurd hx hs
  simp only [hrB,h2,Bool.and_false,Bool.false_eq_true,and_false,or_false]
theorem Tr.begH {n:Nw} (ho:NwOk n) {h:Nat} (hh:h<n.h.toNat):∀ (cs:List (Int×Int)) {w:List Int} {S:Nat→Nat→Prop},Tr n w S→(∀ c∈cs,0≤c.1∧c.1<n.n.length)→Tr n (begH n h w cs) (fun a i=>S a i∨a=h∧zSs n cs h i=true)
 | [],w,S,ht,_=>ht.same fun a i _ _=>by simp [zSs]
 | c::cs,w,S,ht,hc=>by
  have h1:=Tr.begH ho hh cs (ht.begC ho hh (hc c List.mem_cons_self)) fun d hd=>hc d (List.mem_cons_of_mem _ hd)
  refine Tr.same (w:=Go.Eng.begH n h w (c::cs)) h1 fun a i _ _=>?_
  simp only [zSs,List.any_cons,Bool.or_eq_true,or_assoc,and_or_left]
theorem Tr.begN {n:Nw} {cs:List (Int×Int)} (ho:CrW n cs):∀ k,k≤n.h.toNat→Tr n (begN n cs k) (fun a i=>a<k∧zSs n cs a i=true)
 | 0,_=>(Tr.none n ho.nw).same fun a i _ _=>by simp
 | k + 1,hk=>by
  rw [zI0]
  refine (Tr.begH ho.nw (by omega) cs (Tr.begN ho k (by omega)) fun c hc=>(ho.cs c hc).1).same fun a i _ _=>?_
  constructor
  ·rintro (⟨h1,h2⟩ | ⟨rfl,h2⟩)
   ·exact ⟨by omega,h2⟩
   ·exact ⟨by omega,h2⟩
  ·rintro ⟨h1,h2⟩
   by_cases e:a=k
   ·subst e;exact .inr ⟨rfl,h2⟩
   ·exact .inl ⟨by omega,h2⟩
end Go.Eng
namespace Go.Eng
open Go Go.Proofs
theorem Tr.skip {n:Nw} {w:List Int} {S:Nat→Nat→Prop} (ho:NwOk n) (ht:Tr n w S) {h0 c0:Nat} (hh:h0<n.h.toNat) (hc:c0<8):Tr n (zPQ w (h0*8+c0) (-1)) S:=by
 have hH:=ho.h.2
 have yI:h0*8+c0<w.length:=by rw [ht.wl];omega
 have hge : -1≤w.getD (h0*8+c0) 0:=by
  rcases ht.at_ h0 c0 hh hc with h | ⟨i,_,_,h,_⟩<;>omega
 have he:∀ j,(zPQ w (h0*8+c0) (-1)).getD j 0=w.getD j 0:=fun j=>by
  rw [zLq yI]
  split
  ·rename_i e;subst e;exact Int.max_eq_left hge
  ·rfl
 exact ⟨by rw [zIn];exact ht.wl,fun h c h1 h2=>by rw [he];exact ht.at_ h c h1 h2,fun h i h1 h2 h3=>by rw [he];exact ht.top h i h1 h2 h3⟩
theorem Tr.nxtR {n:Nw} {now:List Int} {S0:Nat→Nat→Prop} (ho:NwOk n) (h0:Tr n now S0) {h o:Nat} (hh:h<n.h.toNat) (hoo:o<n.h.toNat) {w:List Int} {S:Nat→Nat→Prop} (ht:Tr n w S):∀ k,k≤8→Tr n (nxtR now h o w k) (fun a i=>S a i∨a=h∧(zAj n).getD i 0<(k:Int)∧hld n now o i=true)
 | 0,_=>Tr.same (w:=Go.Eng.nxtR now h o w 0) ht fun a i _ hi=>by
  have:=zCh ho i hi
  exact ⟨.inl,fun h=>h.elim id fun h=>by have:=h.2.1;omega⟩
 | k + 1,hk=>by
  have ih:=Tr.nxtR ho h0 hh hoo ht k (by omega)
  have e:Go.Eng.nxtR now h o w (k+1)=zPQ (Go.Eng.nxtR now h o w k) (h*8+k) (now.getD (o*8+k) 0):=by
   simp only [Go.Eng.nxtR,List.range_succ,List.foldl_append,List.foldl_cons,List.foldl_nil]
  rw [e]
  rcases h0.at_ o k hoo (by omega) with hm | ⟨j,g1,g2,g3,_⟩
  ·rw [hm]
   refine (ih.skip ho hh (by omega)).same fun a i _ hi=>or_congr Iff.rfl (and_congr Iff.rfl ⟨fun ⟨x,y⟩=>⟨by omega,y⟩,fun ⟨x,y⟩=>⟨?_,y⟩⟩)
   have hf:=zCh ho i hi
   by_cases ek:(zAj n).getD i 0=(k:Int)
   ·simp only [hld,decide_eq_true_eq,ek,Int.toNat_natCast,hm] at y
    omega
   ·omega
  ·have:=ih.upd ho hh g1
   rw [g2,Int.toNat_natCast] at this
   rw [g3]
   refine this.same fun a i _ hi=>?_
   have hf:=zCh ho i hi
   constructor
   ·rintro ((x | ⟨x,y,z⟩) | ⟨rfl,rfl⟩)
    ·exact .inl x
    ·exact .inr ⟨x,by omega,z⟩
    ·refine .inr ⟨rfl,by omega,?_⟩
     simp only [hld,decide_eq_true_eq,g2,Int.toNat_natCast,g3]
   ·rintro (x | ⟨rfl,y,z⟩)
    ·exact .inl (.inl x)
    ·by_cases ek:(zAj n).getD i 0=(k:Int)
     ·simp only [hld,decide_eq_true_eq,ek,Int.toNat_natCast,g3] at z
      exact .inr ⟨rfl,by omega⟩
     ·exact .inl (.inr ⟨rfl,by omega,z⟩)
theorem Tr.nxtH {n:Nw} {now:List Int} {S0:Nat→Nat→Prop} (ho:NwOk n) (h0:Tr n now S0) {h:Nat} (hh:h<n.h.toNat):∀ (l:List Nat),(∀ o∈l,o<n.h.toNat)→∀ {w:List Int} {S:Nat→Nat→Prop},Tr n w S→Tr n (nxtH now h w l) (fun a i=>S a i∨a=h∧(l.any fun o=>hld n now o i)=true)
 | [],_,w,S,ht=>Tr.same (w:=Go.Eng.nxtH now h w []) ht fun a i _ _=>by simp
 | o::l,hl,w,S,ht=>by
  have h1:=Tr.nxtH ho h0 hh l (fun x hx=>hl x (List.mem_cons_of_mem _ hx)) (Tr.nxtR ho h0 hh (hl o List.mem_cons_self) ht 8 (Nat.le_refl _))
  refine Tr.same (w:=Go.Eng.nxtH now h w (o::l)) h1 fun a i _ hi=>?_
  have hf:=zCh ho i hi
  have ut:=ho.nl.2
  simp only [List.any_cons,Bool.or_eq_true,and_or_left,or_assoc]
  refine or_congr Iff.rfl (or_congr (and_congr Iff.rfl ⟨fun x=>x.2,fun x=>⟨by omega,x⟩⟩) Iff.rfl)
theorem Tr.nxtN {n:Nw} {now:List Int} {S0:Nat→Nat→Prop} (ho:NwOk n) (h0:Tr n now S0):∀ k,k≤n.h.toNat→Tr n (nxtN n now k) (fun a i=>S0 a i∨a<k∧((zJL n a n.h.toNat).any fun o=>hld n now o i)=true)
 | 0,_=>Tr.same (w:=Go.Eng.nxtN n now 0) h0 fun a i _ _=>by simp
 | k + 1,hk=>by
  have ih:=Tr.nxtN ho h0 k (by omega)
  have e:Go.Eng.nxtN n now (k+1)=Go.Eng.nxtH now k (Go.Eng.nxtN n now k) (zJL n k n.h.toNat):=by
   simp only [Go.Eng.nxtN,List.range_succ,List.foldl_append,List.foldl_cons,List.foldl_nil]
  rw [e]
  refine (Tr.nxtH ho h0 (by omega) _ (fun o hm=>List.mem_range.1 (List.mem_filter.1 hm).1) ih).same fun a i _ _=>?_
  constructor
  ·rintro ((x | ⟨x,y⟩) | ⟨rfl,y⟩)
   ·exact .inl x
   ·exact .inr ⟨by omega,y⟩
   ·exact .inr ⟨by omega,y⟩
  ·rintro (x | ⟨x,y⟩)
   ·exact .inl (.inl x)
   ·by_cases ea:a=k
    ·subst ea;exact .inr ⟨rfl,y⟩
    ·exact .inl (.inr ⟨by omega,y⟩)
end Go.Eng
set_option maxRecDepth 10000
set_option maxHeartbeats 4000000
namespace Go.Eng
open Go Go.Proofs
instance (n:Nw) (i j:Nat):Decidable (chn n i j):=inferInstanceAs (Decidable ((zAj n).getD i 0=(zAj n).getD j 0))
end Go.Eng
set_option maxRecDepth 10000
set_option maxHeartbeats 4000000
namespace Go.Eng
open Go Go.Proofs
end Go.Eng
set_option maxRecDepth 10000
set_option maxHeartbeats 4000000
namespace Go.Eng
open Go Go.Proofs
end Go.Eng
set_option maxRecDepth 10000
set_option maxHeartbeats 4000000
namespace Go.Eng
open Go Go.Proofs
end Go.Eng
namespace Go.Eng
open Go Go.Proofs
theorem zSB {n:Nw} (ho:NwOk n) {i:Nat} (hi:i<n.n.length):(0≤zGN n i)↔(zAU n).getD i 0≠i:=by
 obtain ⟨l,h1,h2,h3,h4,h5⟩:=zP9 ho hi
 rw [h1]
 rcases zOb ho hi with ⟨g1,g2⟩ | ⟨m,g1,g2,g3,g4,_⟩
 ·rw [g1]
  have:=g2 l h2 h3
  constructor<;>intro h<;>omega
 ·rw [g1]
  have:=h5 m g3 g4
  constructor<;>intro h<;>omega
end Go.Eng
namespace Go.Eng
open Go Go.Proofs
end Go.Eng
namespace Go.Eng
open Go Go.Proofs
theorem zNj {p q:Nat→Bool} {k:Nat} (h:∀ i,i<k→p i=q i):zCH p k=zCH q k:=by
 unfold zCH
 rw [List.filter_congr fun i hi=>h i (List.mem_range.1 hi)]
def zSP (n:Nw) (i:Nat):Bool:=decide (zGN n i<0) && !(n.n.getD i default).2
theorem zV8 {n:Nw} (ho:NwOk n):zCH (zSP n) n.n.length=zCH (zPP n) n.n.length:=by
 refine zNj fun i hi=>?_
 unfold zSP zPP
 congr 1
 have:=zSB ho hi
 refine decide_eq_decide.2 ⟨fun h=>?_,fun h=>?_⟩
 ·apply Classical.byContradiction;intro h2;have:=this.2 h2;omega
 ·have:¬ 0≤zGN n i:=fun h2=>(this.1 h2) h
  omega
theorem zFT {p:Nat→Bool} {a:Nat}:∀ b,a≤b→(∀ i,a≤i→i<b→p i=false)→zCH p b=zCH p a
 | 0,h,_=>by rw [show a=0 by omega]
 | b + 1,h,hp=>by
  by_cases e:a=b+1
  ·rw [e]
  ·rw [zD1,hp b (by omega) (by omega),if_neg (by simp)]
   exact zFT b (by omega) fun i h1 h2=>hp i h1 (by omega)
theorem zQA {n:Nw} (ho:NwOk n) {i m:Nat} (hi:i<n.n.length) (hm:(zAj n).getD i 0=m):zCH (zJW n i) (m+1)=[(m:Int)]:=by
 have hb:=zCh ho i hi
 have hmm:zJW n i m=true:=by
  simp only [zJW,decide_eq_true_eq,Int.toNat_natCast]
  have:=zM6 ho i hi
  rw [hm] at this ⊢
  simpa using this
 rw [zD1,if_pos hmm,zFT (p:=zJW n i) (a:=0) m (by omega) fun k _ hk=>?_]
 ·rfl
 ·simp only [zJW,decide_eq_false_iff_not,Int.toNat_natCast,hm]
  have:=zCh ho k (by omega)
  omega
theorem zVC {n:Nw} (ho:NwOk n) {i m:Nat} (hi:i<n.n.length) (hm:m<n.n.length) (hc:chn n m i):(zGN n m = -1∧zCH (zJW n i) n.n.length=zCH (zJW n i) (m+1))∨∃ k:Nat,zGN n m=k∧m<k∧k<n.n.length∧chn n k i∧zCH (zJW n i) (k+1)=zCH (zJW n i) (m+1)++[(k:Int)]:=by
 have kY:∀ k,zJW n i k=true→chn n k m:=fun k h=>by
  simp only [zJW,decide_eq_true_eq,Int.toNat_natCast] at h
  unfold chn at *;omega
 rcases zOb ho hm with ⟨g1,g2⟩ | ⟨k,g1,g2,g3,g4,g5⟩
 ·refine .inl ⟨g1,zFT _ (by omega) fun k h1 h2=>?_⟩
  cases hx:zJW n i k
  ·rfl
  ·exact absurd (by omega:m<k) (g2 k h2 (kY k hx))
 ·have uZ:chn n k i:=by unfold chn at *;omega
  refine .inr ⟨k,g1,g2,g3,uZ,?_⟩
  rw [zD1,if_pos (by simp only [zJW,decide_eq_true_eq,Int.toNat_natCast];exact uZ),zFT (a:=m+1) k (by omega) fun j h1 h2=>?_]
  cases hx:zJW n i j
  ·rfl
  ·have:=g5 j (by omega) (kY j hx) (by omega)
   omega
end Go.Eng
namespace Go.Eng
open Go Go.Proofs
def zDF (n:Nw):Int:=if zBr n.h n.l=0 then if zCB n.n=0 then if (!n.s.all fun x=>zIb n.h x)=true then 1 else if (!n.s.all fun x=>zDd x)=true then 4 else 0 else zCB n.n else zBr n.h n.l
theorem zUa {n:Nw} (h1:(!inB n.h 1 10)=false) (h2:¬ (n.l.length:Int)>15) (h3:(!inB n.n.length 1 8)=false) (h4:(!inB n.s.length 1 6)=false):zBu n=zDF n:=by
 simp only [zBu,h1,h2,h3,h4,if_false];rfl
theorem zMm {α:Type} {p:α→Bool} {l:List α} {i:Nat} {d:α} (h:i<l.length) (hx:p (l.getD i d)=false):(l.all p)=false:=by
 rw [zAB h] at hx
 simp only [List.all_eq_false]
 exact ⟨_,List.getElem_mem h,by simp [hx]⟩
theorem zMn {α:Type} {p:α→Bool} {l:List α} {d:α} (h:∀ i,i<l.length→p (l.getD i d)=true):(l.all p)=true:=by
 simp only [List.all_eq_true]
 intro x hx
 obtain ⟨i,hi,rfl⟩:=List.getElem_of_mem hx
 have:=h i hi
 rwa [zAB hi] at this
theorem zOf {n:Nw} {i:Nat} (hi:i<n.l.length) (h:zGF n.h (n.l.getD i default)=false):zDF n=1:=by
 have:zBr n.h n.l=1:=by simp only [zBr,zMm hi h];rfl
 simp only [zDF,this];rfl
theorem zT2 {n:Nw} {i:Nat} (ha:(n.l.all fun x=>zGF n.h x)=true) (hi:i<n.l.length) (h:zHy (n.l.getD i default)=false):zDF n=8:=by
 have:zBr n.h n.l=8:=by simp only [zBr,ha,zMm hi h];rfl
 simp only [zDF,this];rfl
theorem zU6 {n:Nw} {i k:Nat} (ha:(n.l.all fun x=>zGF n.h x)=true) (hb:(n.l.all fun x=>zHy x)=true) (jy:k<i) (hi:i<n.l.length) (h:pr2 (n.l.getD i default)=pr2 (n.l.getD k default)):zDF n=5:=by
 have hn:¬ (n.l.map pr2).Nodup:=fun yW=>by
  have:=(List.pairwise_iff_getElem.1 yW) k i (by simp;omega) (by simp;omega) jy
  rw [List.getElem_map,List.getElem_map] at this
  rw [zAB hi,zAB (by omega)] at h
  exact this h.symm
 have:zBr n.h n.l=5:=by simp only [zBr,ha,hb,hn,if_true,if_false]
 simp only [zDF,this];rfl
theorem zUb {n:Nw} (ha:(n.l.all fun x=>zGF n.h x)=true) (hb:(n.l.all fun x=>zHy x)=true) (h:∀ i,i<n.l.length→∀ k,k<i→pr2 (n.l.getD i default)≠pr2 (n.l.getD k default)):zBr n.h n.l=0:=by
 have hn:(n.l.map pr2).Nodup:=by
  refine List.pairwise_iff_getElem.2 fun k i h1 h2 jy=>?_
  simp only [List.length_map] at h1 h2
  have:=h i h2 k jy
  rw [zAB h2,zAB h1] at this
  simp only [List.getElem_map]
  exact fun e=>this e.symm
 simp only [zBr,ha,hb,hn,if_true]
theorem zUd {n:Nw} (hl:zBr n.h n.l=0) {i:Nat} (hi:i<n.n.length) (h:inB (n.n.getD i default).1 (-1) ((i:Int)-1)=false):zDF n=1:=by
 have:zNx n.n=false:=by
  simp only [zNx,List.all_eq_false]
  exact ⟨i,List.mem_range.2 hi,by rw [h];simp⟩
 have:zCB n.n=1:=by simp only [zCB,this];rfl
 simp only [zDF,hl,this];rfl
theorem zXy {n:Nw} (h:∀ i,i<n.n.length→inB (n.n.getD i default).1 (-1) ((i:Int)-1)=true):zNx n.n=true:=by
 simp only [zNx,List.all_eq_true,List.mem_range];exact h
theorem zTx {l:List (Int×Bool)} {i:Nat} (hi:i<l.length) (hr:inB (l.getD i default).1 (-1) ((i:Int)-1)=true):zLs l i=true↔∃ k,k<i∧0≤(l.getD i default).1∧(l.getD i default).1=(l.getD k default).1:=by
 have hr:=zEm hr
 simp only [zLs,Bool.and_eq_true,decide_eq_true_eq,List.any_eq_true]
 constructor
 ·rintro ⟨h1,x,h2,h3⟩
  obtain ⟨k,hk,rfl⟩:=List.getElem_of_mem h2
  rw [List.length_take] at hk
  refine ⟨k,by omega,by omega,?_⟩
  rw [zAB (l:=l) (i:=k) (by omega)]
  rw [List.getElem_take] at h3
  exact h3.symm
 ·rintro ⟨k,h1,h2,h3⟩
  refine ⟨by omega, (l.take i)[k]'(by rw [List.length_take]; omega), List.getElem_mem _, ?_⟩
  rw [List.getElem_take,h3,zAB (l:=l) (i:=k) (by omega)]
theorem zVd {n:Nw} (hl:zBr n.h n.l=0) (hn:zNx n.n=true) {i k:Nat} (jy:k<i) (hi:i<n.n.length) (h1:(n.n.getD i default).1≥0) (h2:(n.n.getD i default).1=(n.n.getD k default).1):zDF n=5:=by
 have hr:inB (n.n.getD i default).1 (-1) ((i:Int)-1)=true:=by
  simp only [zNx,List.all_eq_true,List.mem_range] at hn;exact hn i hi
 have:(List.range n.n.length).any (zLs n.n)=true:=List.any_eq_true.2 ⟨i,List.mem_range.2 hi,(zTx hi hr).2 ⟨k,jy,h1,h2⟩⟩
 have:zCB n.n=5:=by simp only [zCB,hn,this,if_true]
 simp only [zDF,hl,this];rfl
theorem zWw {n:Nw} (hn:zNx n.n=true) (h:∀ i,i<n.n.length→∀ k,k<i→¬ ((n.n.getD i default).1≥0∧(n.n.getD i default).1=(n.n.getD k default).1)):zCB n.n=0:=by
 have:(List.range n.n.length).any (zLs n.n)=false:=by
  simp only [List.any_eq_false,List.mem_range]
  intro i hi ht
  have hr:inB (n.n.getD i default).1 (-1) ((i:Int)-1)=true:=by
   simp only [zNx,List.all_eq_true,List.mem_range] at hn;exact hn i hi
  obtain ⟨k,h1,h2,h3⟩:=(zTx hi hr).1 ht
  exact h i hi k h1 ⟨h2,h3⟩
 simp only [zCB,hn,this,if_true];rfl
theorem zUN {n:Nw} (hl:zBr n.h n.l=0) (hn:zCB n.n=0) {s i:Nat} (hs:s<n.s.length) (hi:i<(n.s.getD s []).length) (h:inB ((n.s.getD s []).getD i 0) 0 (n.h-1)=false):zDF n=1:=by
 have:(n.s.all fun x=>zIb n.h x)=false:=zMm (d:=[]) hs (zMm (d:=0) hi h)
 simp only [zDF,hl,hn,this];rfl
theorem zU8 {n:Nw} (hl:zBr n.h n.l=0) (hn:zCB n.n=0) (hs:(n.s.all fun x=>zIb n.h x)=true) {s i:Nat} (jj:s<n.s.length) (hi:i+1<(n.s.getD s []).length) (h:(n.s.getD s []).getD i 0≥(n.s.getD s []).getD (i+1) 0):zDF n=4:=by
 have h1:zDd (n.s.getD s [])=false:=by
  rw [zHn]
  simp only [zSF,List.all_eq_false,List.mem_range,decide_eq_true_eq]
  exact ⟨i,by omega,by omega⟩
 have:(n.s.all fun x=>zDd x)=false:=zMm (d:=[]) jj h1
 simp only [zDF,hl,hn,hs,this];rfl
theorem zV1 {l:List Int} (h:∀ i,i+1<l.length→l.getD i 0<l.getD (i+1) 0):zDd l=true:=by
 rw [zHn]
 simp only [zSF,List.all_eq_true,List.mem_range,decide_eq_true_eq]
 exact fun i hi=>h i (by omega)
theorem zVH {n:Nw} (hl:zBr n.h n.l=0) (hn:zCB n.n=0) (hs:(n.s.all fun x=>zIb n.h x)=true) (ho:(n.s.all fun x=>zDd x)=true):zDF n=0:=by
 simp only [zDF,hl,hn,hs,ho];rfl
end Go.Eng
set_option maxRecDepth 10000
set_option maxHeartbeats 4000000
namespace Go.Eng
open Go Go.Proofs
theorem ntt {a:Bool} (h:(!a)=true):a=false:=by simpa using h
theorem ntf {a:Bool} (h:(!a)=false):a=true:=by simpa using h
theorem zWG {a b:Int×Int} (h:a.1=b.1∧a.2=b.2∨a.1=b.2∧a.2=b.1):pr2 a=pr2 b:=by
 obtain ⟨x,y⟩:=b
 exact zTy.2 h
theorem zT4 {a b:Int×Int} (h:¬ (a.1=b.1∧a.2=b.2∨a.1=b.2∧a.2=b.1)):pr2 a≠pr2 b:=by
 obtain ⟨x,y⟩:=b
 exact fun e=>h (zTy.1 e)
theorem zJl {p:Nat→Prop} {i:Nat} (ha:∀ j,j<i→p j) (hi:p i):∀ j,j<i+1→p j:=fun j hj=>by
 rcases Nat.lt_succ_iff_lt_or_eq.1 hj with h | rfl
 ·exact ha j h
 ·exact hi
theorem f30 (n:Nw) (hs:Small n):FG 30 [nwV n] (I (zBu n)):=by
 refine zAf Try.f30 ?_
 have h1:=hs.hl
 have h2:=hs.hn
 have h3:=hs.hs
 refine zAc 2<|zAa<|zAh<|zAc 2<|S_a [(10,.ret (PV.bool !inB n.h 1 10) [])] (ap (f72 n.h (1) (10)) an)<|zAd 1<|zFh 19 (!inB n.h 1 10) (fun k0=>(zAd 17<|zAa<|zBX<|zAc 1<|zAa<|zAm<|E_a [] an (I 2) [] ?_ rfl)) (fun k0=>(zAd 2<|S_a [(0,.n n.l.length)] (ap (lnS prV n.l) an)<|zAd 3<|zEY 25 ((↑n.l.length:Int)>15) (fun k1=>(zAd 11<|zAa<|zBX<|zAc 1<|zAa<|zAm<|E_a [] an (I 2) [] ?_ rfl)) (fun k1=>(zAd 2<|S_a [(0,.n n.n.length)] (ap (lnS ntV n.n) an)<|S_a [(10,.ret (PV.bool !inB (↑n.n.length:Int) 1 8) [])] (ap (f72 ((↑n.n.length:Int)) (1) (8)) an)<|zAd 2<|zFh 31 (!inB (↑n.n.length:Int) 1 8) (fun k2=>(zAd 5<|zAa<|zBX<|zAc 1<|zAa<|zAm<|E_a [] an (I 2) [] ?_ rfl)) (fun k2=>(zAd 2<|S_a [(0,.n n.s.length)] (ap (lnS zAF n.s) an)<|S_a [(10,.ret (PV.bool !inB (↑n.s.length:Int) 1 6) [])] (ap (f72 ((↑n.s.length:Int)) (1) (6)) an)<|zAd 1<|zAa<|zEu (!inB (↑n.s.length:Int) 1 6) (fun k3=>(zAc 1<|zAa<|zAm<|E_a [] an (I 2) [] ?_ rfl)) (fun k3=>(zAl<|zAh<|zAc 1<|zAa<|zAi 0 ?_))))))))
 ·simp only [zBu,k0,if_true]
 ·simp only [zBu,k0,k1,if_true];rfl
 ·simp only [zBu,k0,k1,k2,if_true,if_false];rfl
 ·simp only [zBu,k0,k1,k2,k3,if_true,if_false];rfl
 rw [zUa k0 k1 k2 k3]
 have hh:=zEm (ntf k0)
 have ut:=zEm (ntf k2)
 clear k0 k1 k2 k3
 refine zAu (fun i=>i≤n.l.length∧∀ j,j<i→zGF n.h (n.l.getD j default)=true) (fun (i:Nat)=>[(3,I (i:Nat))]) (fun i=>n.l.length-i) (0:Nat) ⟨Nat.zero_le _,fun j hj=>absurd hj (Nat.not_lt_zero j)⟩ fun i ⟨hi,ha⟩=>?_
 by_cases yJ:i<n.l.length
 ·have j8:=zJl ha
  clear ha
  refine zAh<|zAc 3<|S_a [(0,.n n.l.length)] (ap (lnS prV n.l) an)<|zAd 1<|zAa<|zA0 ((↑i:Int)<(↑n.l.length:Int)) (by omega)<|zAl<|zAh<|zAi 1<|zAc 3<|S_a [(2,.v (PV.agg [I (n.l.getD i default).fst,I (n.l.getD i default).snd]))] (ap (zB0 default (by omega):(List.map prV n.l)[i]? = some (PV.agg [I (n.l.getD i default).fst,I (n.l.getD i default).snd])) an)<|zAd 4<|S_a [(1,.v (I (n.h-1)))] (ap ((zDl rfl (by omega)):I (IntKind.i64.wrap (n.h-1))=I (n.h-1)) an)<|S_a [(10,.ret (PV.bool !inB (n.l.getD i default).fst 0 (n.h-1)) [])] (ap (f72 ((n.l.getD i default).fst) (0) (n.h-1)) an)<|zAd 1<|zFh 54 (!inB (n.l.getD i default).fst 0 (n.h-1)) (fun k0=>(zAd 11<|zAa<|zBX<|zAc 1<|zAa<|zAm<|E_a [] an (I 1) [] ?_ rfl)) (fun k0=>(zAd 3<|S_a [(2,.v (PV.agg [I (n.l.getD i default).fst,I (n.l.getD i default).snd]))] (ap (zB0 default (by omega):(List.map prV n.l)[i]? = some (PV.agg [I (n.l.getD i default).fst,I (n.l.getD i default).snd])) an)<|zAd 4<|S_a [(1,.v (I (n.h-1)))] (ap ((zDl rfl (by omega)):I (IntKind.i64.wrap (n.h-1))=I (n.h-1)) an)<|S_a [(10,.ret (PV.bool !inB (n.l.getD i default).snd 0 (n.h-1)) [])] (ap (f72 ((n.l.getD i default).snd) (0) (n.h-1)) an)<|zAd 1<|zAa<|zEu (!inB (n.l.getD i default).snd 0 (n.h-1)) (fun k1=>(zAc 1<|zAa<|zAm<|E_a [] an (I 1) [] ?_ rfl)) (fun k1=>(zAl<|zAg<|zAd 1<|S_a [(1,.v (I (↑(i+1):Int)))] (ap (wrN i) an)<|zAd 1<|zAa ?_))))
  ·rw [zOf yJ (by simp only [zGF,ntt k0,Bool.false_and])]
  ·rw [zOf yJ (by simp only [zGF,ntt k1,Bool.and_false])]
  ·exact ⟨i+1,⟨by omega,j8 (by simp only [zGF,ntf k0,ntf k1,Bool.true_and])⟩,by omega,by kernel_rfl,by kernel_rfl⟩
 have hA:(n.l.all fun x=>zGF n.h x)=true:=zMn fun i hi=>ha i (by omega)
 clear ha
 refine zAh<|zAc 3<|S_a [(0,.n n.l.length)] (ap (lnS prV n.l) an)<|zAd 1<|zAa<|zA1 ((↑i:Int)<(↑n.l.length:Int)) (by omega)<|zAE 0<|zAh<|zAc 1<|zAa<|zAi 2 ?_
 refine zAu (fun i=>i≤n.l.length∧∀ j,j<i→zHy (n.l.getD j default)=true) (fun (i:Nat)=>[(4,I (i:Nat))]) (fun i=>n.l.length-i) (0:Nat) ⟨Nat.zero_le _,fun j hj=>absurd hj (Nat.not_lt_zero j)⟩ fun i ⟨hi,ha⟩=>?_
 by_cases yJ:i<n.l.length
 ·have j8:=zJl ha
  clear ha
  refine zAh<|zAc 3<|S_a [(0,.n n.l.length)] (ap (lnS prV n.l) an)<|zAd 1<|zAa<|zA0 ((↑i:Int)<(↑n.l.length:Int)) (by omega)<|zAl<|zAh<|zAi 3<|zAc 3<|S_a [(2,.v (PV.agg [I (n.l.getD i default).fst,I (n.l.getD i default).snd]))] (ap (zB0 default (by omega):(List.map prV n.l)[i]? = some (PV.agg [I (n.l.getD i default).fst,I (n.l.getD i default).snd])) an)<|zAd 5<|S_a [(2,.v (PV.agg [I (n.l.getD i default).fst,I (n.l.getD i default).snd]))] (ap (zB0 default (by omega):(List.map prV n.l)[i]? = some (PV.agg [I (n.l.getD i default).fst,I (n.l.getD i default).snd])) an)<|zAd 3<|zAa<|zCn ((n.l.getD i default).fst=(n.l.getD i default).snd) (fun k0=>(zAc 1<|zAa<|zAm<|E_a [] an (I 8) [] ?_ rfl)) (fun k0=>(zAl<|zAg<|zAd 1<|S_a [(1,.v (I (↑(i+1):Int)))] (ap (wrN i) an)<|zAd 1<|zAa ?_))
  ·rw [zT2 hA yJ (by simp only [zHy,decide_eq_false_iff_not];exact fun h=>h k0)]
  ·exact ⟨i+1,⟨by omega,j8 (by simp only [zHy,decide_eq_true_eq];exact k0)⟩,by omega,by kernel_rfl,by kernel_rfl⟩
 have hB:(n.l.all fun x=>zHy x)=true:=zMn fun i hi=>ha i (by omega)
 clear ha
 refine zAh<|zAc 3<|S_a [(0,.n n.l.length)] (ap (lnS prV n.l) an)<|zAd 1<|zAa<|zA1 ((↑i:Int)<(↑n.l.length:Int)) (by omega)<|zAE 2<|zAh<|zAc 1<|zAa<|zAi 4 ?_
 refine zAu (fun i=>i≤n.l.length∧∀ j,j<i→∀ k,k<j→pr2 (n.l.getD j default)≠pr2 (n.l.getD k default)) (fun (i:Nat)=>[(5,I (i:Nat))]) (fun i=>n.l.length-i) (0:Nat) ⟨Nat.zero_le _,fun j hj=>absurd hj (Nat.not_lt_zero j)⟩ fun i ⟨hi,ha⟩=>?_
 by_cases yJ:i<n.l.length
 ·have j8:=zJl ha
  clear ha
  refine zAh<|zAc 3<|S_a [(0,.n n.l.length)] (ap (lnS prV n.l) an)<|zAd 1<|zAa<|zA0 ((↑i:Int)<(↑n.l.length:Int)) (by omega)<|zAl<|zAh<|zAi 5<|zAc 1<|zAa<|zAi 6 ?_
  refine zAu (fun k=>k≤i∧∀ j,j<k→pr2 (n.l.getD i default)≠pr2 (n.l.getD j default)) (fun (k:Nat)=>[(6,I (k:Nat))]) (fun k=>i-k) (0:Nat) ⟨Nat.zero_le _,fun j hj=>absurd hj (Nat.not_lt_zero j)⟩ fun k ⟨hk,hb⟩=>?_
  by_cases jy:k<i
  ·have u7:=zJl hb
   clear hb j8
   refine zAh<|zAc 3<|zAa<|zA0 ((↑k:Int)<(↑i:Int)) (by omega)<|zAl<|zAh<|zAi 7<|zAc 3<|S_a [(2,.v (PV.agg [I (n.l.getD i default).fst,I (n.l.getD i default).snd]))] (ap (zB0 default (by omega):(List.map prV n.l)[i]? = some (PV.agg [I (n.l.getD i default).fst,I (n.l.getD i default).snd])) an)<|zAd 4<|S_a [(2,.v (PV.agg [I (n.l.getD k default).fst,I (n.l.getD k default).snd]))] (ap (zB0 default (by omega):(List.map prV n.l)[k]? = some (PV.agg [I (n.l.getD k default).fst,I (n.l.getD k default).snd])) an)<|zAd 5<|zAa<|zAc 1<|zAd 1<|zAd 1<|zAd 3<|zEY 113 ((n.l.getD i default).fst=(n.l.getD k default).fst) (fun k1=>(zAd 1<|zAd 1<|zAd 1<|zAd 4<|zEY 120 ((n.l.getD i default).snd=(n.l.getD k default).snd) (fun k2=>(zAd 13<|zAa<|zBX<|zAc 1<|zAa<|zAm<|E_a [] an (I 5) [] ?_ rfl)) (fun k2=>(zAd 1<|zAd 1<|zAd 1<|zAd 3<|zEY 126 ((n.l.getD i default).fst=(n.l.getD k default).snd) (fun k3=>(zAd 1<|zAd 1<|zAd 1<|zAd 4<|zAa<|zA1 ((n.l.getD i default).snd=(n.l.getD k default).fst) (by omega)<|zAl<|zAg<|zAd 1<|S_a [(1,.v (I (↑(k+1):Int)))] (ap (wrN k) an)<|zAd 1<|zAa ?_)) (fun k3=>(zAd 7<|zAa<|zA4<|zAl<|zAg<|zAd 1<|S_a [(1,.v (I (↑(k+1):Int)))] (ap (wrN k) an)<|zAd 1<|zAa ?_)))))) (fun k1=>(zAd 7<|zAd 1<|zAd 1<|zAd 1<|zAd 3<|zEY 126 ((n.l.getD i default).fst=(n.l.getD k default).snd) (fun k4=>(zAd 1<|zAd 1<|zAd 1<|zAd 4<|zAa<|zCn ((n.l.getD i default).snd=(n.l.getD k default).fst) (fun k5=>(zAc 1<|zAa<|zAm<|E_a [] an (I 5) [] ?_ rfl)) (fun k5=>(zAl<|zAg<|zAd 1<|S_a [(1,.v (I (↑(k+1):Int)))] (ap (wrN k) an)<|zAd 1<|zAa ?_)))) (fun k4=>(zAd 7<|zAa<|zA4<|zAl<|zAg<|zAd 1<|S_a [(1,.v (I (↑(k+1):Int)))] (ap (wrN k) an)<|zAd 1<|zAa ?_))))
   all_goals first
    | exact ⟨k+1,⟨by omega,u7 (zT4 (by omega))⟩,by omega,by kernel_rfl,by kernel_rfl⟩
    | (have h5:=zU6 hA hB jy yJ (zWG (by omega));rw [h5])
  ·have jV:=j8 fun j hj=>hb j (by omega)
   clear hb j8
   refine zAh<|zAc 3<|zAa<|zA1 ((↑k:Int)<(↑i:Int)) (by omega)<|zAE 6<|zAg<|zAd 1<|S_a [(1,.v (I (↑(i+1):Int)))] (ap (wrN i) an)<|zAd 1<|zAa ?_
   exact ⟨i+1,⟨by omega,jV⟩,by omega,by kernel_rfl,by kernel_rfl⟩
 have hC:=zUb hA hB fun i hi=>ha i (by omega)
 clear ha hA hB
 refine zAh<|zAc 3<|S_a [(0,.n n.l.length)] (ap (lnS prV n.l) an)<|zAd 1<|zAa<|zA1 ((↑i:Int)<(↑n.l.length:Int)) (by omega)<|zAE 4<|zAh<|zAc 1<|zAa<|zAi 8 ?_
 refine zAu (fun i=>i≤n.n.length∧∀ j,j<i→inB (n.n.getD j default).1 (-1) ((j:Int)-1)=true) (fun (i:Nat)=>[(9,I (i:Nat))]) (fun i=>n.n.length-i) (0:Nat) ⟨Nat.zero_le _,fun j hj=>absurd hj (Nat.not_lt_zero j)⟩ fun i ⟨hi,ha⟩=>?_
 by_cases yJ:i<n.n.length
 ·have j8:=zJl ha
  clear ha
  refine zAh<|zAc 3<|S_a [(0,.n n.n.length)] (ap (lnS ntV n.n) an)<|zAd 1<|zAa<|zA0 ((↑i:Int)<(↑n.n.length:Int)) (by omega)<|zAl<|zAh<|zAi 9<|zAc 3<|S_a [(2,.v (PV.agg [I (n.n.getD i default).fst,PV.bool (n.n.getD i default).snd]))] (ap (zB0 default (by omega):(List.map ntV n.n)[i]? = some (PV.agg [I (n.n.getD i default).fst,PV.bool (n.n.getD i default).snd])) an)<|zAd 3<|S_a [(1,.v (I ((↑i:Int)-1)))] (ap ((zDl rfl (by omega)):I (IntKind.i64.wrap ((↑i:Int)-1))=I ((↑i:Int)-1)) an)<|S_a [(10,.ret (PV.bool !inB (n.n.getD i default).fst (-1) ((↑i:Int)-1)) [])] (ap (f72 ((n.n.getD i default).fst) (-1) ((↑i:Int)-1)) an)<|zAa<|zEu (!inB (n.n.getD i default).fst (-1) ((↑i:Int)-1)) (fun k0=>(zAc 1<|zAa<|zAm<|E_a [] an (I 1) [] ?_ rfl)) (fun k0=>(zAl<|zAg<|zAd 1<|S_a [(1,.v (I (↑(i+1):Int)))] (ap (wrN i) an)<|zAd 1<|zAa ?_))
  ·rw [zUd hC yJ (ntt k0)]
  ·exact ⟨i+1,⟨by omega,j8 (ntf k0)⟩,by omega,by kernel_rfl,by kernel_rfl⟩
 have hD:=zXy (n:=n) fun i hi=>ha i (by omega)
 clear ha
 refine zAh<|zAc 3<|S_a [(0,.n n.n.length)] (ap (lnS ntV n.n) an)<|zAd 1<|zAa<|zA1 ((↑i:Int)<(↑n.n.length:Int)) (by omega)<|zAE 8<|zAh<|zAc 1<|zAa<|zAi 10 ?_
 refine zAu (fun i=>i≤n.n.length∧∀ j,j<i→∀ k,k<j→¬ ((n.n.getD j default).1≥0∧(n.n.getD j default).1=(n.n.getD k default).1)) (fun (i:Nat)=>[(10,I (i:Nat))]) (fun i=>n.n.length-i) (0:Nat) ⟨Nat.zero_le _,fun j hj=>absurd hj (Nat.not_lt_zero j)⟩ fun i ⟨hi,ha⟩=>?_
 by_cases yJ:i<n.n.length
 ·have j8:=zJl ha
  clear ha
  refine zAh<|zAc 3<|S_a [(0,.n n.n.length)] (ap (lnS ntV n.n) an)<|zAd 1<|zAa<|zA0 ((↑i:Int)<(↑n.n.length:Int)) (by omega)<|zAl<|zAh<|zAi 11<|zAc 1<|zAa<|zAi 12 ?_
  refine zAu (fun k=>k≤i∧∀ j,j<k→¬ ((n.n.getD i default).1≥0∧(n.n.getD i default).1=(n.n.getD j default).1)) (fun (k:Nat)=>[(11,I (k:Nat))]) (fun k=>i-k) (0:Nat) ⟨Nat.zero_le _,fun j hj=>absurd hj (Nat.not_lt_zero j)⟩ fun k ⟨hk,hb⟩=>?_
  by_cases jy:k<i
  ·have u7:=zJl hb
   clear hb j8
   refine zAh<|zAc 3<|zAa<|zA0 ((↑k:Int)<(↑i:Int)) (by omega)<|zAl<|zAh<|zAi 13<|zAc 3<|S_a [(2,.v (PV.agg [I (n.n.getD i default).fst,PV.bool (n.n.getD i default).snd]))] (ap (zB0 default (by omega):(List.map ntV n.n)[i]? = some (PV.agg [I (n.n.getD i default).fst,PV.bool (n.n.getD i default).snd])) an)<|zAd 4<|zEY 169 ((n.n.getD i default).fst≥0) (fun k1=>(zAd 3<|S_a [(2,.v (PV.agg [I (n.n.getD i default).fst,PV.bool (n.n.getD i default).snd]))] (ap (zB0 default (by omega):(List.map ntV n.n)[i]? = some (PV.agg [I (n.n.getD i default).fst,PV.bool (n.n.getD i default).snd])) an)<|zAd 5<|S_a [(2,.v (PV.agg [I (n.n.getD k default).fst,PV.bool (n.n.getD k default).snd]))] (ap (zB0 default (by omega):(List.map ntV n.n)[k]? = some (PV.agg [I (n.n.getD k default).fst,PV.bool (n.n.getD k default).snd])) an)<|zAd 4<|zAa<|zCn ((n.n.getD i default).fst=(n.n.getD k default).fst) (fun k2=>(zAc 1<|zAa<|zAm<|E_a [] an (I 5) [] ?_ rfl)) (fun k2=>(zAl<|zAg<|zAd 1<|S_a [(1,.v (I (↑(k+1):Int)))] (ap (wrN k) an)<|zAd 1<|zAa ?_)))) (fun k1=>(zAd 14<|zAa<|zA4<|zAl<|zAg<|zAd 1<|S_a [(1,.v (I (↑(k+1):Int)))] (ap (wrN k) an)<|zAd 1<|zAa ?_))
   all_goals first
    | exact ⟨k+1,⟨by omega,u7 (by omega)⟩,by omega,by kernel_rfl,by kernel_rfl⟩
    | (have h5:=zVd hC hD jy yJ (by assumption) (by assumption);rw [h5])
  ·have jV:=j8 fun j hj=>hb j (by omega)
   clear hb j8
   refine zAh<|zAc 3<|zAa<|zA1 ((↑k:Int)<(↑i:Int)) (by omega)<|zAE 12<|zAg<|zAd 1<|S_a [(1,.v (I (↑(i+1):Int)))] (ap (wrN i) an)<|zAd 1<|zAa ?_
   exact ⟨i+1,⟨by omega,jV⟩,by omega,by kernel_rfl,by kernel_rfl⟩
 have hE:=zWw hD fun i hi=>ha i (by omega)
 clear ha
 refine zAh<|zAc 3<|S_a [(0,.n n.n.length)] (ap (lnS ntV n.n) an)<|zAd 1<|zAa<|zA1 ((↑i:Int)<(↑n.n.length:Int)) (by omega)<|zAE 10<|zAh<|zAc 1<|zAa<|zAi 14 ?_
 refine zAu (fun s=>s≤n.s.length∧∀ j,j<s→zIb n.h (n.s.getD j [])=true) (fun (s:Nat)=>[(12,I (s:Nat))]) (fun s=>n.s.length-s) (0:Nat) ⟨Nat.zero_le _,fun j hj=>absurd hj (Nat.not_lt_zero j)⟩ fun s ⟨hi,ha⟩=>?_
 by_cases yJ:s<n.s.length
 ·have j8:=zJl ha
  have hrl:=zCe (d:=[]) hs.hr s yJ
  clear ha
  refine zAh<|zAc 3<|S_a [(0,.n n.s.length)] (ap (lnS zAF n.s) an)<|zAd 1<|zAa<|zA0 ((↑s:Int)<(↑n.s.length:Int)) (by omega)<|zAl<|zAh<|zAi 15<|zAc 1<|zAa<|zAi 16 ?_
  refine zAu (fun k=>k≤(n.s.getD s []).length∧∀ j,j<k→inB ((n.s.getD s []).getD j 0) 0 (n.h-1)=true) (fun (k:Nat)=>[(13,I (k:Nat))]) (fun k=>(n.s.getD s []).length-k) (0:Nat) ⟨Nat.zero_le _,fun j hj=>absurd hj (Nat.not_lt_zero j)⟩ fun k ⟨hk,hb⟩=>?_
  by_cases jy:k<(n.s.getD s []).length
  ·have u7:=zJl hb
   clear hb j8
   refine zAh<|zAc 4<|S_a [(2,.v (zAF (n.s.getD s [])))] (ap (zB0 [] (by omega):(List.map zAF n.s)[s]? = some (zAF (n.s.getD s []))) an)<|zAd 1<|S_a [(0,.n ((n.s.getD s []).length))] (ap (lnS I (n.s.getD s [])) an)<|zAd 1<|zAa<|zA0 ((↑k:Int)<(↑(n.s.getD s []).length:Int)) (by omega)<|zAl<|zAh<|zAi 17<|zAc 3<|S_a [(2,.v (zAF (n.s.getD s [])))] (ap (zB0 [] (by omega):(List.map zAF n.s)[s]? = some (zAF (n.s.getD s []))) an)<|zAd 2<|S_a [(2,.v (I ((n.s.getD s []).getD k 0)))] (ap (zB0 (0) (by omega):(List.map I (n.s.getD s []))[k]? = some (I ((n.s.getD s []).getD k 0))) an)<|zAd 3<|S_a [(1,.v (I (n.h-1)))] (ap ((zDl rfl (by omega)):I (IntKind.i64.wrap (n.h-1))=I (n.h-1)) an)<|S_a [(10,.ret (PV.bool !inB ((n.s.getD s []).getD k 0) 0 (n.h-1)) [])] (ap (f72 ((n.s.getD s []).getD k 0) (0) (n.h-1)) an)<|zAa<|zEu (!inB ((n.s.getD s []).getD k 0) 0 (n.h-1)) (fun k1=>(zAc 1<|zAa<|zAm<|E_a [] an (I 1) [] ?_ rfl)) (fun k1=>(zAl<|zAg<|zAd 1<|S_a [(1,.v (I (↑(k+1):Int)))] (ap (wrN k) an)<|zAd 1<|zAa ?_))
   ·rw [zUN hC hE yJ jy (ntt k1)]
   ·exact ⟨k+1,⟨by omega,u7 (ntf k1)⟩,by omega,by kernel_rfl,by kernel_rfl⟩
  ·have jV:=j8 (zMn (d:=0) fun j hj=>hb j (by omega))
   clear hb j8
   refine zAh<|zAc 4<|S_a [(2,.v (zAF (n.s.getD s [])))] (ap (zB0 [] (by omega):(List.map zAF n.s)[s]? = some (zAF (n.s.getD s []))) an)<|zAd 1<|S_a [(0,.n ((n.s.getD s []).length))] (ap (lnS I (n.s.getD s [])) an)<|zAd 1<|zAa<|zA1 ((↑k:Int)<(↑(n.s.getD s []).length:Int)) (by omega)<|zAE 16<|zAg<|zAd 1<|S_a [(1,.v (I (↑(s+1):Int)))] (ap (wrN s) an)<|zAd 1<|zAa ?_
   exact ⟨s+1,⟨by omega,jV⟩,by omega,by kernel_rfl,by kernel_rfl⟩
 have hF:(n.s.all fun x=>zIb n.h x)=true:=zMn (d:=[]) fun i hi=>ha i (by omega)
 clear ha
 refine zAh<|zAc 3<|S_a [(0,.n n.s.length)] (ap (lnS zAF n.s) an)<|zAd 1<|zAa<|zA1 ((↑s:Int)<(↑n.s.length:Int)) (by omega)<|zAE 14<|zAh<|zAc 1<|zAa<|zAi 18 ?_
 refine zAu (fun s=>s≤n.s.length∧∀ j,j<s→zDd (n.s.getD j [])=true) (fun (s:Nat)=>[(14,I (s:Nat))]) (fun s=>n.s.length-s) (0:Nat) ⟨Nat.zero_le _,fun j hj=>absurd hj (Nat.not_lt_zero j)⟩ fun s ⟨hi,ha⟩=>?_
 by_cases yJ:s<n.s.length
 ·have j8:=zJl ha
  have hrl:=zCe (d:=[]) hs.hr s yJ
  clear ha
  refine zAh<|zAc 3<|S_a [(0,.n n.s.length)] (ap (lnS zAF n.s) an)<|zAd 1<|zAa<|zA0 ((↑s:Int)<(↑n.s.length:Int)) (by omega)<|zAl<|zAh<|zAi 19<|zAc 1<|zAa<|zAi 20 ?_
  refine zAu (fun m=>(m=0∨m+1≤(n.s.getD s []).length)∧∀ j,j<m→(n.s.getD s []).getD j 0<(n.s.getD s []).getD (j+1) 0) (fun (m:Nat)=>[(15,I ((m+1:Nat):Int))]) (fun m=>(n.s.getD s []).length-m) (0:Nat) ⟨.inl rfl,fun j hj=>absurd hj (Nat.not_lt_zero j)⟩ fun m ⟨hk,hb⟩=>?_
  by_cases jy:m+1<(n.s.getD s []).length
  ·have u7:=zJl hb
   clear hb j8
   refine zAh<|zAc 4<|S_a [(2,.v (zAF (n.s.getD s [])))] (ap (zB0 [] (by omega):(List.map zAF n.s)[s]? = some (zAF (n.s.getD s []))) an)<|zAd 1<|S_a [(0,.n ((n.s.getD s []).length))] (ap (lnS I (n.s.getD s [])) an)<|zAd 1<|zAa<|zA0 ((↑(m+1):Int)<(↑(n.s.getD s []).length:Int)) (by omega)<|zAl<|zAh<|zAi 21<|zAc 3<|S_a [(2,.v (zAF (n.s.getD s [])))] (ap (zB0 [] (by omega):(List.map zAF n.s)[s]? = some (zAF (n.s.getD s []))) an)<|zAd 2<|S_a [(1,.v (I (↑(m+1-1):Int)))] (ap ((zDl (by omega) (by omega)):I (IntKind.i64.wrap ((↑(m+1):Int)-1))=I (↑(m+1-1):Int)) an)<|S_a [(2,.v (I ((n.s.getD s []).getD m 0)))] (ap (zB0 (0) (by omega):(List.map I (n.s.getD s []))[m]? = some (I ((n.s.getD s []).getD m 0))) an)<|zAd 4<|S_a [(2,.v (zAF (n.s.getD s [])))] (ap (zB0 [] (by omega):(List.map zAF n.s)[s]? = some (zAF (n.s.getD s []))) an)<|zAd 2<|S_a [(2,.v (I ((n.s.getD s []).getD (m+1) 0)))] (ap (zB0 (0) (by omega):(List.map I (n.s.getD s []))[m+1]? = some (I ((n.s.getD s []).getD (m+1) 0))) an)<|zAd 2<|zAa<|zCn ((n.s.getD s []).getD m 0≥(n.s.getD s []).getD (m+1) 0) (fun k0=>(zAc 1<|zAa<|zAm<|E_a [] an (I 4) [] ?_ rfl)) (fun k0=>(zAl<|zAg<|zAd 1<|S_a [(1,.v (I (↑(m+1+1):Int)))] (ap ((zDl (by omega) (by omega)):I (IntKind.i64.wrap ((↑(m+1):Int)+1))=I (↑(m+1+1):Int)) an)<|zAd 1<|zAa ?_))
   ·rw [zU8 hC hE hF yJ jy k0]
   ·exact ⟨m+1,⟨.inr (by omega),u7 (by omega)⟩,by omega,by kernel_rfl,by kernel_rfl⟩
  ·have jV:=j8 (zV1 fun j hj=>hb j (by omega))
   clear hb j8
   refine zAh<|zAc 4<|S_a [(2,.v (zAF (n.s.getD s [])))] (ap (zB0 [] (by omega):(List.map zAF n.s)[s]? = some (zAF (n.s.getD s []))) an)<|zAd 1<|S_a [(0,.n ((n.s.getD s []).length))] (ap (lnS I (n.s.getD s [])) an)<|zAd 1<|zAa<|zA1 ((↑(m+1):Int)<(↑(n.s.getD s []).length:Int)) (by omega)<|zAE 20<|zAg<|zAd 1<|S_a [(1,.v (I (↑(s+1):Int)))] (ap (wrN s) an)<|zAd 1<|zAa ?_
   exact ⟨s+1,⟨by omega,jV⟩,by omega,by kernel_rfl,by kernel_rfl⟩
 have hG:(n.s.all fun x=>zDd x)=true:=zMn (d:=[]) fun i hi=>ha i (by omega)
 have hR:=zVH hC hE hF hG
 clear ha
 refine zAh<|zAc 3<|S_a [(0,.n n.s.length)] (ap (lnS zAF n.s) an)<|zAd 1<|zAa<|zA1 ((↑s:Int)<(↑n.s.length:Int)) (by omega)<|zAE 18<|zAc 1<|zAa<|zAm<|E_a [] an (I 0) [] (by simp [*]) rfl
end Go.Eng
set_option maxRecDepth 10000
set_option maxHeartbeats 4000000
namespace Go.Eng
open Go Go.Proofs
end Go.Eng
set_option maxRecDepth 10000
set_option maxHeartbeats 4000000
namespace Go.Eng
open Go Go.Proofs
end Go.Eng
namespace Go.Eng
open Go Go.Proofs
structure BkOk (n:Nw) (cs:List (Int×Int)) (c:Nat) (x:Int) (m:Nat) (out:List Int):Prop where
 pos:0<out.length
 rng:∀ i,i<out.length→0≤out.getD i 0∧out.getD i 0<n.h
 at_:∀ i,i<out.length→(zBs n cs (m+i)).getD ((out.getD i 0).toNat*8+c) 0=x
 nb:∀ i,i+1<out.length→zNb n (out.getD i 0) (out.getD (i+1) 0)=true
 no:∀ m',m=m'+1→(zBs n cs m').getD ((out.getD 0 0).toNat*8+c) 0≠x
end Go.Eng
set_option maxRecDepth 10000
set_option maxHeartbeats 4000000
namespace Go.Eng
open Go Go.Proofs
theorem f34_1 (n:Nw) (ho:NwOk n):FG 34 [nwV n] (.tup [.own 1 ((zCH (zPP n) n.n.length).map I),I 0]):=by
 have ut:=ho.nl
 have jd:=ho.small
 have yr:=ho.err
 rw [← zV8 ho]
 refine zAf Try.f34 ?_
 refine zAc 3<|zAa<|zAh<|zAc 1<|S_a [(6,.ret (I (zBu n)) [])] (ap (f30 n (by omega)) an)<|zAd 1<|zAa<|zAc 2<|zAa<|zFr (zBu n=0) (by omega)<|zAl<|zAc 1<|zAa<|zAh<|zAc 1<|zAa<|zAi 0 ?_
 refine zAu (fun (i,l)=>i≤n.n.length∧l=zCH (zSP n) i) (fun (i,l)=>[(5,.own 1 (l.map I)),(6,I (i:Nat))]) (fun (i,_)=>n.n.length-i) ((0:Nat),([]:List Int)) ⟨by omega,by simp [zCH]⟩ fun (i,l) ⟨hi,hl⟩=>?_
 have wo:l.length≤i:=by rw [hl];exact zEJ
 by_cases yJ:i<n.n.length
 ·have y4:=zD1 (p:=zSP n) (k:=i)
  rw [← hl] at y4
  clear hl
  have jp:zSP n i=false→l=zCH (zSP n) (i+1):=fun h=>by rw [y4,if_neg (by rw [h];simp)]
  refine zAh<|zAc 3<|S_a [(0,.n n.n.length)] (ap (lnS ntV n.n) an)<|zAd 1<|zAa<|zA0 ((↑i:Int)<(↑n.n.length:Int)) (by omega)<|zAl<|zAh<|zAi 1<|zAc 2<|S_a [(8,.ret (I (zGN n (↑i:Int))) [])] (ap (f74 n ((↑i:Int)) (by first | omega | (simp<;>omega))) an)<|zAd 2<|zEY 23 (zGN n (↑i:Int)<0) (fun k0=>(zAd 3<|S_a [(2,.v (PV.agg [I (n.n.getD i default).fst,PV.bool (n.n.getD i default).snd]))] (ap (zB0 default (by omega):(List.map ntV n.n)[i]? = some (PV.agg [I (n.n.getD i default).fst,PV.bool (n.n.getD i default).snd])) an)<|zAd 4<|zAa<|zEu (!(n.n.getD i default).snd) (fun k1=>(zAg<|zAd 3<|S_a [(4,.ob),(0,.ob),(0,.yes),(2,.v (PV.own 1 (List.map I (l++[(↑i:Int)]))))] (ap (blz (List.map I l))<|ap ((by exact zBx (by simp only [List.length_map,zzLn,zBe]<;>omega)):((List.map I l).length + [I (↑i:Int)].length).ble zBe=true)<|ap ((by exact zBW (by simp<;>omega)):(0+(List.map I l).length).beq (List.map I l).length=true)<|ap ((zA3 (zDx (by kernel_rfl))):PV.own 1 (List.map I l++[I (↑i:Int)])=PV.own 1 (List.map I (l++[(↑i:Int)]))) an)<|zAd 1<|zAa<|zAg<|zAd 1<|S_a [(1,.v (I (↑(i+1):Int)))] (ap (wrN i) an)<|zAd 1<|zAa ?_)) (fun k1=>(zAl<|zAg<|zAd 1<|S_a [(1,.v (I (↑(i+1):Int)))] (ap (wrN i) an)<|zAd 1<|zAa ?_)))) (fun k0=>(zAd 8<|zAa<|zA4<|zAl<|zAg<|zAd 1<|S_a [(1,.v (I (↑(i+1):Int)))] (ap (wrN i) an)<|zAd 1<|zAa ?_))
  ·exact ⟨(i+1,l++[(i:Int)]),⟨by omega,by rw [y4,if_pos (by simp only [zSP,decide_eq_true k0,k1];rfl)]⟩,by simp only;omega,by kernel_rfl,by kernel_rfl⟩
  ·exact ⟨(i+1,l),⟨by omega,jp (by simp only [zSP,decide_eq_true k0,k1];rfl)⟩,by simp only;omega,by kernel_rfl,by kernel_rfl⟩
  ·exact ⟨(i+1,l),⟨by omega,jp (by simp only [zSP,decide_eq_false k0,Bool.false_and])⟩,by simp only;omega,by kernel_rfl,by kernel_rfl⟩
 ·have e2:i=n.n.length:=by omega
  subst e2
  rw [← hl]
  clear hl
  refine zAh<|zAc 3<|S_a [(0,.n n.n.length)] (ap (lnS ntV n.n) an)<|zAd 1<|zAa<|zA1 ((↑n.n.length:Int)<(↑n.n.length:Int)) (by omega)<|zAE 0<|zAc 1<|S_a [(2,.yes)] (ap ((by exact zBW (by simp<;>omega)):(Nat.beq 0 0&&(List.map I l).length.beq (List.map I l).length)=true) an)<|zAd 1<|zAa<|zAm<|E_a [(1,.yes),(1,.v (PV.own 1 (List.map I l)))] (ap (blz (List.map I l))<|ap ((zA3 zAV):PV.own 1 (List.take (List.map I l).length (List.drop 0 (List.map I l)))=PV.own 1 (List.map I l)) an) (PV.tup [PV.own 1 (List.map I l),I 0]) [] rfl rfl
theorem f34_2 (n:Nw) (hs:Small n) (ho:¬ zBu n=0):FG 34 [nwV n] (.tup [.own 1 [],I (zBu n)]):=by
 refine zAf Try.f34 ?_
 refine zAc 3<|zAa<|zAh<|zAc 1<|S_a [(6,.ret (I (zBu n)) [])] (ap (f30 n (by omega)) an)<|zAd 1<|zAa<|zAc 2<|zAa<|zEV (zBu n=0) (by omega)<|zAc 3<|zAa<|zAm<|E_a [] an (PV.tup [PV.own 1 [],I (zBu n)]) [] rfl rfl
theorem f32_1 (n:Nw) (x:Int) (ho:NwOk n) (hx:0≤x∧x<n.n.length):FG 32 [nwV n,I x] (.tup [.own 1 ((zCH (zJW n x) n.n.length).map I),I 0]):=by
 have ut:=ho.nl
 have jd:=ho.small
 have yr:=ho.err
 obtain ⟨i,rfl⟩:∃ i:Nat,x=i:=⟨x.toNat,by omega⟩
 refine zAf Try.f32 ?_
 refine zAc 3<|zAa<|zAh<|zAc 1<|S_a [(6,.ret (I (zBu n)) [])] (ap (f30 n (by omega)) an)<|zAd 1<|zAa<|zAc 2<|zAa<|zFr (zBu n=0) (by omega)<|zAl<|zAh<|zAc 3<|S_a [(0,.n n.n.length)] (ap (lnS ntV n.n) an)<|S_a [(1,.v (I (↑(n.n.length-1):Int)))] (ap ((zDl (by omega) (by omega)):I (IntKind.i64.wrap ((↑n.n.length:Int)-1))=I (↑(n.n.length-1):Int)) an)<|S_a [(10,.ret (PV.bool !inB (↑i:Int) 0 (↑(n.n.length-1):Int)) [])] (ap (f72 ((↑i:Int)) (0) ((↑(n.n.length-1):Int))) an)<|zAa<|zEu (!inB (↑i:Int) 0 (↑(n.n.length-1):Int)) (fun k0=>(zAc 2<|zAa<|zAm<|E_a [] an (PV.tup [PV.own 1 [],I 1]) [] ?_ rfl)) (fun k0=>(zAl<|zAh<|zAi 0 ?_))
 ·exfalso
  have:=ntt k0
  simp only [inB,Bool.and_eq_false_iff,decide_eq_false_iff_not] at this
  omega
 refine zAu (fun (y:Int)=>∃ m:Nat,y=m∧m<n.n.length∧chn n m i) (fun y=>[(1,I y)]) (fun y=>y.toNat) (i:Int) ⟨i,rfl,by omega,rfl⟩ fun y ⟨m,hy,hm,hc⟩=>?_
 subst hy
 have ham:=ho.na m hm
 have vO:=zHg ho hm
 by_cases hge:(n.n.getD m default).1≥0
 ·rw [if_neg (by omega)] at vO
  refine zAh<|zAc 3<|S_a [(2,.v (PV.agg [I (n.n.getD m default).fst,PV.bool (n.n.getD m default).snd]))] (ap (zB0 default (by omega):(List.map ntV n.n)[m]? = some (PV.agg [I (n.n.getD m default).fst,PV.bool (n.n.getD m default).snd])) an)<|zAd 3<|zAa<|zA0 ((n.n.getD m default).fst≥0) (by omega)<|zAl<|zAi 1<|zAg<|zAd 3<|S_a [(2,.v (PV.agg [I (n.n.getD m default).fst,PV.bool (n.n.getD m default).snd]))] (ap (zB0 default (by omega):(List.map ntV n.n)[m]? = some (PV.agg [I (n.n.getD m default).fst,PV.bool (n.n.getD m default).snd])) an)<|zAd 3<|zAa ?_
  exact ⟨(n.n.getD m default).1,⟨(n.n.getD m default).1.toNat,by omega,by omega,vO.symm.trans hc⟩,by omega,by kernel_rfl,by kernel_rfl⟩
 ·have hfm:(zAj n).getD i 0=(m:Int):=by rw [if_pos (by omega)] at vO;exact hc.symm.trans vO
  have vA:=zQA ho (i:=i) (by omega) hfm
  refine zAh<|zAc 3<|S_a [(2,.v (PV.agg [I (n.n.getD m default).fst,PV.bool (n.n.getD m default).snd]))] (ap (zB0 default (by omega):(List.map ntV n.n)[m]? = some (PV.agg [I (n.n.getD m default).fst,PV.bool (n.n.getD m default).snd])) an)<|zAd 3<|zAa<|zA1 ((n.n.getD m default).fst≥0) (by omega)<|zAE 0<|zAc 3<|zAa<|zAh<|zAi 2 ?_
  refine zAu (fun ((y:Int),(L:List Int))=>∃ m:Nat,y=m∧m<n.n.length∧chn n m i∧L=zCH (zJW n i) (m+1)) (fun (y,L)=>[(1,I y),(7,.own 1 (L.map I))]) (fun (y,_)=>n.n.length-y.toNat) ((m:Int),[(m:Int)]) ⟨m,rfl,hm,hc,vA.symm⟩ fun (y,L) ⟨m2,hy,hm,hc,hL⟩=>?_
  subst hy
  have hLl:L.length≤m2+1:=by rw [hL];exact zEJ
  rcases zVC ho (by omega) hm hc with ⟨g1,g2⟩ | ⟨k,g1,g2,g3,g4,g5⟩
  ·rw [g2,← hL]
   clear hL vA
   refine zAh<|zAc 2<|S_a [(8,.ret (I (zGN n (↑m2:Int))) [])] (ap (f74 n ((↑m2:Int)) (by first | omega | (simp<;>omega))) an)<|zAd 1<|zAa<|zA1 (zGN n (↑m2:Int)≥0) (by omega)<|zAE 2<|zAc 1<|S_a [(2,.yes)] (ap ((by exact zBW (by simp<;>omega)):(Nat.beq 0 0&&(List.map I L).length.beq (List.map I L).length)=true) an)<|zAd 1<|zAa<|zAm<|E_a [(1,.yes),(1,.v (PV.own 1 (List.map I L)))] (ap (blz (List.map I L))<|ap ((zA3 zAV):PV.own 1 (List.take (List.map I L).length (List.drop 0 (List.map I L)))=PV.own 1 (List.map I L)) an) (PV.tup [PV.own 1 (List.map I L),I 0]) [] rfl rfl
  ·rw [← hL] at g5
   clear hL vA
   refine zAh<|zAc 2<|S_a [(8,.ret (I (zGN n (↑m2:Int))) [])] (ap (f74 n ((↑m2:Int)) (by first | omega | (simp<;>omega))) an)<|zAd 1<|zAa<|zA0 (zGN n (↑m2:Int)≥0) (by omega)<|zAl<|zAi 3<|zAc 2<|S_a [(8,.ret (I (zGN n (↑m2:Int))) [])] (ap (f74 n ((↑m2:Int)) (by first | omega | (simp<;>omega))) an)<|zAd 1<|zAa<|zAg<|zAd 3<|S_a [(4,.ob),(0,.ob),(0,.yes),(2,.v (PV.own 1 (List.map I (L++[zGN n (↑m2:Int)]))))] (ap (blz (List.map I L))<|ap ((by exact zBx (by simp only [List.length_map,zzLn,zBe]<;>omega)):((List.map I L).length + [I (zGN n (↑m2:Int))].length).ble zBe=true)<|ap ((by exact zBW (by simp<;>omega)):(0+(List.map I L).length).beq (List.map I L).length=true)<|ap ((zA3 (zDx (by kernel_rfl))):PV.own 1 (List.map I L++[I (zGN n (↑m2:Int))])=PV.own 1 (List.map I (L++[zGN n (↑m2:Int)]))) an)<|zAd 1<|zAa ?_
   exact ⟨(zGN n m2,L++[zGN n m2]),⟨k,g1,g3,g4,by rw [g5,g1]⟩,by simp only [g1];omega,by kernel_rfl,by kernel_rfl⟩
theorem f32_2 (n:Nw) (x:Int) (ho:NwOk n) (hx:inB x 0 (n.n.length-1)=false):FG 32 [nwV n,I x] (.tup [.own 1 [],I 1]):=by
 have ut:=ho.nl
 have jd:=ho.small
 have yr:=ho.err
 refine zAf Try.f32 ?_
 refine zAc 3<|zAa<|zAh<|zAc 1<|S_a [(6,.ret (I (zBu n)) [])] (ap (f30 n (by omega)) an)<|zAd 1<|zAa<|zAc 2<|zAa<|zFr (zBu n=0) (by omega)<|zAl<|zAh<|zAc 3<|S_a [(0,.n n.n.length)] (ap (lnS ntV n.n) an)<|S_a [(1,.v (I (↑(n.n.length-1):Int)))] (ap ((zDl (by omega) (by omega)):I (IntKind.i64.wrap ((↑n.n.length:Int)-1))=I (↑(n.n.length-1):Int)) an)<|S_a [(10,.ret (PV.bool !inB x 0 (↑(n.n.length-1):Int)) [])] (ap (f72 x (0) ((↑(n.n.length-1):Int))) an)<|zAa<|zEu (!inB x 0 (↑(n.n.length-1):Int)) (fun k0=>(zAc 2<|zAa<|zAm<|E_a [] an (PV.tup [PV.own 1 [],I 1]) [] rfl rfl)) (fun k0=>(zAl<|zAh<|zAi 0 ?_))
 exfalso
 rw [show ((n.n.length-1:Nat):Int)=n.n.length-1 by omega,hx] at k0
 cases k0
theorem f32_3 (n:Nw) (x:Int) (hs:Small n) (ho:¬ zBu n=0):FG 32 [nwV n,I x] (.tup [.own 1 [],I (zBu n)]):=by
 refine zAf Try.f32 ?_
 refine zAc 3<|zAa<|zAh<|zAc 1<|S_a [(6,.ret (I (zBu n)) [])] (ap (f30 n (by omega)) an)<|zAd 1<|zAa<|zAc 2<|zAa<|zEV (zBu n=0) (by omega)<|zAc 3<|zAa<|zAm<|E_a [] an (PV.tup [PV.own 1 [],I (zBu n)]) [] rfl rfl
end Go.Eng
set_option maxRecDepth 10000
set_option maxHeartbeats 4000000
namespace Go.Eng
open Go Go.Proofs
theorem zUv {n:Nw} {cs:List (Int×Int)} (h:zDR n cs=false):cs.length≤24∧Small n:=by
 simp only [zDR,Bool.or_eq_false_iff,decide_eq_false_iff_not,List.any_eq_false,decide_eq_true_eq] at h
 exact ⟨by omega,by omega,by omega,by omega,fun r hr=>by have:=h.2.2.2.2 r hr;omega⟩
end Go.Eng
