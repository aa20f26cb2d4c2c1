/- For any news, cries and evenings the law NewsSpare ends in true: the cries that can be left out, or the error, are as specified; without conditions. -/
import Derived.Test.YtppbomajegnkeaaGreatPg
import Derived.Test.YtppbomajegnkeaaGreatPd
set_option linter.unusedVariables false
set_option linter.unusedSimpArgs false
set_option linter.unusedSectionVars false
set_option maxRecDepth 10000
set_option maxHeartbeats 4000000
namespace Go.Eng
open Go Go.Proofs
def zSt (n:Nw) (i:Nat):Bool:=decide ((zA8 n).getD i 0=i) && !(n.n.getD i default).2
def zFv (p:Nat→Bool) (k:Nat):List Int:=((List.range k).filter p).map fun (i:Nat)=>(i:Int)
theorem zHw {p:Nat→Bool} {k:Nat}:zFv p (k+1)=if p k=true then zFv p k++[(k:Int)] else zFv p k:=by
 unfold zFv;rw [List.range_succ,List.filter_append,List.map_append]
 by_cases hn:p k=true
 ·rw [if_pos hn];simp [hn]
 ·rw [if_neg hn];simp [hn]
theorem zHe {p:Nat→Bool} {k:Nat}:(zFv p k).length≤k:=by
 unfold zFv;rw [List.length_map];exact Nat.le_trans (List.length_filter_le _ _) (by simp)
theorem f86_1 (n:Nw) (ho:NwOk n):FG 86 [nwV n] (.tup [.own 1 ((zFv (zSt n) n.n.length).map I),I 0]):=by
 have ub:=ho.nl
 refine zAe Tryz.f86 ?_
 refine zAc 3<|zAa<|zAc 1<|S_a [(6,.ret (PV.tup [(zCs n (PV.own 2 []) (zTP (List.map pr2 n.l)) (zAl n) (zA8 n)).box,I 0]) [])] (ap (f139_1 n (by omega)) an)<|zAd 5<|zAa<|zAh<|zAc 2<|zAa<|zA0<|zAk<|zAc 1<|zAa<|zAh<|zAc 2<|S_a [(0,.n n.n.length)] (ap (lnS ntV n.n) an)<|zAd 1<|zAa<|zAi 0 ?_
 refine zAq (fun (i,l)=>i≤n.n.length∧l=zFv (zSt n) i) (fun (i,l)=>[(6,.own 1 (l.map I)),(20,I (i:Nat))]) (fun (i,_)=>n.n.length-i) ((0:Nat),([]:List Int)) ⟨by omega,by simp [zFv]⟩ fun (i,l) ⟨hi,hl⟩=>?_
 have w5:l.length≤i:=by rw [hl];exact zHe
 by_cases yI:i<n.n.length
 ·have yZ:=zHw (p:=zSt n) (k:=i)
  rw [← hl] at yZ
  have kE:zSt n i=false→l=zFv (zSt n) (i+1):=fun h=>by rw [yZ,if_neg (by rw [h];simp)]
  refine zAc 1<|zAa<|zAh<|zAU ((↑i:Int)<(↑n.n.length:Int)) (by omega)<|zAk<|zAh<|zAi 1<|zAc 1<|S_a [(2,.v (PV.agg [I (n.n.getD i default).fst,PV.bool (n.n.getD i default).snd]))] (ap (zBJ default (by omega):(List.map ntV n.n)[i]? = some (PV.agg [I (n.n.getD i default).fst,PV.bool (n.n.getD i default).snd])) an)<|zAd 4<|zAa<|zAc 4<|S_a [(2,.ob),(1,.v (PV.addr 4 [] 0 (14+i) none))] (ap ((by exact zAs (by omega)):decide (i<8)=true)<|ap ((zFr (by kernel_rfl)):PV.addr 4 [] 0 (14+i*(fun x=>x.size) Tryz.prog.types[3]) none=PV.addr 4 [] 0 (14+i) none) an)<|S_a [(0,.cs true ([I ((zA8 n).getD i 0)]))] (ap (zDy (q:=(PV.agg (I n.h::prs n.l::PV.sl (List.map ntV n.n)::PV.sl (List.map zAR n.s)::PV.own 2 []::PV.omap (List.map zBy (List.map pr2 n.l))::(zAS (zAl n) 8++zAS (zA8 n) 8))).box) (xs:=[PV.agg (I n.h::prs n.l::PV.sl (List.map ntV n.n)::PV.sl (List.map zAR n.s)::PV.own 2 []::PV.omap (List.map zBy (List.map pr2 n.l))::(zAS (zAl n) 8++zAS (zA8 n) 8))]) (x:=PV.agg (I n.h::prs n.l::PV.sl (List.map ntV n.n)::PV.sl (List.map zAR n.s)::PV.own 2 []::PV.omap (List.map zBy (List.map pr2 n.l))::(zAS (zAl n) 8++zAS (zA8 n) 8))) rfl rfl (zKm (A:=I n.h::prs n.l::PV.sl (List.map ntV n.n)::PV.sl (List.map zAR n.s)::PV.own 2 []::PV.omap (List.map zBy (List.map pr2 n.l))::zAS (zAl n) 8) (B:=[]) (F:=zA8 n) (m:=8) (j:=i) (by first | rfl | exact zBU (by kernel_rfl) | exact zBV (by kernel_rfl) | exact zDF (by kernel_rfl) (by kernel_rfl) | exact zDz (by kernel_rfl) | exact zDO (by kernel_rfl) (by kernel_rfl) | exact zDJ (by kernel_rfl) | (simp;done)) (by omega)):zAw 4 (PV.agg (I n.h::prs n.l::PV.sl (List.map ntV n.n)::PV.sl (List.map zAR n.s)::PV.own 2 []::PV.omap (List.map zBy (List.map pr2 n.l))::(zAS (zAl n) 8++zAS (zA8 n) 8))).box [] 0 (14+i) 1=some (true,[I ((zA8 n).getD i 0)])) an)<|zAd 3<|zEM 33 ((zA8 n).getD i 0=(↑i:Int)) (fun k0=>(zAd 4<|zAa<|zEb (!(n.n.getD i default).snd) (fun k1=>(zAf<|zAd 3<|S_a [(4,.ob),(0,.ob),(0,.yes),(2,.v (PV.own 1 (List.map I (l++[(↑i:Int)]))))] (ap (blz (List.map I l))<|ap ((by exact zBi (by simp only [List.length_map,zzLn,zAY]<;>omega)):((List.map I l).length + [I (↑i:Int)].length).ble zAY=true)<|ap ((by exact zBu (by simp<;>omega)):(0+(List.map I l).length).beq (List.map I l).length=true)<|ap ((zAW (zCI (by kernel_rfl))):PV.own 1 (List.map I l++[I (↑i:Int)])=PV.own 1 (List.map I (l++[(↑i:Int)]))) an)<|zAd 1<|zAa<|zAf<|S_a [(1,.v (I (↑(i+1):Int)))] (ap (wrN i) an)<|zAd 1<|zAa ?_)) (fun k1=>(zAk<|zAf<|S_a [(1,.v (I (↑(i+1):Int)))] (ap (wrN i) an)<|zAd 1<|zAa ?_)))) (fun k0=>(zAd 4<|zAa<|zA0<|zAk<|zAf<|S_a [(1,.v (I (↑(i+1):Int)))] (ap (wrN i) an)<|zAd 1<|zAa ?_))
  ·rw [if_pos (by simp only [zSt,decide_eq_true k0,k1];rfl)] at yZ
   exact ⟨(i+1,l++[(i:Int)]),⟨by omega,yZ.symm⟩,by simp only;omega,by kernel_rfl,by kernel_rfl⟩
  ·exact ⟨(i+1,l),⟨by omega,kE (by simp only [zSt,decide_eq_true k0,k1];rfl)⟩,by simp only;omega,by kernel_rfl,by kernel_rfl⟩
  ·exact ⟨(i+1,l),⟨by omega,kE (by simp only [zSt,decide_eq_false k0,Bool.false_and])⟩,by simp only;omega,by kernel_rfl,by kernel_rfl⟩
 ·refine zAc 1<|zAa<|zAh<|zAT ((↑i:Int)<(↑n.n.length:Int)) (by omega)<|zAA 0<|zAc 1<|S_a [(2,.yes)] (ap ((by exact zBu (by simp<;>omega)):(Nat.beq 0 0&&(List.map I l).length.beq (List.map I l).length)=true) an)<|zAd 1<|zAa<|zAn<|E_a [(1,.yes),(1,.v (PV.own 1 (List.map I l)))] (ap (blz (List.map I l))<|ap ((zAW zAQ):PV.own 1 (List.take (List.map I l).length (List.drop 0 (List.map I l)))=PV.own 1 (List.map I l)) an) (PV.tup [PV.own 1 (List.map I l),I 0]) [] ?_ rfl
  rw [hl,show i=n.n.length by omega]
def bkL (n:Nw) (cs:List (Int×Int)) (c:Nat) (x:Int):Nat→List Int→List Int
 | 0,out=>out
 | k+1,out=>bkL n cs c x k (match (zHF n (out.getD 0 0).toNat n.h.toNat).find? fun o=>decide ((zBh n cs k).getD (o*8+c) 0=x) with | some o=>(o:Int)::out | none=>out)
abbrev zUo (S:List (List Int)):PV := .box (.own 80 (S.map hdV))
def zQ8 (n:Nw) (cs:List (Int×Int)) (k:Nat):List (List Int):=(List.range k).map fun k=>zBh n cs k
theorem zMu {n:Nw} {cs:List (Int×Int)} {k:Nat}:zQ8 n cs (k+1)=zQ8 n cs k++[zBh n cs k]:=by
 simp only [zQ8,List.range_succ,List.map_append,List.map_cons,List.map_nil]
theorem zKV {n:Nw} {cs:List (Int×Int)} {k j:Nat} (h:j<k):(zQ8 n cs k).getD j []=zBh n cs j:=by
 simp [zQ8,List.getD_eq_getElem?_getD,h]
theorem zVo (n:Nw) (cs:List (Int×Int)) (h:Int) (ho:NwOk n) (hh:0≤h∧h<n.h):zFY 169 [] [.ref (zDL n cs),.ref (I h)] (zIR n h.toNat n.h.toNat):=by
 obtain ⟨g,rfl⟩:∃ g:Nat,h=g:=⟨h.toNat,by omega⟩
 exact zT3 n cs g ho hh.2
theorem zKD {p:Nat→Bool}:∀ {l:List Nat} {j o:Nat},l[j]? = some o→p o=true→(∀ i,i<j→p (l.getD i 0)=false)→l.find? p=some o
 | [],j,o,h,_,_=>by cases h
 | x::l,0,o,h,hp,_=>by
  simp only [List.getElem?_cons_zero,Option.some.injEq] at h
  subst h;rw [List.find?_cons,hp]
 | x::l,j+1,o,h,hp,ha=>by
  have h0:=ha 0 (by omega)
  simp only [List.getD_cons_zero] at h0
  rw [List.find?_cons,h0]
  exact zKD (by simpa using h) hp fun i hi=>by simpa using ha (i+1) (by omega)
theorem zPL {p:Nat→Bool} {l:List Nat} (ha:∀ i,i<l.length→p (l.getD i 0)=false):l.find? p=none:=by
 rw [List.find?_eq_none]
 intro x hx
 obtain ⟨i,hi,rfl⟩:=List.getElem_of_mem hx
 have:=ha i hi
 rw [zAt hi] at this
 simp [this]
theorem f38_1 (n:Nw) (cs:List (Int×Int)) (h:Int) (x:Int) (k:Nat) (ho:CrOk n cs) (hh:0≤h∧h<n.h) (hx:0≤x∧x<n.n.length) (hk:k≤12) (jl:(zBh n cs k).getD (h.toNat*8+((zAl n).getD x.toNat 0).toNat) 0=x) (hm:∀ j,j<k→(zBh n cs j).getD (h.toNat*8+((zAl n).getD x.toNat 0).toNat) 0≠x):FG 38 [nwV n,prs cs,I h,I x] (.tup [.own 1 ((bkL n cs ((zAl n).getD x.toNat 0).toNat x k [h]).map I),I 0]):=by
 have hn:=ho.nw
 have vE:=ho.w
 have hb:=hn.h
 have ub:=hn.nl
 have hin:inB x 0 (n.n.length-1)=true:=by simp only [inB,Bool.and_eq_true,decide_eq_true_eq];omega
 have hih:inB h 0 (n.h-1)=true:=by simp only [inB,Bool.and_eq_true,decide_eq_true_eq];omega
 have LF:=zB0 hn x.toNat (by omega)
 refine zAe Tryz.f38 ?_
 refine zAc 4<|zAa<|zAc 2<|S_a [(8,.ret (PV.tup [zDL n cs,I 0]) [])] (ap (f99_1 n cs (by omega)) an)<|zAd 5<|zAa<|zAh<|zAi 0<|zAc 3<|zAa<|zA0<|zAc 2<|S_a [(8,.ret (PV.bool (inB h 0 (n.h-1))) [])] (ap (f109 n h (by omega)) an)<|zAd 2<|zEi 32 (!inB h 0 (n.h-1)) (fun k1=>(zAd 6<|zAa<|zBR<|zAc 2<|zAa<|zAn<|E_a [] an (PV.tup [PV.own 1 [],I 1]) [] ?_ rfl)) (fun k1=>(zAd 2<|S_a [(8,.ret (PV.bool (inB x 0 ((↑n.n.length:Int)-1))) [])] (ap (f106 n x (by first | omega | (simp<;>omega))) an)<|zAd 3<|zAa<|zEb (!inB x 0 ((↑n.n.length:Int)-1)) (fun k2=>(zAc 2<|zAa<|zAn<|E_a [] an (PV.tup [PV.own 1 [],I 1]) [] ?_ rfl)) (fun k2=>(zAk<|zAc 4<|S_a [(0,.ob),(1,.ob),(0,.v ((I ((zAl n).getD x.toNat 0)).ref))] (ap ((by exact zAs (by omega)):decide (0≤x)=true)<|ap ((by exact zAs (by omega)):decide (x.toNat<8)=true)<|ap (zGw (F:=zAl n) (m:=8) (j:=x.toNat) (by omega):zCd (PV.agg (zAS (zAl n) 8)).ref (x.toNat*(fun x=>x.size) Tryz.prog.types[3]) none=some (I ((zAl n).getD x.toNat 0)).ref) an)<|zAd 3<|zAa<|zAc 1<|S_a [(5,.ret (hdV (zOL n cs)) [])] (ap (f100 n cs (by omega)) an)<|zAd 3<|zAa<|zAh<|zAi 1 ?_))))
 ·rw [hih] at k1;cases k1
 ·rw [hin] at k2;cases k2
 ·generalize hc:((zAl n).getD x.toNat 0)=c at *
  refine zAq (fun (j,S)=>j≤k∧S=zQ8 n cs (j+1)) (fun (j,S)=>[(13,zUo S)]) (fun (j,_)=>k-j) ((0:Nat),[zOL n cs]) ⟨by omega,rfl⟩ fun (j,S) ⟨hj,hS⟩=>?_
  have gZ:S.length=j+1:=by rw [hS];simp [zQ8]
  have qD:S.getD (S.length-1) []=zBh n cs j:=by rw [gZ,hS];exact zKV (by omega)
  have LG:(S.getD (S.length-1) []).length=80:=by rw [qD];exact zCe j
  by_cases qi:j<k
  ·have hI:=hm j qi
   rw [← qD] at hI
   have hSS:S++[zC2 n (S.getD (S.length-1) [])]=zQ8 n cs (j+1+1):=by rw [zMu (k:=j+1),← hS,qD];rfl
   refine zAh<|zAh<|zAf<|S_a [(1,.v (PV.bor 13 [(0,0)] 80 0 S.length))] (ap ((by simp):PV.bor 13 [(0,0)] 80 0 (List.map hdV S).length=PV.bor 13 [(0,0)] 80 0 S.length) an)<|S_a [(1,.v (PV.bor 13 [(0,0)] 80 0 S.length))] (ap ((by simp):PV.bor 13 [(0,0)] 80 0 (List.map hdV S).length=PV.bor 13 [(0,0)] 80 0 S.length) an)<|zAd 1<|S_a [(1,.v (I (↑(S.length-1):Int)))] (ap ((zDl (by omega) (by omega)):I (IntKind.i64.wrap ((↑S.length:Int)-1))=I (↑(S.length-1):Int)) an)<|zAd 2<|S_a [(2,.ob),(1,.n (S.length-1))] (ap ((by exact zAs (by omega)):decide (S.length-1<S.length)=true)<|ap ((by simp):some (0+(S.length-1))=some (S.length-1)) an)<|S_a [(0,.ob),(1,.ob)] (ap ((by exact zAs (by omega)):decide (0≤h)=true)<|ap ((by exact zAs (by omega)):decide (h.toNat<10)=true) an)<|S_a [(0,.ob),(1,.ob)] (ap ((by exact zAs (by omega)):decide (0≤c)=true)<|ap ((by exact zAs (by omega)):decide (c.toNat<8)=true) an)<|S_a [(0,.cs true ([I ((S.getD (S.length-1) []).getD (h.toNat*8+c.toNat) 0)]))] (ap (zDy (q:=PV.own 80 (List.map hdV S)) (xs:=List.map hdV S) (x:=PV.agg (zAS (S.getD (S.length-1) []) 80)) (zLT (xs:=[PV.own 80 (List.map hdV S)]) (x:=PV.own 80 (List.map hdV S)) (y:=PV.own 80 (List.map hdV S)) rfl rfl) (zBJ [] (by omega)) (zE1 (F:=S.getD (S.length-1) []) (m:=80) (j:=h.toNat*8+c.toNat) (by first | rfl | exact zBU (by kernel_rfl) | exact zBV (by kernel_rfl) | exact zDF (by kernel_rfl) (by kernel_rfl) | exact zDz (by kernel_rfl) | exact zDO (by kernel_rfl) (by kernel_rfl) | exact zDJ (by kernel_rfl) | (simp;done)) (by omega)):zAw 13 (PV.own 80 (List.map hdV S)).box [(0,0)] (S.length-1) (0+h.toNat*(fun x=>x.size) Tryz.prog.types[128]+c.toNat*(fun x=>x.size) Tryz.prog.types[3]) 1=some (true,[I ((S.getD (S.length-1) []).getD (h.toNat*8+c.toNat) 0)])) an)<|zAd 2<|zAa<|zD8 ((S.getD (S.length-1) []).getD (h.toNat*8+c.toNat) 0=x) (by omega)<|zAk<|zAi 2<|zAh<|zAh<|zAf<|S_a [(1,.v (PV.bor 13 [(0,0)] 80 0 S.length))] (ap ((by simp):PV.bor 13 [(0,0)] 80 0 (List.map hdV S).length=PV.bor 13 [(0,0)] 80 0 S.length) an)<|zAd 2<|zAa<|zAT ((↑S.length:Int)>12) (by omega)<|zAk<|zAf<|S_a [(1,.v (PV.bor 13 [(0,0)] 80 0 S.length))] (ap ((by simp):PV.bor 13 [(0,0)] 80 0 (List.map hdV S).length=PV.bor 13 [(0,0)] 80 0 S.length) an)<|zAd 1<|S_a [(1,.v (PV.bor 13 [(0,0)] 80 0 S.length))] (ap ((by simp):PV.bor 13 [(0,0)] 80 0 (List.map hdV S).length=PV.bor 13 [(0,0)] 80 0 S.length) an)<|S_a [(1,.v (PV.bor 13 [(0,0)] 80 0 S.length))] (ap ((by simp):PV.bor 13 [(0,0)] 80 0 (List.map hdV S).length=PV.bor 13 [(0,0)] 80 0 S.length) an)<|zAd 1<|S_a [(1,.v (I (↑(S.length-1):Int)))] (ap ((zDl (by omega) (by omega)):I (IntKind.i64.wrap ((↑S.length:Int)-1))=I (↑(S.length-1):Int)) an)<|S_a [(2,.ob),(1,.n (S.length-1))] (ap ((by exact zAs (by omega)):decide (S.length-1<S.length)=true)<|ap ((by simp):some (0+(S.length-1))=some (S.length-1)) an)<|S_a [(0,.cs true (zAS (S.getD (S.length-1) []) 80))] (ap (zDy (q:=PV.own 80 (List.map hdV S)) (xs:=List.map hdV S) (x:=PV.agg (zAS (S.getD (S.length-1) []) 80)) (zLT (xs:=[PV.own 80 (List.map hdV S)]) (x:=PV.own 80 (List.map hdV S)) (y:=PV.own 80 (List.map hdV S)) rfl rfl) (zBJ [] (by omega)):zAw 13 (PV.own 80 (List.map hdV S)).box [(0,0)] (S.length-1) 0 Tryz.prog.types[130].size=some (true,zAS (S.getD (S.length-1) []) 80)) an)<|S_a [(7,.ret (hdV (zC2 n (S.getD (S.length-1) []))) [])] (ap (f101 n cs (S.getD (S.length-1) []) (by omega) (by omega)) an)<|zAd 1<|S_a [(4,.ob),(0,.ob),(0,.yes),(2,.v (PV.own 80 (List.map hdV (S++[zC2 n (S.getD (S.length-1) [])]))))] (ap ((by exact zBi (by simp only [List.length_map,zzLn,zAY]<;>omega)):(0+S.length).ble (List.map hdV S).length=true)<|ap ((by exact zBi (by simp only [List.length_map,zzLn,zAY]<;>omega)):((List.map hdV S).length + [PV.agg (zAS (zC2 n (S.getD (S.length-1) [])) 80)].length).ble zAY=true)<|ap ((by exact zBu (by simp<;>omega)):(0+S.length).beq (List.map hdV S).length=true)<|ap ((zAW (zCI (by kernel_rfl))):PV.own 80 (List.map hdV S++[PV.agg (zAS (zC2 n (S.getD (S.length-1) [])) 80)])=PV.own 80 (List.map hdV (S++[zC2 n (S.getD (S.length-1) [])]))) an)<|zAd 1<|zAa ?_
   exact ⟨(j+1,S++[zC2 n (S.getD (S.length-1) [])]),⟨by omega,hSS⟩,by simp only;omega,by kernel_rfl,by kernel_rfl⟩
  ·have e:j=k:=by omega
   subst e
   rw [← qD] at jl
   refine zAh<|zAh<|zAf<|S_a [(1,.v (PV.bor 13 [(0,0)] 80 0 S.length))] (ap ((by simp):PV.bor 13 [(0,0)] 80 0 (List.map hdV S).length=PV.bor 13 [(0,0)] 80 0 S.length) an)<|S_a [(1,.v (PV.bor 13 [(0,0)] 80 0 S.length))] (ap ((by simp):PV.bor 13 [(0,0)] 80 0 (List.map hdV S).length=PV.bor 13 [(0,0)] 80 0 S.length) an)<|zAd 1<|S_a [(1,.v (I (↑(S.length-1):Int)))] (ap ((zDl (by omega) (by omega)):I (IntKind.i64.wrap ((↑S.length:Int)-1))=I (↑(S.length-1):Int)) an)<|zAd 2<|S_a [(2,.ob),(1,.n (S.length-1))] (ap ((by exact zAs (by omega)):decide (S.length-1<S.length)=true)<|ap ((by simp):some (0+(S.length-1))=some (S.length-1)) an)<|S_a [(0,.ob),(1,.ob)] (ap ((by exact zAs (by omega)):decide (0≤h)=true)<|ap ((by exact zAs (by omega)):decide (h.toNat<10)=true) an)<|S_a [(0,.ob),(1,.ob)] (ap ((by exact zAs (by omega)):decide (0≤c)=true)<|ap ((by exact zAs (by omega)):decide (c.toNat<8)=true) an)<|S_a [(0,.cs true ([I ((S.getD (S.length-1) []).getD (h.toNat*8+c.toNat) 0)]))] (ap (zDy (q:=PV.own 80 (List.map hdV S)) (xs:=List.map hdV S) (x:=PV.agg (zAS (S.getD (S.length-1) []) 80)) (zLT (xs:=[PV.own 80 (List.map hdV S)]) (x:=PV.own 80 (List.map hdV S)) (y:=PV.own 80 (List.map hdV S)) rfl rfl) (zBJ [] (by omega)) (zE1 (F:=S.getD (S.length-1) []) (m:=80) (j:=h.toNat*8+c.toNat) (by first | rfl | exact zBU (by kernel_rfl) | exact zBV (by kernel_rfl) | exact zDF (by kernel_rfl) (by kernel_rfl) | exact zDz (by kernel_rfl) | exact zDO (by kernel_rfl) (by kernel_rfl) | exact zDJ (by kernel_rfl) | (simp;done)) (by omega)):zAw 13 (PV.own 80 (List.map hdV S)).box [(0,0)] (S.length-1) (0+h.toNat*(fun x=>x.size) Tryz.prog.types[128]+c.toNat*(fun x=>x.size) Tryz.prog.types[3]) 1=some (true,[I ((S.getD (S.length-1) []).getD (h.toNat*8+c.toNat) 0)])) an)<|zAd 2<|zAa<|zHm ((S.getD (S.length-1) []).getD (h.toNat*8+c.toNat) 0=x) (by omega)<|zAA 1<|zAc 4<|zAa<|zAh<|zAh<|zAf<|S_a [(1,.v (PV.bor 13 [(0,0)] 80 0 S.length))] (ap ((by simp):PV.bor 13 [(0,0)] 80 0 (List.map hdV S).length=PV.bor 13 [(0,0)] 80 0 S.length) an)<|zAd 1<|S_a [(1,.v (I ((↑S.length:Int)-2)))] (ap ((zDl rfl (by omega)):I (IntKind.i64.wrap ((↑S.length:Int)-2))=I ((↑S.length:Int)-2)) an)<|zAd 2<|zAa<|zAi 3 ?_
   have hS0:∀ r:Nat,r<S.length→(S.getD r []).length=80∧S.getD r []=zBh n cs r:=fun r hr=>by
    rw [hS,zKV (by omega)];exact ⟨zCe r,rfl⟩
   have hSm:((S.length:Nat):Int)-2=(j:Int)-1:=by omega
   generalize yM:bkL n cs c.toNat x j [h]=fin
   clear hS qD LG jl hm
   refine zAq (fun ((m:Int),(out:List Int))=>-1≤m∧m<j∧out.length≤20-m∧0<out.length∧(0≤out.getD 0 0∧out.getD 0 0<n.h)∧bkL n cs c.toNat x (m+1).toNat out=fin) (fun (m,out)=>[(14,.box (.own 1 (out.map I))),(15,.box (I m))]) (fun (m,_)=>(m+1).toNat) (((S.length:Nat):Int)-2,[h]) ⟨by omega,by omega,by simp only [List.length_cons,List.length_nil];omega,by simp,by simpa using hh,by rw [← yM];congr 1;omega⟩ fun (m,out) ⟨hm1,vS,ho1,ho2,ho3,gc⟩=>?_
   by_cases gI:0≤m
   ·have hA:=zVo n cs (out.getD 0 0) hn ho3
    obtain ⟨ui,uR⟩:=hS0 m.toNat (by omega)
    rw [show (m+1).toNat=m.toNat+1 by omega,bkL,← uR] at gc
    refine zAh<|zAc 2<|zAa<|zAU (m≥0) (by omega)<|zAk<|zAh<|zAi 4<|zU3<|zAh<|zUH (zAc 1<|S_a [(1,.v (PV.bor 14 [(0,0)] 1 0 out.length))] (ap ((by simp):PV.bor 14 [(0,0)] 1 0 (List.map I out).length=PV.bor 14 [(0,0)] 1 0 out.length) an)<|S_a [(2,.ob)] (ap ((by exact zAs (by omega)):decide (0<out.length)=true) an)<|S_a [(0,.cs false ([I (out.getD 0 0)]))] (ap (zDy (q:=PV.own 1 (List.map I out)) (xs:=List.map I out) (x:=I (out.getD 0 0)) (zLT (xs:=[PV.own 1 (List.map I out)]) (x:=PV.own 1 (List.map I out)) (y:=PV.own 1 (List.map I out)) rfl rfl) (zBJ (0) (by omega)):zAw 14 (PV.own 1 (List.map I out)).box [(0,0)] 0 0 1=some (false,[I (out.getD 0 0)])) an)<|S_a [(7,.ret (PV.func 169 [] [(zDL n cs).ref,(I (out.getD 0 0)).ref]) [])] (ap (f116 n cs (out.getD 0 0)) an)<|zAa<|zAi 5 ?_)
    refine zOj (t:=86) hA (fun i (_:Unit)=>∀ r,r<i→decide ((S.getD m.toNat []).getD ((zHF n (out.getD 0 0).toNat n.h.toNat).getD r 0*8+c.toNat) 0=x)=false) (fun _=>[]) () (fun r hr=>absurd hr (Nat.not_lt_zero r)) (fun i y _ hy hi=>?_) (fun _ hi=>?_)
    ·rw [List.getElem?_map] at hy
     obtain ⟨o,hmo,rfl⟩:=Option.map_eq_some_iff.1 hy
     have hol:o<n.h.toNat:=zQY (List.mem_of_getElem? hmo)
     refine zOB ?_
     refine zAf<|zAd 1<|zAa ?_
     have jW:(zHF n (out.getD 0 0).toNat n.h.toNat).getD i 0=o:=by rw [List.getD_eq_getElem?_getD,hmo];rfl
     refine ⟨rfl,by kernel_rfl,?_⟩
     refine zAi 6<|zAh<|zAf<|S_a [(1,.v (PV.bor 13 [(0,0)] 80 0 S.length))] (ap ((by simp):PV.bor 13 [(0,0)] 80 0 (List.map hdV S).length=PV.bor 13 [(0,0)] 80 0 S.length) an)<|zAd 3<|S_a [(0,.ob),(1,.ob),(1,.n m.toNat)] (ap ((by exact zAs (by omega)):decide (0≤m)=true)<|ap ((by exact zAs (by omega)):decide (m.toNat<S.length)=true)<|ap ((by simp):some (0+m.toNat)=some m.toNat) an)<|S_a [(2,.ob)] (ap ((by exact zAs (by omega)):decide (o<10)=true) an)<|S_a [(0,.ob),(1,.ob)] (ap ((by exact zAs (by omega)):decide (0≤c)=true)<|ap ((by exact zAs (by omega)):decide (c.toNat<8)=true) an)<|S_a [(0,.cs true ([I ((S.getD m.toNat []).getD (o*8+c.toNat) 0)]))] (ap (zDy (q:=PV.own 80 (List.map hdV S)) (xs:=List.map hdV S) (x:=PV.agg (zAS (S.getD m.toNat []) 80)) (zLT (xs:=[PV.own 80 (List.map hdV S)]) (x:=PV.own 80 (List.map hdV S)) (y:=PV.own 80 (List.map hdV S)) rfl rfl) (zBJ [] (by omega)) (zE1 (F:=S.getD m.toNat []) (m:=80) (j:=o*8+c.toNat) (by first | rfl | exact zBU (by kernel_rfl) | exact zBV (by kernel_rfl) | exact zDF (by kernel_rfl) (by kernel_rfl) | exact zDz (by kernel_rfl) | exact zDO (by kernel_rfl) (by kernel_rfl) | exact zDJ (by kernel_rfl) | (simp;done)) (by omega)):zAw 13 (PV.own 80 (List.map hdV S)).box [(0,0)] m.toNat (0+(↑o:Int).toNat*(fun x=>x.size) Tryz.prog.types[128]+c.toNat*(fun x=>x.size) Tryz.prog.types[3]) 1=some (true,[I ((S.getD m.toNat []).getD (o*8+c.toNat) 0)])) an)<|zAd 2<|zAa<|zB3 ((S.getD m.toNat []).getD (o*8+c.toNat) 0=x) (fun k2=>(zAc 2<|S_a [(1,.v (PV.bor 14 [(0,0)] 1 0 out.length))] (ap ((by simp):PV.bor 14 [(0,0)] 1 0 (List.map I out).length=PV.bor 14 [(0,0)] 1 0 out.length) an)<|S_a [(1,.ob),(0,.vs (List.map I out)),(0,.ob),(0,.ob),(0,.ob),(3,.ob)] (ap ((by exact zBi (by simp only [List.length_map,zzLn,zAY]<;>omega)):(0+out.length).ble (List.map I out).length=true)<|ap ((by simp [zD0]):List.take out.length (List.drop 0 (List.map I out))=List.map I out)<|ap ((by exact all_map _):((List.map I out).all fun x=>x.plain)=true)<|ap ((by exact all_map _):((List.map I out).all fun y=>y.cells.length.beq ((fun x=>x.size) Tryz.prog.types[3])&&y.cells.all fun q=>q.oneCell)=true)<|ap ((by exact List.isEmpty_iff.2 (zG9 _)):(zBn (List.map I out)).isEmpty=true)<|ap ((by exact zBi (by simp only [List.length_map,zzLn,zAY]<;>omega)):([I (↑o:Int)].length+(List.map I out).length).ble zAY=true) an)<|zAd 1<|zAa<|zAA 5 ?_)) (fun k2=>(zAk ?_))
     ·rw [zKD hmo (decide_eq_true (by assumption)) hi] at gc
      clear hi hmo hA
      refine ⟨by kernel_rfl,?_⟩
      refine zAh<|zAc 1<|zAa<|zAf<|zAd 2<|zAa<|zAf<|zAd 1<|S_a [(1,.v (I (m-1)))] (ap ((zDl rfl (by omega)):I (IntKind.i64.wrap (m-1))=I (m-1)) an)<|zAd 1<|zAa ?_
      exact ⟨(m-1,(o:Int)::out),⟨by omega,by omega,by simp only [List.length_cons];omega,by simp,by simp only [List.getD_cons_zero];omega,by rw [show (m-1+1).toNat=m.toNat by omega];exact gc⟩,by simp only;omega,by kernel_rfl,by kernel_rfl⟩
     ·refine ⟨by kernel_rfl,(),fun r hr=>?_,by kernel_rfl⟩
      rcases Nat.lt_succ_iff_lt_or_eq.1 hr with h | rfl
      ·exact hi r h
      ·rw [jW];exact decide_eq_false (by assumption)
    ·rw [zPL (by simpa using hi)] at gc
     clear hi hA
     show W _ _ _ _ _ _ _ _
     refine zAh<|zAc 1<|zAa<|zAf<|zAd 2<|zAa<|zAf<|zAd 1<|S_a [(1,.v (I (m-1)))] (ap ((zDl rfl (by omega)):I (IntKind.i64.wrap (m-1))=I (m-1)) an)<|zAd 1<|zAa ?_
     exact ⟨(m-1,out),⟨by omega,by omega,by omega,ho2,ho3,by rw [show (m-1+1).toNat=m.toNat by omega];exact gc⟩,by simp only;omega,by kernel_rfl,by kernel_rfl⟩
   ·have hm3:(m+1).toNat=0:=by omega
    rw [hm3,bkL] at gc
    rw [← gc]
    refine zAh<|zAc 2<|zAa<|zAT (m≥0) (by omega)<|zAA 3<|zAh<|zAf<|S_a [(1,.v (PV.bor 14 [(0,0)] 1 0 out.length))] (ap ((by simp):PV.bor 14 [(0,0)] 1 0 (List.map I out).length=PV.bor 14 [(0,0)] 1 0 out.length) an)<|S_a [(2,.yes)] (ap ((by exact zBu (by simp<;>omega)):(Nat.beq 0 0&&out.length.beq (List.map I out).length)=true) an)<|zAd 1<|zAa<|zAn<|E_a [(1,.yes),(1,.v (PV.own 1 (List.map I out)))] (ap (blz (List.map I out))<|ap ((zAW zAQ):PV.own 1 (List.take (List.map I out).length (List.drop 0 (List.map I out)))=PV.own 1 (List.map I out)) an) (PV.tup [PV.own 1 (List.map I out),I 0]) [] rfl rfl
end Go.Eng
set_option maxRecDepth 10000
set_option maxHeartbeats 4000000
namespace Go.Eng
open Go Go.Proofs
theorem f38_2 (n:Nw) (cs:List (Int×Int)) (h:Int) (x:Int) (ho:CrOk n cs) (hh:0≤h∧h<n.h) (hx:0≤x∧x<n.n.length) (hm:∀ j,j≤12→(zBh n cs j).getD (h.toNat*8+((zAl n).getD x.toNat 0).toNat) 0≠x):FG 38 [nwV n,prs cs,I h,I x] (.tup [.own 1 [],I 6]):=by
 have hn:=ho.nw
 have vE:=ho.w
 have hb:=hn.h
 have ub:=hn.nl
 have hin:inB x 0 (n.n.length-1)=true:=by simp only [inB,Bool.and_eq_true,decide_eq_true_eq];omega
 have hih:inB h 0 (n.h-1)=true:=by simp only [inB,Bool.and_eq_true,decide_eq_true_eq];omega
 have LF:=zB0 hn x.toNat (by omega)
 refine zAe Tryz.f38 ?_
 refine zAc 4<|zAa<|zAc 2<|S_a [(8,.ret (PV.tup [zDL n cs,I 0]) [])] (ap (f99_1 n cs (by omega)) an)<|zAd 5<|zAa<|zAh<|zAi 0<|zAc 3<|zAa<|zA0<|zAc 2<|S_a [(8,.ret (PV.bool (inB h 0 (n.h-1))) [])] (ap (f109 n h (by omega)) an)<|zAd 2<|zEi 32 (!inB h 0 (n.h-1)) (fun k0=>(zAd 6<|zAa<|zBR<|zAc 2<|zAa<|zAn<|E_a [] an (PV.tup [PV.own 1 [],I 1]) [] ?_ rfl)) (fun k0=>(zAd 2<|S_a [(8,.ret (PV.bool (inB x 0 ((↑n.n.length:Int)-1))) [])] (ap (f106 n x (by first | omega | (simp<;>omega))) an)<|zAd 3<|zAa<|zEb (!inB x 0 ((↑n.n.length:Int)-1)) (fun k1=>(zAc 2<|zAa<|zAn<|E_a [] an (PV.tup [PV.own 1 [],I 1]) [] ?_ rfl)) (fun k1=>(zAk<|zAc 4<|S_a [(0,.ob),(1,.ob),(0,.v ((I ((zAl n).getD x.toNat 0)).ref))] (ap ((by exact zAs (by omega)):decide (0≤x)=true)<|ap ((by exact zAs (by omega)):decide (x.toNat<8)=true)<|ap (zGw (F:=zAl n) (m:=8) (j:=x.toNat) (by omega):zCd (PV.agg (zAS (zAl n) 8)).ref (x.toNat*(fun x=>x.size) Tryz.prog.types[3]) none=some (I ((zAl n).getD x.toNat 0)).ref) an)<|zAd 3<|zAa<|zAc 1<|S_a [(5,.ret (hdV (zOL n cs)) [])] (ap (f100 n cs (by omega)) an)<|zAd 3<|zAa<|zAh<|zAi 1 ?_))))
 ·exact absurd (by assumption:(!inB h 0 (n.h-1))=true) (by rw [hih];simp)
 ·exact absurd (by assumption:(!inB x 0 (n.n.length-1))=true) (by rw [hin];simp)
 ·generalize hc:((zAl n).getD x.toNat 0)=c at *
  refine zAq (fun (j,S)=>j≤12∧S=zQ8 n cs (j+1)) (fun (j,S)=>[(13,zUo S)]) (fun (j,_)=>12-j) ((0:Nat),[zOL n cs]) ⟨by omega,rfl⟩ fun (j,S) ⟨hj,hS⟩=>?_
  have gZ:S.length=j+1:=by rw [hS];simp [zQ8]
  have qD:S.getD (S.length-1) []=zBh n cs j:=by rw [gZ,hS];exact zKV (by omega)
  have LG:(S.getD (S.length-1) []).length=80:=by rw [qD];exact zCe j
  have hI:=hm j hj
  rw [← qD] at hI
  have hSS:S++[zC2 n (S.getD (S.length-1) [])]=zQ8 n cs (j+1+1):=by rw [zMu (k:=j+1),← hS,qD];rfl
  by_cases qi:j<12
  ·refine zAh<|zAh<|zAf<|S_a [(1,.v (PV.bor 13 [(0,0)] 80 0 S.length))] (ap ((by simp):PV.bor 13 [(0,0)] 80 0 (List.map hdV S).length=PV.bor 13 [(0,0)] 80 0 S.length) an)<|S_a [(1,.v (PV.bor 13 [(0,0)] 80 0 S.length))] (ap ((by simp):PV.bor 13 [(0,0)] 80 0 (List.map hdV S).length=PV.bor 13 [(0,0)] 80 0 S.length) an)<|zAd 1<|S_a [(1,.v (I (↑(S.length-1):Int)))] (ap ((zDl (by omega) (by omega)):I (IntKind.i64.wrap ((↑S.length:Int)-1))=I (↑(S.length-1):Int)) an)<|zAd 2<|S_a [(2,.ob),(1,.n (S.length-1))] (ap ((by exact zAs (by omega)):decide (S.length-1<S.length)=true)<|ap ((by simp):some (0+(S.length-1))=some (S.length-1)) an)<|S_a [(0,.ob),(1,.ob)] (ap ((by exact zAs (by omega)):decide (0≤h)=true)<|ap ((by exact zAs (by omega)):decide (h.toNat<10)=true) an)<|S_a [(0,.ob),(1,.ob)] (ap ((by exact zAs (by omega)):decide (0≤c)=true)<|ap ((by exact zAs (by omega)):decide (c.toNat<8)=true) an)<|S_a [(0,.cs true ([I ((S.getD (S.length-1) []).getD (h.toNat*8+c.toNat) 0)]))] (ap (zDy (q:=PV.own 80 (List.map hdV S)) (xs:=List.map hdV S) (x:=PV.agg (zAS (S.getD (S.length-1) []) 80)) (zLT (xs:=[PV.own 80 (List.map hdV S)]) (x:=PV.own 80 (List.map hdV S)) (y:=PV.own 80 (List.map hdV S)) rfl rfl) (zBJ [] (by omega)) (zE1 (F:=S.getD (S.length-1) []) (m:=80) (j:=h.toNat*8+c.toNat) (by first | rfl | exact zBU (by kernel_rfl) | exact zBV (by kernel_rfl) | exact zDF (by kernel_rfl) (by kernel_rfl) | exact zDz (by kernel_rfl) | exact zDO (by kernel_rfl) (by kernel_rfl) | exact zDJ (by kernel_rfl) | (simp;done)) (by omega)):zAw 13 (PV.own 80 (List.map hdV S)).box [(0,0)] (S.length-1) (0+h.toNat*(fun x=>x.size) Tryz.prog.types[128]+c.toNat*(fun x=>x.size) Tryz.prog.types[3]) 1=some (true,[I ((S.getD (S.length-1) []).getD (h.toNat*8+c.toNat) 0)])) an)<|zAd 2<|zAa<|zD8 ((S.getD (S.length-1) []).getD (h.toNat*8+c.toNat) 0=x) (by omega)<|zAk<|zAi 2<|zAh<|zAh<|zAf<|S_a [(1,.v (PV.bor 13 [(0,0)] 80 0 S.length))] (ap ((by simp):PV.bor 13 [(0,0)] 80 0 (List.map hdV S).length=PV.bor 13 [(0,0)] 80 0 S.length) an)<|zAd 2<|zAa<|zAT ((↑S.length:Int)>12) (by omega)<|zAk<|zAf<|S_a [(1,.v (PV.bor 13 [(0,0)] 80 0 S.length))] (ap ((by simp):PV.bor 13 [(0,0)] 80 0 (List.map hdV S).length=PV.bor 13 [(0,0)] 80 0 S.length) an)<|zAd 1<|S_a [(1,.v (PV.bor 13 [(0,0)] 80 0 S.length))] (ap ((by simp):PV.bor 13 [(0,0)] 80 0 (List.map hdV S).length=PV.bor 13 [(0,0)] 80 0 S.length) an)<|S_a [(1,.v (PV.bor 13 [(0,0)] 80 0 S.length))] (ap ((by simp):PV.bor 13 [(0,0)] 80 0 (List.map hdV S).length=PV.bor 13 [(0,0)] 80 0 S.length) an)<|zAd 1<|S_a [(1,.v (I (↑(S.length-1):Int)))] (ap ((zDl (by omega) (by omega)):I (IntKind.i64.wrap ((↑S.length:Int)-1))=I (↑(S.length-1):Int)) an)<|S_a [(2,.ob),(1,.n (S.length-1))] (ap ((by exact zAs (by omega)):decide (S.length-1<S.length)=true)<|ap ((by simp):some (0+(S.length-1))=some (S.length-1)) an)<|S_a [(0,.cs true (zAS (S.getD (S.length-1) []) 80))] (ap (zDy (q:=PV.own 80 (List.map hdV S)) (xs:=List.map hdV S) (x:=PV.agg (zAS (S.getD (S.length-1) []) 80)) (zLT (xs:=[PV.own 80 (List.map hdV S)]) (x:=PV.own 80 (List.map hdV S)) (y:=PV.own 80 (List.map hdV S)) rfl rfl) (zBJ [] (by omega)):zAw 13 (PV.own 80 (List.map hdV S)).box [(0,0)] (S.length-1) 0 Tryz.prog.types[130].size=some (true,zAS (S.getD (S.length-1) []) 80)) an)<|S_a [(7,.ret (hdV (zC2 n (S.getD (S.length-1) []))) [])] (ap (f101 n cs (S.getD (S.length-1) []) (by omega) (by omega)) an)<|zAd 1<|S_a [(4,.ob),(0,.ob),(0,.yes),(2,.v (PV.own 80 (List.map hdV (S++[zC2 n (S.getD (S.length-1) [])]))))] (ap ((by exact zBi (by simp only [List.length_map,zzLn,zAY]<;>omega)):(0+S.length).ble (List.map hdV S).length=true)<|ap ((by exact zBi (by simp only [List.length_map,zzLn,zAY]<;>omega)):((List.map hdV S).length + [PV.agg (zAS (zC2 n (S.getD (S.length-1) [])) 80)].length).ble zAY=true)<|ap ((by exact zBu (by simp<;>omega)):(0+S.length).beq (List.map hdV S).length=true)<|ap ((zAW (zCI (by kernel_rfl))):PV.own 80 (List.map hdV S++[PV.agg (zAS (zC2 n (S.getD (S.length-1) [])) 80)])=PV.own 80 (List.map hdV (S++[zC2 n (S.getD (S.length-1) [])]))) an)<|zAd 1<|zAa ?_
   exact ⟨(j+1,S++[zC2 n (S.getD (S.length-1) [])]),⟨by omega,hSS⟩,by simp only;omega,by kernel_rfl,by kernel_rfl⟩
  ·refine zAh<|zAh<|zAf<|S_a [(1,.v (PV.bor 13 [(0,0)] 80 0 S.length))] (ap ((by simp):PV.bor 13 [(0,0)] 80 0 (List.map hdV S).length=PV.bor 13 [(0,0)] 80 0 S.length) an)<|S_a [(1,.v (PV.bor 13 [(0,0)] 80 0 S.length))] (ap ((by simp):PV.bor 13 [(0,0)] 80 0 (List.map hdV S).length=PV.bor 13 [(0,0)] 80 0 S.length) an)<|zAd 1<|S_a [(1,.v (I (↑(S.length-1):Int)))] (ap ((zDl (by omega) (by omega)):I (IntKind.i64.wrap ((↑S.length:Int)-1))=I (↑(S.length-1):Int)) an)<|zAd 2<|S_a [(2,.ob),(1,.n (S.length-1))] (ap ((by exact zAs (by omega)):decide (S.length-1<S.length)=true)<|ap ((by simp):some (0+(S.length-1))=some (S.length-1)) an)<|S_a [(0,.ob),(1,.ob)] (ap ((by exact zAs (by omega)):decide (0≤h)=true)<|ap ((by exact zAs (by omega)):decide (h.toNat<10)=true) an)<|S_a [(0,.ob),(1,.ob)] (ap ((by exact zAs (by omega)):decide (0≤c)=true)<|ap ((by exact zAs (by omega)):decide (c.toNat<8)=true) an)<|S_a [(0,.cs true ([I ((S.getD (S.length-1) []).getD (h.toNat*8+c.toNat) 0)]))] (ap (zDy (q:=PV.own 80 (List.map hdV S)) (xs:=List.map hdV S) (x:=PV.agg (zAS (S.getD (S.length-1) []) 80)) (zLT (xs:=[PV.own 80 (List.map hdV S)]) (x:=PV.own 80 (List.map hdV S)) (y:=PV.own 80 (List.map hdV S)) rfl rfl) (zBJ [] (by omega)) (zE1 (F:=S.getD (S.length-1) []) (m:=80) (j:=h.toNat*8+c.toNat) (by first | rfl | exact zBU (by kernel_rfl) | exact zBV (by kernel_rfl) | exact zDF (by kernel_rfl) (by kernel_rfl) | exact zDz (by kernel_rfl) | exact zDO (by kernel_rfl) (by kernel_rfl) | exact zDJ (by kernel_rfl) | (simp;done)) (by omega)):zAw 13 (PV.own 80 (List.map hdV S)).box [(0,0)] (S.length-1) (0+h.toNat*(fun x=>x.size) Tryz.prog.types[128]+c.toNat*(fun x=>x.size) Tryz.prog.types[3]) 1=some (true,[I ((S.getD (S.length-1) []).getD (h.toNat*8+c.toNat) 0)])) an)<|zAd 2<|zAa<|zD8 ((S.getD (S.length-1) []).getD (h.toNat*8+c.toNat) 0=x) (by omega)<|zAk<|zAi 2<|zAh<|zAh<|zAf<|S_a [(1,.v (PV.bor 13 [(0,0)] 80 0 S.length))] (ap ((by simp):PV.bor 13 [(0,0)] 80 0 (List.map hdV S).length=PV.bor 13 [(0,0)] 80 0 S.length) an)<|zAd 2<|zAa<|zAU ((↑S.length:Int)>12) (by omega)<|zAc 2<|zAa<|zAn<|E_a [] an (PV.tup [PV.own 1 [],I 6]) [] rfl rfl
end Go.Eng
set_option maxRecDepth 100000
set_option maxHeartbeats 4000000
namespace Go.Eng
open Go Go.Proofs
theorem zUp:FG 83 [] (.tup [nwO zDQ,.own 2 (zFg.map prV)]):=zAp.closed 20
theorem zSu:FG 22 [nwV zDQ,prs zFg,I 1] (.tup [.own 2 [.agg [I 2,I 0],.agg [I 3,I 0]],I 0]):=by
 have:=f22_1 zDQ zFg 1 (zSX (by decide +kernel))
 rw [zO1] at this;exact this
theorem zNB:FG 29 [nwV zDQ,prs zFg] (.tup [I 3,I 0]):=f29_1 zDQ zFg 3 zJ8 (by decide) (by decide +kernel) (by decide +kernel)
theorem zTk:FG 38 [nwV zDQ,prs zFg,I 2,I 0] (.tup [.own 1 [I 3,I 2],I 0]):=by
 have:=f38_1 zDQ zFg 2 0 1 zJ8 (by decide) (by decide) (by decide) (by decide +kernel) (by decide +kernel)
 rw [show bkL zDQ zFg ((zAl zDQ).getD (0:Int).toNat 0).toNat 0 1 [2]=[3,2] from by decide +kernel] at this;exact this
theorem zV4:FG 38 [nwV zDQ,prs zFg,I 1,I 0] (.tup [.own 1 [],I 6]):=f38_2 zDQ zFg 1 0 zJ8 (by decide) (by decide) (by decide +kernel)
theorem zQ2:FG 31 [nwV zDQ,prs zFg] (.tup [I 3,I 0]):=by
 have:=f31_1 zDQ zFg zJ8
 rw [if_pos (show zBS zDQ (zBh zDQ zFg 12)=[] from by decide +kernel),if_pos (show zBS zDQ (zBh zDQ zFg 12)=[] from by decide +kernel),show zVu zDQ zFg 12=3 from by decide +kernel] at this;exact this
theorem zPB:FG 26 [nwV zDQ,prs zFg,I 0] (.tup [.own 1 [I 3],I 0]):=by
 have:=f26_1 zDQ zFg 0 (zSX (by decide +kernel))
 rw [show zGE (msl zDQ (zBS zDQ (zBh zDQ zFg (0:Int).toNat)))=[3] from by decide +kernel] at this;exact this
theorem zQL:FG 86 [nwV zDQ] (.tup [.own 1 [],I 0]):=by
 have:=f86_1 zDQ zT7
 rw [show zFv (zSt zDQ) zDQ.n.length=[] from by decide +kernel] at this;exact this
theorem f17:FG 17 [] (.bool true):=by
 have h1:=zUp
 have h2:=zSu
 have h3:=zNB
 have h4:=zTk
 have h5:=zV4
 have h6:=zPP
 have h7:=zQ2
 have h8:=zPB
 have h9:=zQL
 have l1:FG 78 [.sl [.agg [I 2,I 0],.agg [I 3,I 0]],.sl [.agg [I 2,I 0],.agg [I 3,I 0]]] (.bool true):=f78 [(2,0),(3,0)] [(2,0),(3,0)] (by decide)
 have l2:FG 28 [.sl [I 3,I 2],.sl [I 3,I 2]] (.bool true):=f28 [3,2] [3,2] (by decide)
 have l3:FG 34 [.sl [.agg [I 1,I 1]],.sl [.agg [I 1,I 1]]] (.bool true):=f34 [(1,1)] [(1,1)] (by decide)
 have l4:FG 28 [.sl [I 3],.sl [I 3]] (.bool true):=f28 [3] [3] (by decide)
 refine zAe Tryz.f17 ?_
 refine zAc 1<|zAa<|zAh<|zAf<|S_a [(4,.ret (PV.tup [nwO zDQ,PV.own 2 (List.map prV zFg)]) [])] (ap h1 an)<|zAd 6<|zAa<|zAc 2<|S_a [(21,.ret (PV.tup [PV.own 2 [PV.agg [I 2,I 0],PV.agg [I 3,I 0]],I 0]) [])] (ap h2 an)<|zAd 5<|zAa<|zAc 2<|S_a [(19,.ret (PV.tup [I 3,I 0]) [])] (ap h3 an)<|zAd 5<|zAa<|zAc 2<|S_a [(23,.ret (PV.tup [PV.own 1 [I 3,I 2],I 0]) [])] (ap h4 an)<|zAd 5<|zAa<|zAc 2<|S_a [(23,.ret (PV.tup [PV.own 1 [],I 6]) [])] (ap h5 an)<|zAd 5<|zAa<|zAh<|zAc 19<|S_a [(10,.ret (PV.bool true) [])] (ap l1 an)<|zAd 9<|S_a [(10,.ret (PV.bool true) [])] (ap l2 an)<|zAd 2<|zAa<|zA0<|zAk<|zAc 3<|S_a [(24,.ret (PV.tup [PV.own 2 [PV.agg [I 1,I 1]],I 0]) [])] (ap h6 an)<|zAd 5<|zAa<|zAc 2<|S_a [(19,.ret (PV.tup [I 3,I 0]) [])] (ap h7 an)<|zAd 5<|zAa<|zAc 2<|S_a [(21,.ret (PV.tup [PV.own 1 [I 3],I 0]) [])] (ap h8 an)<|zAd 5<|zAa<|zAc 1<|S_a [(16,.ret (PV.tup [PV.own 1 [],I 0]) [])] (ap h9 an)<|zAd 5<|zAa<|zAc 18<|S_a [(10,.ret (PV.bool true) [])] (ap l3 an)<|zAd 8<|S_a [(10,.ret (PV.bool true) [])] (ap l4 an)<|zAd 3<|zAd 4<|zAa<|zAn<|E_a [] an (PV.bool true) [] rfl rfl
end Go.Eng
namespace Go.Eng
open Go Go.Proofs
theorem zGK {n:Nw} (ho:NwOk n) (j:Nat):∀ i,j<i→i≤n.n.length→(zO2 n.n i).getD j 0=(zO2 n.n (j+1)).getD j 0
 | 0,h,_=>absurd h (Nat.not_lt_zero j)
 | i + 1,h,hi=>by
  have h8:=ho.nl.2
  by_cases hj:j=i
  ·subst hj;rfl
  ·rw [zO2,zJA (zGT i) (by omega) (ho.na i (by omega)),if_neg hj]
   exact zGK ho j i (by omega) (by omega)
theorem zMV {n:Nw} (ho:NwOk n) {i:Nat} (hi:i<n.n.length):(zAl n).getD i 0=if (n.n.getD i default).1 = -1 then (i:Int) else (zAl n).getD (n.n.getD i default).1.toNat 0:=by
 have h8:=ho.nl.2
 have ha:=ho.na i hi
 unfold zAl
 rw [zGK ho i n.n.length hi (Nat.le_refl _),zO2,zJA (zGT i) (by omega) ha,if_pos rfl]
 split
 ·rfl
 ·rename_i hI
  rw [zGK ho (n.n.getD i default).1.toNat i (by omega) (by omega),zGK ho (n.n.getD i default).1.toNat n.n.length (by omega) (Nat.le_refl _)]
def chn (n:Nw) (i j:Nat):Prop:=(zAl n).getD i 0=(zAl n).getD j 0
theorem zOn {n:Nw} (ho:NwOk n):∀ (j i:Nat),i<j→j<n.n.length→chn n i j→∃ k,i<k∧k≤j∧k<n.n.length∧(n.n.getD k default).1=i∧chn n k j:=by
 intro j
 induction j using Nat.strongRecOn with
 | ind j ih =>
  intro i qh hj hc
  have ha:=ho.na j hj
  have hr:=zMV ho hj
  have uP:=zB0 ho i (by omega)
  by_cases h:(n.n.getD j default).1 = -1
  ·rw [if_pos h] at hr
   unfold chn at hc
   omega
  ·rw [if_neg h] at hr
   by_cases he:(n.n.getD j default).1=(i:Int)
   ·exact ⟨j,qh,Nat.le_refl _,hj,he,rfl⟩
   ·by_cases yF:(i:Int)<(n.n.getD j default).1
    ·obtain ⟨k,h1,h2,h3,h4,h5⟩:=ih (n.n.getD j default).1.toNat (by omega) i (by omega) (by omega) (by unfold chn at hc ⊢;rw [hc,hr])
     exact ⟨k,h1,by omega,h3,h4,by unfold chn at h5 ⊢;rw [h5,hr]⟩
    ·
     exfalso
     obtain ⟨k,h1,h2,h3,h4,_⟩:=ih i qh (n.n.getD j default).1.toNat (by omega) (by omega) (by unfold chn at hc ⊢;rw [← hr,hc])
     exact ho.nd j k (by omega) hj h (by rw [h4];omega)
end Go.Eng
set_option maxRecDepth 10000
set_option maxHeartbeats 4000000
namespace Go.Eng
open Go Go.Proofs
def zNl (n:Nw) (x:Int):Int:=zEF (fun y=>decide (y.1=x)) n.n
theorem f143 (n:Nw) (x:Int) (hl:n.n.length<1000000):FG 143 [nwV n,I x] (I (zNl n x)):=by
 refine zAe Tryz.f143 ?_
 refine zAc 2<|zAa<|zAh<|zAc 1<|zAa<|zAi 0 ?_
 refine zAq (fun i=>i≤n.n.length∧∀ j,j<i→decide ((n.n.getD j default).1=x)=false) (fun (i:Nat)=>[(5,I (i:Nat))]) (fun i=>n.n.length-i) (0:Nat) ⟨by omega,fun j hj=>absurd hj (Nat.not_lt_zero j)⟩ fun i ⟨hi,ha⟩=>?_
 refine zAh<|zAc 3<|S_a [(0,.n n.n.length)] (ap (lnS ntV n.n) an)<|zAd 1<|zAa<|zB3 ((↑i:Int)<(↑n.n.length:Int)) (fun k0=>(zAk<|zAh<|zAi 1<|zAc 3<|S_a [(2,.v (PV.agg [I (n.n.getD i default).fst,PV.bool (n.n.getD i default).snd]))] (ap (zBJ default (by omega):(List.map ntV n.n)[i]? = some (PV.agg [I (n.n.getD i default).fst,PV.bool (n.n.getD i default).snd])) an)<|zAd 4<|zAa<|zB3 ((n.n.getD i default).fst=x) (fun k1=>(zAc 2<|zAa<|zAn<|E_a [] an (I (↑i:Int)) [] ?_ rfl)) (fun k1=>(zAk<|zAf<|zAd 1<|S_a [(1,.v (I (↑(i+1):Int)))] (ap (wrN i) an)<|zAd 1<|zAa ?_)))) (fun k0=>(zAA 0<|zAc 1<|zAa<|zAn<|E_a [] an (I (-1)) [] ?_ rfl))
 ·rw [zNl,zBX (i:=i) (by omega) (fun j hj=>by rw [← zAt (d:=default)];exact ha j hj) (by rw [← zAt (d:=default)];exact decide_eq_true (by assumption))]
 ·refine ⟨i+1,⟨by omega,fun j hj=>?_⟩,by omega,by kernel_rfl,by kernel_rfl⟩
  rcases Nat.lt_succ_iff_lt_or_eq.1 hj with h | rfl
  ·exact ha j h
  ·exact decide_eq_false (by assumption)
 ·rw [zNl,zCn fun j hj=>by rw [← zAt (d:=default)];exact ha j (by omega)]
def zTX (a b:Int) (x:Int×Int):Bool:=decide (x.1=a∧x.2=b∨x.1=b∧x.2=a)
def zRf (n:Nw) (a b:Int):Bool:=n.l.any (zTX a b)
theorem zON {a b:Int} {x:Int×Int}:pr2 x=pr2 (a,b)↔x.1=a∧x.2=b∨x.1=b∧x.2=a:=by
 obtain ⟨c,d⟩:=x
 simp only [pr2,Prod.mk.injEq]
 constructor
 ·rintro ⟨h1,h2⟩
  repeat' split at h1
  all_goals (repeat' split at h2)
  all_goals omega
 ·intro h
  constructor
  ·repeat' split
   all_goals omega
  ·repeat' split
   all_goals omega
theorem zVq {n:Nw} {a b:Int}:zRf n a b=zF6 n a b:=by
 rw [Bool.eq_iff_iff]
 simp only [zRf,zF6,List.any_eq_true,zTX,decide_eq_true_eq,List.mem_map]
 constructor
 ·rintro ⟨x,hx,h⟩;exact ⟨x,hx,zON.2 h⟩
 ·rintro ⟨x,hx,h⟩;exact ⟨x,hx,zON.1 h⟩
theorem f114 (n:Nw) (a b:Int) (hl:n.l.length<1000000):FG 114 [nwV n,I a,I b] (.bool (zF6 n a b)):=by
 rw [← zVq]
 refine zAe Tryz.f114 ?_
 refine zAc 2<|zAa<|zAh<|zAc 1<|zAa<|zAi 0 ?_
 refine zAq (fun i=>i≤n.l.length∧∀ j,j<i→zTX a b (n.l.getD j default)=false) (fun (i:Nat)=>[(7,I (i:Nat))]) (fun i=>n.l.length-i) (0:Nat) ⟨by omega,fun j hj=>absurd hj (Nat.not_lt_zero j)⟩ fun i ⟨hi,ha⟩=>?_
 by_cases yI:i<n.l.length
 ·have yK:zTX a b (n.l.getD i default)=false→∀ j,j<i+1→zTX a b (n.l.getD j default)=false:=fun h j hj=>by
   rcases Nat.lt_succ_iff_lt_or_eq.1 hj with h2 | rfl
   ·exact ha j h2
   ·exact h
  have wK:zTX a b (n.l.getD i default)=true→zRf n a b=true:=fun h=>by
   rw [zAt yI] at h
   exact List.any_eq_true.2 ⟨_,List.getElem_mem yI,h⟩
  clear ha
  refine zAh<|zAc 3<|S_a [(0,.n n.l.length)] (ap (lnS prV n.l) an)<|zAd 1<|zAa<|zAU ((↑i:Int)<(↑n.l.length:Int)) (by omega)<|zAk<|zAh<|zAi 1<|zAc 3<|S_a [(2,.v (PV.agg [I (n.l.getD i default).fst,I (n.l.getD i default).snd]))] (ap (zBJ default (by omega):(List.map prV n.l)[i]? = some (PV.agg [I (n.l.getD i default).fst,I (n.l.getD i default).snd])) an)<|zAd 3<|zAa<|zAc 1<|zAd 4<|zEM 25 ((n.l.getD i default).fst=a) (fun k0=>(zAd 1<|zAd 5<|zEM 31 ((n.l.getD i default).snd=b) (fun k1=>(zAd 11<|zAa<|zBR<|zAc 1<|zAa<|zAn<|E_a [] an (PV.bool true) [] ?_ rfl)) (fun k1=>(zAd 1<|zAd 4<|zEM 36 ((n.l.getD i default).fst=b) (fun k2=>(zAd 1<|zAd 5<|zAa<|zAT ((n.l.getD i default).snd=a) (by omega)<|zAk<|zAf<|zAd 1<|S_a [(1,.v (I (↑(i+1):Int)))] (ap (wrN i) an)<|zAd 1<|zAa ?_)) (fun k2=>(zAd 6<|zAa<|zA0<|zAk<|zAf<|zAd 1<|S_a [(1,.v (I (↑(i+1):Int)))] (ap (wrN i) an)<|zAd 1<|zAa ?_)))))) (fun k0=>(zAd 6<|zAd 1<|zAd 4<|zEM 36 ((n.l.getD i default).fst=b) (fun k3=>(zAd 1<|zAd 5<|zAa<|zB3 ((n.l.getD i default).snd=a) (fun k4=>(zAc 1<|zAa<|zAn<|E_a [] an (PV.bool true) [] ?_ rfl)) (fun k4=>(zAk<|zAf<|zAd 1<|S_a [(1,.v (I (↑(i+1):Int)))] (ap (wrN i) an)<|zAd 1<|zAa ?_)))) (fun k3=>(zAd 6<|zAa<|zA0<|zAk<|zAf<|zAd 1<|S_a [(1,.v (I (↑(i+1):Int)))] (ap (wrN i) an)<|zAd 1<|zAa ?_))))
  all_goals first | (rw [wK (by simp only [zTX,decide_eq_true_eq];omega)];done) | exact ⟨i+1,⟨by omega,yK (by simp only [zTX,decide_eq_false_iff_not];omega)⟩,by omega,by kernel_rfl,by kernel_rfl⟩
 ·refine zAh<|zAc 3<|S_a [(0,.n n.l.length)] (ap (lnS prV n.l) an)<|zAd 1<|zAa<|zAT ((↑i:Int)<(↑n.l.length:Int)) (by omega)<|zAA 0<|zAc 1<|zAa<|zAn<|E_a [] an (PV.bool false) [] ?_ rfl
  have:zRf n a b=false:=by
   simp only [zRf,List.any_eq_false,Bool.not_eq_true]
   intro x hx
   obtain ⟨j,hj,rfl⟩:=List.getElem_of_mem hx
   have:=ha j (by omega)
   rwa [zAt hj] at this
  rw [this]
end Go.Eng
set_option maxRecDepth 10000
set_option maxHeartbeats 4000000
namespace Go.Eng
open Go Go.Proofs
abbrev bls (l:List Bool):PV := .sl (l.map PV.bool)
abbrev knV (K:List (List Bool)):PV := .sl (K.map bls)
def kn (K:List (List Bool)) (h i:Nat):Bool:=(K.getD h []).getD i false
structure RelK (n:Nw) (K:List (List Bool)) (w:List Int):Prop where
 len:K.length=n.h.toNat
 row:∀ r∈K,r.length=n.n.length
 wl:w.length=80
 top:∀ h i,h<n.h.toNat→i<n.n.length→kn K h i=true→(i:Int)≤w.getD (h*8+((zAl n).getD i 0).toNat) 0
 at_:∀ h c,h<n.h.toNat→c<8→w.getD (h*8+c) 0 = -1∨∃ i,i<n.n.length∧(zAl n).getD i 0=c∧w.getD (h*8+c) 0=i∧kn K h i=true
def hld (n:Nw) (w:List Int) (h i:Nat):Bool:=decide (w.getD (h*8+((zAl n).getD i 0).toNat) 0=i)
theorem zTo {n:Nw} {x:Int} (h:zNl n x≠-1):∃ k:Nat,zNl n x=k∧k<n.n.length∧(n.n.getD k default).1=x:=by
 unfold zNl zEF at h ⊢
 split
 ·rename_i yF
  have hp:=List.findIdx_getElem (w:=yF)
  exact ⟨_,rfl,yF,by rw [zAt yF];simpa using hp⟩
 ·rename_i hn;rw [if_neg hn] at h;exact absurd rfl h
theorem zTg {n:Nw} {x:Int} (h:zNl n x = -1) (k:Nat) (hk:k<n.n.length):(n.n.getD k default).1≠x:=by
 have h2:=zD1 (fun y:Int×Bool=>decide (y.1=x)) n.n
 unfold zNl at h
 rw [h] at h2
 intro he
 have:(n.n.any fun y=>decide (y.1=x))=true:=List.any_eq_true.2 ⟨_,List.getElem_mem hk,by rw [zAt hk] at he;simpa using he⟩
 rw [this] at h2;cases h2
theorem zUK {n:Nw} (ho:NwOk n) {i k:Nat} (hk:k<n.n.length) (h:(n.n.getD k default).1=i):i<k∧chn n k i:=by
 have ha:=ho.na k hk
 have hr:=zMV ho hk
 refine ⟨by omega,?_⟩
 rw [if_neg (by omega),h,Int.toNat_natCast] at hr
 exact hr
theorem zSR {n:Nw} (ho:NwOk n) {a b:Nat} {x:Int} (hx:0≤x) (ha:a<n.n.length) (hb:b<n.n.length) (h1:(n.n.getD a default).1=x) (h2:(n.n.getD b default).1=x):a=b:=by
 by_cases h:a=b
 ·exact h
 ·exfalso
  by_cases yF:a<b
  ·exact ho.nd b a yF hb (by omega) (by rw [h1,h2])
  ·exact ho.nd a b (by omega) ha (by omega) (by rw [h1,h2])
theorem zOS {n:Nw} (ho:NwOk n) {i:Nat} (hi:i<n.n.length):(zNl n i = -1∧∀ k,k<n.n.length→chn n k i→¬ i<k)∨∃ m:Nat,zNl n i=m∧i<m∧m<n.n.length∧chn n m i∧∀ k,k<n.n.length→chn n k i→i<k→m≤k:=by
 by_cases h:zNl n i = -1
 ·left
  refine ⟨h,fun k hk hc wL=>?_⟩
  obtain ⟨j,_,_,h3,h4,_⟩:=zOn ho k i wL hk hc.symm
  exact zTg h j h3 h4
 ·right
  obtain ⟨m,h1,h2,h3⟩:=zTo h
  obtain ⟨h4,h5⟩:=zUK ho h2 h3
  refine ⟨m,h1,h4,h2,h5,fun k hk hc wL=>?_⟩
  obtain ⟨j,g1,g2,g3,g4,_⟩:=zOn ho k i wL hk hc.symm
  have:=zSR ho (by omega) h2 g3 h3 g4
  omega
theorem zWq {n:Nw} {K:List (List Bool)} {w:List Int} {h i:Nat} (ho:NwOk n) (hr:RelK n K w) (hh:h<n.h.toNat) (hi:i<n.n.length) (h1:kn K h i=true) (h2:∀ k,k<n.n.length→chn n k i→i<k→kn K h k=false):hld n w h i=true:=by
 have LF:=zB0 ho i hi
 have ub:=ho.nl.2
 have ht:=hr.top h i hh hi h1
 rcases hr.at_ h ((zAl n).getD i 0).toNat hh (by omega) with h3 | ⟨j,g1,g2,g3,g4⟩
 ·omega
 ·by_cases hj:j=i
  ·subst hj;simpa only [hld,decide_eq_true_eq] using g3
  ·have:=h2 j g1 (by unfold chn;omega) (by omega)
   rw [this] at g4;cases g4
theorem zTq {n:Nw} {K:List (List Bool)} {w:List Int} {h i:Nat} (ho:NwOk n) (hr:RelK n K w) (hh:h<n.h.toNat) (hi:i<n.n.length) (h1:kn K h i=false∨∃ k,k<n.n.length∧chn n k i∧i<k∧kn K h k=true):hld n w h i=false:=by
 have LF:=zB0 ho i hi
 have ub:=ho.nl.2
 simp only [hld,decide_eq_false_iff_not]
 intro he
 rcases h1 with h1 | ⟨k,g1,g2,g3,g4⟩
 ·rcases hr.at_ h ((zAl n).getD i 0).toNat hh (by omega) with h3 | ⟨j,g1,g2,g3,g4⟩
  ·omega
  ·have:j=i:=by omega
   subst this;rw [h1] at g4;cases g4
 ·have:=hr.top h k hh g1 g4
  unfold chn at g2
  rw [g2] at this;omega
theorem zXT (n:Nw) (K:List (List Bool)) (w:List Int) (h i:Nat) (ho:NwOk n) (hr:RelK n K w) (hh:h<n.h.toNat) (hi:i<n.n.length):FG 113 [nwV n,knV K,I h,I i] (.bool (hld n w h i)):=by
 have ub:=ho.nl.2
 have uM:=hr.len
 have yC:(K.getD h []).length=n.n.length:=zBK (d:=[]) hr.row h (by omega)
 refine zAe Tryz.f113 ?_
 have jk:=zOS ho hi
 refine zAc 2<|zAa<|zAh<|zAc 2<|S_a [(2,.v (PV.sl (List.map PV.bool (K.getD h []))))] (ap (zBJ [] (by omega):(List.map bls K)[h]? = some (PV.sl (List.map PV.bool (K.getD h [])))) an)<|zAd 2<|S_a [(2,.v (PV.bool ((K.getD h []).getD i false)))] (ap (zBJ false (by omega):(List.map PV.bool (K.getD h []))[i]? = some (PV.bool ((K.getD h []).getD i false))) an)<|zAd 2<|zAa<|zEb (!(K.getD h []).getD i false) (fun k0=>(zAc 1<|zAa<|zAn<|E_a [] an (PV.bool false) [] ?_ rfl)) (fun k0=>(zAk<|zAh<|zAc 2<|S_a [(8,.ret (I (zNl n (↑i:Int))) [])] (ap (f143 n ((↑i:Int)) (by first | omega | (simp<;>omega))) an)<|zAd 1<|zAa<|zAi 0 ?_))
 ·rw [Bool.not_eq_true'] at k0
  rw [zTq ho hr hh hi (.inl k0)]
 ·refine zAq (fun (m:Int)=>(m = -1∨∃ k:Nat,m=k∧i<k∧k<n.n.length∧chn n k i)∧∀ k,k<n.n.length→chn n k i→i<k→(m = -1∨(k:Int)<m)→kn K h k=false) (fun m=>[(3,I m)]) (fun m=>(if m = -1 then 0 else n.n.length+1-m.toNat)) (zNl n i) ?_ fun m ⟨hm,ha⟩=>?_
  ·rcases jk with ⟨g1,g2⟩ | ⟨m,g1,g2,g3,g4,g5⟩
   ·exact ⟨.inl g1,fun k hk hc wL _=>absurd wL (g2 k hk hc)⟩
   ·exact ⟨.inr ⟨m,g1,g2,g3,g4⟩,fun k hk hc wL hx=>by have:=g5 k hk hc wL;omega⟩
  ·rw [Bool.not_eq_false'] at k0
   rcases hm with rfl | ⟨k,rfl,h1,h2,h3⟩
   ·have:=zWq ho hr hh hi k0 fun k hk hc wL=>ha k hk hc wL (.inl rfl)
    rw [this]
    clear ha jk
    refine zAh<|zAc 2<|zAa<|zA0<|zAA 0<|zAc 1<|zAa<|zAn<|E_a [] an (PV.bool true) [] rfl rfl
   ·have qO:=zOS ho h2
    clear jk
    refine zAh<|zAc 2<|zAa<|zBR<|zAk<|zAh<|zAi 1<|zAc 2<|S_a [(2,.v (PV.sl (List.map PV.bool (K.getD h []))))] (ap (zBJ [] (by omega):(List.map bls K)[h]? = some (PV.sl (List.map PV.bool (K.getD h [])))) an)<|zAd 2<|S_a [(2,.v (PV.bool ((K.getD h []).getD k false)))] (ap (zBJ false (by omega):(List.map PV.bool (K.getD h []))[k]? = some (PV.bool ((K.getD h []).getD k false))) an)<|zAd 1<|zAa<|zEb ((K.getD h []).getD k false) (fun k2=>(zAc 1<|zAa<|zAn<|E_a [] an (PV.bool false) [] ?_ rfl)) (fun k2=>(zAk<|zAf<|zAd 2<|S_a [(8,.ret (I (zNl n (↑k:Int))) [])] (ap (f143 n ((↑k:Int)) (by first | omega | (simp<;>omega))) an)<|zAd 1<|zAa ?_))
    ·rw [zTq ho hr hh hi (.inr ⟨k,h2,h3,h1,by assumption⟩)]
    ·have ud:kn K h k=false:=by assumption
     refine ⟨zNl n k,?_,?_,by kernel_rfl,by kernel_rfl⟩
     ·rcases qO with ⟨g1,g2⟩ | ⟨m,g1,g2,g3,g4,g5⟩
      ·refine ⟨.inl g1,fun j hj hc qh _=>?_⟩
       by_cases qi:j=k
       ·subst qi;exact ud
       ·by_cases yF:j<k
        ·exact ha j hj hc qh (.inr (by omega))
        ·exact absurd (by omega:k<j) (g2 j hj (by unfold chn at *;omega))
      ·refine ⟨.inr ⟨m,g1,by omega,g3,by unfold chn at *;omega⟩,fun j hj hc qh hx=>?_⟩
       by_cases qi:j=k
       ·subst qi;exact ud
       ·by_cases yF:j<k
        ·exact ha j hj hc qh (.inr (by omega))
        ·have:=g5 j hj (by unfold chn at *;omega) (by omega)
         omega
     ·rcases qO with ⟨g1,_⟩ | ⟨m,g1,g2,g3,_⟩
      ·rw [g1,if_pos rfl,if_neg (by omega)];omega
      ·rw [g1,if_neg (by omega),if_neg (by omega)];omega
end Go.Eng
set_option maxRecDepth 10000
set_option maxHeartbeats 4000000
namespace Go.Eng
open Go Go.Proofs
def hrB (n:Nw) (h i:Int) (c:Int×Int):Bool:=decide (c.1=i)&&has (n.s.getD c.2.toNat []) h
def zFF (n:Nw) (cs:List (Int×Int)) (h i:Int):Bool:=cs.any (hrB n h i)
theorem f141 (n:Nw) (cs:List (Int×Int)) (h i:Int) (ho:CrW n cs):FG 141 [nwV n,prs cs,I h,I i] (.bool (zFF n cs h i)):=by
 have hn:=ho.nw
 have yN:=ho.len
 have jZ:=hn.sl.2
 refine zAe Tryz.f141 ?_
 refine zAc 2<|zAa<|zAh<|zAc 1<|zAa<|zAi 0 ?_
 refine zAq (fun j=>j≤cs.length∧∀ k,k<j→hrB n h i (cs.getD k default)=false) (fun (j:Nat)=>[(9,I (j:Nat))]) (fun j=>cs.length-j) (0:Nat) ⟨by omega,fun j hj=>absurd hj (Nat.not_lt_zero j)⟩ fun j ⟨hj,ha⟩=>?_
 by_cases ja:j<cs.length
 ·obtain ⟨jS,jE⟩:=zBK (d:=default) ho.cs j ja
  have wJ:=zBK (d:=[]) hn.rows (cs.getD j default).2.toNat (by omega)
  have yK:hrB n h i (cs.getD j default)=false→∀ k,k<j+1→hrB n h i (cs.getD k default)=false:=fun h k hk=>by
   rcases Nat.lt_succ_iff_lt_or_eq.1 hk with h2 | rfl
   ·exact ha k h2
   ·exact h
  have wK:hrB n h i (cs.getD j default)=true→zFF n cs h i=true:=fun h=>by
   rw [zAt ja] at h
   exact List.any_eq_true.2 ⟨_,List.getElem_mem ja,h⟩
  clear ha
  refine zAh<|zAc 2<|S_a [(0,.n cs.length)] (ap (lnS prV cs) an)<|zAd 1<|zAa<|zAU ((↑j:Int)<(↑cs.length:Int)) (by omega)<|zAk<|zAh<|zAi 1<|zAh<|zAc 2<|S_a [(2,.v (PV.agg [I (cs.getD j default).fst,I (cs.getD j default).snd]))] (ap (zBJ default (by omega):(List.map prV cs)[j]? = some (PV.agg [I (cs.getD j default).fst,I (cs.getD j default).snd])) an)<|zAd 4<|zAa<|zDh ((cs.getD j default).fst=i) (fun k0=>(zAA 1<|zAf<|zAd 1<|S_a [(1,.v (I (↑(j+1):Int)))] (ap (wrN j) an)<|zAd 1<|zAa ?_)) (fun k0=>(zAk<|zAc 4<|S_a [(2,.v (PV.agg [I (cs.getD j default).fst,I (cs.getD j default).snd]))] (ap (zBJ default (by omega):(List.map prV cs)[j]? = some (PV.agg [I (cs.getD j default).fst,I (cs.getD j default).snd])) an)<|zAd 2<|S_a [(0,.ob),(1,.v (zAR (n.s.getD (cs.getD j default).snd.toNat [])))] (ap ((by exact zAs (by omega)):decide (0≤(cs.getD j default).snd)=true)<|ap (zBJ [] (by omega):(List.map zAR n.s)[(cs.getD j default).snd.toNat]? = some (zAR (n.s.getD (cs.getD j default).snd.toNat []))) an)<|zAd 2<|zAa<|zAc 1<|zAa<|zAi 2 ?_))
  ·exact ⟨j+1,⟨by omega,yK (by simp only [hrB,decide_eq_false (by assumption),Bool.false_and])⟩,by omega,by kernel_rfl,by kernel_rfl⟩
  ·have he:(cs.getD j default).1=i:=by first | assumption | (apply Decidable.of_not_not;assumption)
   refine zAq (fun k=>k≤(n.s.getD (cs.getD j default).2.toNat []).length∧∀ r,r<k→decide (h=(n.s.getD (cs.getD j default).2.toNat []).getD r 0)=false) (fun (k:Nat)=>[(11,I (k:Nat))]) (fun k=>(n.s.getD (cs.getD j default).2.toNat []).length-k) (0:Nat) ⟨by omega,fun j hj=>absurd hj (Nat.not_lt_zero j)⟩ fun k ⟨hk,hb⟩=>?_
   generalize hL:n.s.getD (cs.getD j default).2.toNat []=L at *
   by_cases uM:k<L.length
   ·refine zAh<|zAc 2<|S_a [(0,.n L.length)] (ap (lnS I L) an)<|zAd 1<|zAa<|zAU ((↑k:Int)<(↑L.length:Int)) (by omega)<|zAk<|zAh<|zAi 3<|zAc 2<|S_a [(2,.v (I (L.getD k 0)))] (ap (zBJ (0) (by omega):(List.map I L)[k]? = some (I (L.getD k 0))) an)<|zAd 3<|zAa<|zB3 (L.getD k 0=h) (fun k2=>(zAc 1<|zAa<|zAn<|E_a [] an (PV.bool true) [] ?_ rfl)) (fun k2=>(zAk<|zAf<|zAd 1<|S_a [(1,.v (I (↑(k+1):Int)))] (ap (wrN k) an)<|zAd 1<|zAa ?_))
    ·have h3:L.getD k 0=h:=by assumption
     have:has L h=true:=by
      rw [zNG,decide_eq_true_eq,← h3,zAt uM];exact List.getElem_mem uM
     rw [wK (by simp only [hrB,decide_eq_true he,hL,this];rfl)]
    ·refine ⟨k+1,⟨by omega,fun r hr=>?_⟩,by omega,by kernel_rfl,by kernel_rfl⟩
     rcases Nat.lt_succ_iff_lt_or_eq.1 hr with h2 | rfl
     ·exact hb r h2
     ·exact decide_eq_false fun h=>absurd h.symm (by assumption)
   ·have:has L h=false:=by
     rw [zNG,decide_eq_false_iff_not]
     intro hm
     obtain ⟨r,hr,rfl⟩:=List.getElem_of_mem hm
     have:=hb r (by omega)
     rw [zAt hr] at this
     simp at this
    have kE:=yK (by simp only [hrB,hL,this,Bool.and_false])
    clear hb
    refine zAh<|zAc 2<|S_a [(0,.n L.length)] (ap (lnS I L) an)<|zAd 1<|zAa<|zAT ((↑k:Int)<(↑L.length:Int)) (by omega)<|zAA 2<|zAf<|zAd 1<|S_a [(1,.v (I (↑(j+1):Int)))] (ap (wrN j) an)<|zAd 1<|zAa ?_
    exact ⟨j+1,⟨by omega,kE⟩,by omega,by kernel_rfl,by kernel_rfl⟩
 ·refine zAh<|zAc 2<|S_a [(0,.n cs.length)] (ap (lnS prV cs) an)<|zAd 1<|zAa<|zAT ((↑j:Int)<(↑cs.length:Int)) (by omega)<|zAA 0<|zAc 1<|zAa<|zAn<|E_a [] an (PV.bool false) [] ?_ rfl
  have:zFF n cs h i=false:=by
   simp only [zFF,List.any_eq_false,Bool.not_eq_true]
   intro x hx
   obtain ⟨j,hj,rfl⟩:=List.getElem_of_mem hx
   have:=ha j (by omega)
   rwa [zAt hj] at this
  rw [this]
end Go.Eng
set_option maxRecDepth 10000
set_option maxHeartbeats 4000000
namespace Go.Eng
open Go Go.Proofs
abbrev lsB (l:List Bool):PV := .own 1 (l.map PV.bool)
instance:FrzOf lsB bls:=⟨fun x=>by simp only [zAP,zET]⟩
def zOo (n:Nw) (cs:List (Int×Int)) (h k:Nat):List Bool:=(List.range k).map fun (i:Nat)=>zFF n cs h i
def zPw (n:Nw) (cs:List (Int×Int)) (k:Nat):List (List Bool):=(List.range k).map fun h=>zOo n cs h n.n.length
theorem zQA {n:Nw} {cs:List (Int×Int)} {h k:Nat}:zOo n cs h (k+1)=zOo n cs h k++[zFF n cs h k]:=by
 simp only [zOo,List.range_succ,List.map_append,List.map_cons,List.map_nil]
theorem zQ1 {n:Nw} {cs:List (Int×Int)} {k:Nat}:zPw n cs (k+1)=zPw n cs k++[zOo n cs k n.n.length]:=by
 simp only [zPw,List.range_succ,List.map_append,List.map_cons,List.map_nil]
theorem f112 (n:Nw) (cs:List (Int×Int)) (ho:CrW n cs):FG 112 [nwV n,prs cs] (.own 1 ((zPw n cs n.h.toNat).map lsB)):=by
 have hn:=ho.nw
 have hb:=hn.h
 have ub:=hn.nl
 refine zAe Tryz.f112 ?_
 refine zAc 2<|zAa<|zAc 1<|zAa<|zAh<|zAc 1<|zAa<|zAi 0 ?_
 refine zAq (fun (h,K)=>h≤n.h.toNat∧K=zPw n cs h) (fun (h,K)=>[(5,.own 1 (K.map lsB)),(6,I (h:Nat))]) (fun (h,_)=>n.h.toNat-h) ((0:Nat),([]:List (List Bool))) ⟨by omega,rfl⟩ fun (h,K) ⟨hh,hK⟩=>?_
 have hKl:K.length=h:=by rw [hK];simp [zPw]
 by_cases gb:(h:Int)<n.h
 ·have yg:=zQ1 (n:=n) (cs:=cs) (k:=h)
  rw [← hK] at yg
  clear hK
  refine zAh<|zAc 4<|zAa<|zAU ((↑h:Int)<n.h) (by omega)<|zAk<|zAh<|zAi 1<|zAc 2<|S_a [(0,.n n.n.length)] (ap (lnS ntV n.n) an)<|S_a [(4,.ob),(0,.ob),(1,.v (PV.own 1 (List.map PV.bool (List.replicate n.n.length false))))] (ap ((by exact zAs (by omega)):decide (n.n.length≤n.n.length)=true)<|ap ((by exact zAs (by simp [zAY]<;>omega)):decide (n.n.length≤zAY)=true)<|ap ((by simp):PV.own 1 (List.replicate n.n.length (PV.bool false))=PV.own 1 (List.map PV.bool (List.replicate n.n.length false))) an)<|zAd 1<|zAa<|zAh<|zAc 1<|zAa<|zAi 2 ?_
  refine zAq (fun (i,r)=>i≤n.n.length∧r=zOo n cs h i++List.replicate (n.n.length-i) false) (fun (i,r)=>[(7,.own 1 (r.map PV.bool)),(8,I (i:Nat))]) (fun (i,_)=>n.n.length-i) ((0:Nat),List.replicate n.n.length false) ⟨by omega,by simp [zOo]⟩ fun (i,r) ⟨hi,hr⟩=>?_
  have wJ:r.length=n.n.length:=by rw [hr];simp [zOo];omega
  by_cases yI:i<n.n.length
  ·refine zAh<|zAc 2<|S_a [(0,.n r.length)] (ap (lnS PV.bool r) an)<|zAd 1<|zAa<|zAU ((↑i:Int)<(↑r.length:Int)) (by omega)<|zAk<|zAh<|zAi 3<|zAf<|zAd 6<|S_a [(12,.ret (PV.bool (zFF n cs (↑h:Int) (↑i:Int))) [])] (ap (f141 n cs ((↑h:Int)) ((↑i:Int)) (by omega)) an)<|S_a [(2,.ob),(1,.n i)] (ap ((by exact zAs (by simp only [List.length_map,zzLn]<;>omega)):decide (i<(List.map PV.bool r).length)=true)<|ap ((by simp):some (0+i)=some i) an)<|S_a [(8,.root (PV.own 1 (List.map PV.bool (r.set i (zFF n cs (↑h:Int) (↑i:Int))))) true)] (ap (zPs (zBJ false (by omega)) zF2:zBw (PV.own 1 (List.map PV.bool r)) [] i 0 (PV.bool (zFF n cs (↑h:Int) (↑i:Int))).cells=some (PV.own 1 (List.map PV.bool (r.set i (zFF n cs (↑h:Int) (↑i:Int)))))∧zAE (PV.own 1 (List.map PV.bool r)) (PV.own 1 (List.map PV.bool (r.set i (zFF n cs (↑h:Int) (↑i:Int))))) []=true) an)<|zAa<|zAf<|zAd 1<|S_a [(1,.v (I (↑(i+1):Int)))] (ap (wrN i) an)<|zAd 1<|zAa ?_
   refine ⟨(i+1,r.set i (zFF n cs h i)),⟨by omega,?_⟩,by simp only;omega,by kernel_rfl,by kernel_rfl⟩
   obtain ⟨k,hk⟩:∃ k,n.n.length-i=k+1:=⟨n.n.length-i-1,by omega⟩
   rw [hr,hk,show n.n.length-(i+1)=k by omega,List.replicate_succ,List.set_append_right _ _ (by simp [zOo]),zQA]
   try simp [zOo]
  ·have hrr:r=zOo n cs h n.n.length:=by rw [hr,show i=n.n.length by omega];simp
   rw [← hrr] at yg
   clear hr hrr
   refine zAh<|zAc 2<|S_a [(0,.n r.length)] (ap (lnS PV.bool r) an)<|zAd 1<|zAa<|zAT ((↑i:Int)<(↑r.length:Int)) (by omega)<|zAA 2<|zAf<|zAd 2<|S_a [(2,.yes)] (ap ((by exact zBu (by simp<;>omega)):(Nat.beq 0 0&&(List.map PV.bool r).length.beq (List.map PV.bool r).length)=true) an)<|S_a [(4,.ob),(0,.ob),(0,.yes),(2,.v (PV.own 1 (List.map lsB (K++[r]))))] (ap (blz (List.map lsB K))<|ap ((by exact zBi (by simp only [List.length_map,zzLn,zAY]<;>omega)):((List.map lsB K).length + [PV.own 1 (List.map PV.bool r)].length).ble zAY=true)<|ap ((by exact zBu (by simp<;>omega)):(0+(List.map lsB K).length).beq (List.map lsB K).length=true)<|ap ((zAW (zCI (by kernel_rfl))):PV.own 1 (List.map lsB K++[PV.own 1 (List.map PV.bool r)])=PV.own 1 (List.map lsB (K++[r]))) an)<|zAd 1<|zAa<|zAf<|zAd 1<|S_a [(1,.v (I (↑(h+1):Int)))] (ap (wrN h) an)<|zAd 1<|zAa ?_
   exact ⟨(h+1,K++[r]),⟨by omega,yg.symm⟩,by simp only;omega,by kernel_rfl,by kernel_rfl⟩
 ·have e:h=n.h.toNat:=by omega
  subst e
  refine zAh<|zAc 4<|zAa<|zAT ((↑n.h.toNat:Int)<n.h) (by omega)<|zAA 0<|zAc 1<|S_a [(2,.yes)] (ap ((by exact zBu (by simp<;>omega)):(Nat.beq 0 0&&(List.map lsB K).length.beq (List.map lsB K).length)=true) an)<|zAa<|zAn<|E_a [(1,.yes),(1,.v (PV.own 1 (List.map lsB K)))] (ap (blz (List.map lsB K))<|ap ((zAW zAQ):PV.own 1 (List.take (List.map lsB K).length (List.drop 0 (List.map lsB K)))=PV.own 1 (List.map lsB K)) an) (PV.own 1 (List.map lsB K)) [] (by simp [*]) rfl
end Go.Eng
namespace Go.Eng
open Go Go.Proofs
structure Tr (n:Nw) (w:List Int) (S:Nat→Nat→Prop):Prop where
 wl:w.length=80
 at_:∀ h c,h<n.h.toNat→c<8→w.getD (h*8+c) 0 = -1∨∃ i,i<n.n.length∧(zAl n).getD i 0=(c:Int)∧w.getD (h*8+c) 0=i∧S h i
 top:∀ h i,h<n.h.toNat→i<n.n.length→S h i→(i:Int)≤w.getD (h*8+((zAl n).getD i 0).toNat) 0
theorem zIt {w:List Int} {i j:Nat} {x:Int} (hi:i<w.length):(zPo w i x).getD j 0=if i=j then max (w.getD j 0) x else w.getD j 0:=by
 unfold zPo
 rw [zC5]
 by_cases h:i=j
 ·subst h;rw [if_pos ⟨rfl,hi⟩,if_pos rfl]
 ·rw [if_neg (fun h2=>h h2.1),if_neg h]
theorem Tr.upd {n:Nw} {w:List Int} {S:Nat→Nat→Prop} (ho:NwOk n) (ht:Tr n w S) {h0 i0:Nat} (hh:h0<n.h.toNat) (hi:i0<n.n.length):Tr n (zPo w (h0*8+((zAl n).getD i0 0).toNat) i0) (fun h i=>S h i∨h=h0∧i=i0):=by
 have ub:=ho.nl.2
 have hH:=ho.h.2
 have hf0:=zB0 ho i0 hi
 have yF:h0*8+((zAl n).getD i0 0).toNat<w.length:=by rw [ht.wl];omega
 refine ⟨by rw [zIo];exact ht.wl,fun h c gk hc=>?_,fun h i gk hi1 hS=>?_⟩
 ·rw [zIt yF]
  split
  ·rename_i he
   have e1:h=h0:=by omega
   have e2:((zAl n).getD i0 0).toNat=c:=by omega
   have e3:(zAl n).getD i0 0=(c:Int):=by omega
   subst e1
   have hw:=ht.at_ h c gk hc
   by_cases hm:w.getD (h*8+c) 0≤(i0:Int)
   ·right
    exact ⟨i0,hi,e3,by rw [Int.max_eq_right hm],.inr ⟨rfl,rfl⟩⟩
   ·rcases hw with hw | ⟨i,g1,g2,g3,g4⟩
    ·omega
    ·right;exact ⟨i,g1,g2,by rw [Int.max_eq_left (by omega)];exact g3,.inl g4⟩
  ·rcases ht.at_ h c gk hc with hw | ⟨i,g1,g2,g3,g4⟩
   ·exact .inl hw
   ·exact .inr ⟨i,g1,g2,g3,.inl g4⟩
 ·rw [zIt yF]
  have gv:=zB0 ho i hi1
  rcases hS with hS | ⟨rfl,rfl⟩
  ·have:=ht.top h i gk hi1 hS
   split<;>omega
  ·rw [if_pos rfl];omega
theorem Tr.same {n:Nw} {w:List Int} {S S':Nat→Nat→Prop} (ht:Tr n w S) (h:∀ a i,a<n.h.toNat→i<n.n.length→(S a i↔S' a i)):Tr n w S' :=
 ⟨ht.wl,fun a c ha hc=>by
  rcases ht.at_ a c ha hc with h1 | ⟨i,g1,g2,g3,g4⟩
  ·exact .inl h1
  ·exact .inr ⟨i,g1,g2,g3,(h a i ha g1).1 g4⟩,fun a i ha hi hs=>ht.top a i ha hi ((h a i ha hi).2 hs)⟩
theorem Tr.none (n:Nw) (ho:NwOk n):Tr n (List.replicate 80 (-1)) (fun _ _=>False):=by
 have hH:=ho.h.2
 refine ⟨by simp,fun h c hh hc => .inl ?_,fun _ _ _ _ h=>h.elim⟩
 rw [zAt (by rw [List.length_replicate];omega),List.getElem_replicate]
end Go.Eng
namespace Go.Eng
open Go Go.Proofs
theorem Tr.begC {n:Nw} {w:List Int} {S:Nat→Nat→Prop} (ho:NwOk n) (ht:Tr n w S) {h:Nat} (hh:h<n.h.toNat) {c:Int×Int} (hc:0≤c.1∧c.1<n.n.length):Tr n (begC n h w c) (fun a i=>S a i∨a=h∧hrB n h i c=true):=by
 unfold Go.Eng.begC
 split
 ·rename_i hs
  have:=ht.upd ho hh (i0:=c.1.toNat) (by omega)
  rw [Int.toNat_of_nonneg hc.1] at this
  refine this.same fun a i _ _=>?_
  simp only [hrB,hs,Bool.and_true,decide_eq_true_eq]
  refine or_congr Iff.rfl (and_congr Iff.rfl ⟨fun e=>by omega,fun e=>by omega⟩)
 ·rename_i hs
  refine ht.same fun a i _ _=>?_
  have h2:has (n.s.getD c.2.toNat []) h=false:=by
   cases hx:has (n.s.getD c.2.toNat []) h
   ·rfl
   ·exact absurd hx hs
  simp only [hrB,h2,Bool.and_false,Bool.false_eq_true,and_false,or_false]
theorem Tr.begH {n:Nw} (ho:NwOk n) {h:Nat} (hh:h<n.h.toNat):∀ (cs:List (Int×Int)) {w:List Int} {S:Nat→Nat→Prop},Tr n w S→(∀ c∈cs,0≤c.1∧c.1<n.n.length)→Tr n (begH n h w cs) (fun a i=>S a i∨a=h∧zFF n cs h i=true)
 | [],w,S,ht,_=>ht.same fun a i _ _=>by simp [zFF]
 | c::cs,w,S,ht,hc=>by
  have h1:=Tr.begH ho hh cs (ht.begC ho hh (hc c List.mem_cons_self)) fun d hd=>hc d (List.mem_cons_of_mem _ hd)
  refine Tr.same (w:=Go.Eng.begH n h w (c::cs)) h1 fun a i _ _=>?_
  simp only [zFF,List.any_cons,Bool.or_eq_true,or_assoc,and_or_left]
theorem Tr.begN {n:Nw} {cs:List (Int×Int)} (ho:CrW n cs):∀ k,k≤n.h.toNat→Tr n (begN n cs k) (fun a i=>a<k∧zFF n cs a i=true)
 | 0,_=>(Tr.none n ho.nw).same fun a i _ _=>by simp
 | k + 1,hk=>by
  rw [zGI]
  refine (Tr.begH ho.nw (by omega) cs (Tr.begN ho k (by omega)) fun c hc=>(ho.cs c hc).1).same fun a i _ _=>?_
  constructor
  ·rintro (⟨h1,h2⟩ | ⟨rfl,h2⟩)
   ·exact ⟨by omega,h2⟩
   ·exact ⟨by omega,h2⟩
  ·rintro ⟨h1,h2⟩
   by_cases e:a=k
   ·subst e;exact .inr ⟨rfl,h2⟩
   ·exact .inl ⟨by omega,h2⟩
theorem RelK.of_tr {n:Nw} {K:List (List Bool)} {w:List Int} (h1:K.length=n.h.toNat) (h2:∀ r∈K,r.length=n.n.length) (ht:Tr n w fun a i=>kn K a i=true):RelK n K w :=
 ⟨h1,h2,ht.wl,ht.top,ht.at_⟩
theorem RelK.tr {n:Nw} {K:List (List Bool)} {w:List Int} (h:RelK n K w):Tr n w fun a i=>kn K a i=true:=⟨h.wl,h.at_,h.top⟩
theorem zWG {n:Nw} {cs:List (Int×Int)} {a i:Nat} (ha:a<n.h.toNat) (hi:i<n.n.length):kn (zPw n cs n.h.toNat) a i=zFF n cs a i:=by
 unfold kn zPw
 rw [zAt (l:=(List.range n.h.toNat).map fun h=>zOo n cs h n.n.length) (by rw [List.length_map,List.length_range];exact ha)]
 simp only [List.getElem_map,List.getElem_range]
 unfold zOo
 rw [zAt (by rw [List.length_map,List.length_range];exact hi)]
 simp only [List.getElem_map,List.getElem_range]
theorem zVm {n:Nw} {cs:List (Int×Int)} (ho:CrW n cs):RelK n (zPw n cs n.h.toNat) (zOL n cs):=by
 refine RelK.of_tr (by simp [zPw]) (fun r hr=>?_) ?_
 ·obtain ⟨h,_,rfl⟩:=List.mem_map.1 hr
  simp [zOo]
 ·refine (Tr.begN ho n.h.toNat (Nat.le_refl _)).same fun a i ha hi=>?_
  rw [zWG ha hi]
  exact ⟨fun h=>h.2,fun h=>⟨ha,h⟩⟩
end Go.Eng
namespace Go.Eng
open Go Go.Proofs
def nxB (n:Nw) (K:List (List Bool)) (w:List Int) (h i:Nat):Bool:=kn K h i||(zHF n h n.h.toNat).any fun o=>hld n w o i
def zGe (n:Nw) (K:List (List Bool)) (w:List Int) (h:Nat):List Bool:=(List.range n.n.length).map fun i=>nxB n K w h i
def zMk (n:Nw) (K:List (List Bool)) (w:List Int):List (List Bool):=(List.range n.h.toNat).map fun h=>zGe n K w h
theorem zUE {n:Nw} {K:List (List Bool)} {w:List Int} {a i:Nat} (ha:a<n.h.toNat) (hi:i<n.n.length):kn (zMk n K w) a i=nxB n K w a i:=by
 unfold kn zMk
 rw [zAt (l:=(List.range n.h.toNat).map fun h=>zGe n K w h) (by rw [List.length_map,List.length_range];exact ha)]
 simp only [List.getElem_map,List.getElem_range]
 unfold zGe
 rw [zAt (by rw [List.length_map,List.length_range];exact hi)]
 simp only [List.getElem_map,List.getElem_range]
theorem Tr.skip {n:Nw} {w:List Int} {S:Nat→Nat→Prop} (ho:NwOk n) (ht:Tr n w S) {h0 c0:Nat} (hh:h0<n.h.toNat) (hc:c0<8):Tr n (zPo w (h0*8+c0) (-1)) S:=by
 have hH:=ho.h.2
 have yF:h0*8+c0<w.length:=by rw [ht.wl];omega
 have hge : -1≤w.getD (h0*8+c0) 0:=by
  rcases ht.at_ h0 c0 hh hc with h | ⟨i,_,_,h,_⟩<;>omega
 have he:∀ j,(zPo w (h0*8+c0) (-1)).getD j 0=w.getD j 0:=fun j=>by
  rw [zIt yF]
  split
  ·rename_i e;subst e;exact Int.max_eq_left hge
  ·rfl
 exact ⟨by rw [zIo];exact ht.wl,fun h c h1 h2=>by rw [he];exact ht.at_ h c h1 h2,fun h i h1 h2 h3=>by rw [he];exact ht.top h i h1 h2 h3⟩
theorem Tr.nxtR {n:Nw} {now:List Int} {S0:Nat→Nat→Prop} (ho:NwOk n) (h0:Tr n now S0) {h o:Nat} (hh:h<n.h.toNat) (hoo:o<n.h.toNat) {w:List Int} {S:Nat→Nat→Prop} (ht:Tr n w S):∀ k,k≤8→Tr n (nxtR now h o w k) (fun a i=>S a i∨a=h∧(zAl n).getD i 0<(k:Int)∧hld n now o i=true)
 | 0,_=>Tr.same (w:=Go.Eng.nxtR now h o w 0) ht fun a i _ hi=>by
  have:=zB0 ho i hi
  exact ⟨.inl,fun h=>h.elim id fun h=>by have:=h.2.1;omega⟩
 | k + 1,hk=>by
  have ih:=Tr.nxtR ho h0 hh hoo ht k (by omega)
  have e:Go.Eng.nxtR now h o w (k+1)=zPo (Go.Eng.nxtR now h o w k) (h*8+k) (now.getD (o*8+k) 0):=by
   simp only [Go.Eng.nxtR,List.range_succ,List.foldl_append,List.foldl_cons,List.foldl_nil]
  rw [e]
  rcases h0.at_ o k hoo (by omega) with hm | ⟨j,g1,g2,g3,_⟩
  ·rw [hm]
   refine (ih.skip ho hh (by omega)).same fun a i _ hi=>or_congr Iff.rfl (and_congr Iff.rfl ⟨fun ⟨x,y⟩=>⟨by omega,y⟩,fun ⟨x,y⟩=>⟨?_,y⟩⟩)
   have hf:=zB0 ho i hi
   by_cases ek:(zAl n).getD i 0=(k:Int)
   ·simp only [hld,decide_eq_true_eq,ek,Int.toNat_natCast,hm] at y
    omega
   ·omega
  ·have:=ih.upd ho hh g1
   rw [g2,Int.toNat_natCast] at this
   rw [g3]
   refine this.same fun a i _ hi=>?_
   have hf:=zB0 ho i hi
   constructor
   ·rintro ((x | ⟨x,y,z⟩) | ⟨rfl,rfl⟩)
    ·exact .inl x
    ·exact .inr ⟨x,by omega,z⟩
    ·refine .inr ⟨rfl,by omega,?_⟩
     simp only [hld,decide_eq_true_eq,g2,Int.toNat_natCast,g3]
   ·rintro (x | ⟨rfl,y,z⟩)
    ·exact .inl (.inl x)
    ·by_cases ek:(zAl n).getD i 0=(k:Int)
     ·simp only [hld,decide_eq_true_eq,ek,Int.toNat_natCast,g3] at z
      exact .inr ⟨rfl,by omega⟩
     ·exact .inl (.inr ⟨rfl,by omega,z⟩)
theorem Tr.nxtH {n:Nw} {now:List Int} {S0:Nat→Nat→Prop} (ho:NwOk n) (h0:Tr n now S0) {h:Nat} (hh:h<n.h.toNat):∀ (l:List Nat),(∀ o∈l,o<n.h.toNat)→∀ {w:List Int} {S:Nat→Nat→Prop},Tr n w S→Tr n (nxtH now h w l) (fun a i=>S a i∨a=h∧(l.any fun o=>hld n now o i)=true)
 | [],_,w,S,ht=>Tr.same (w:=Go.Eng.nxtH now h w []) ht fun a i _ _=>by simp
 | o::l,hl,w,S,ht=>by
  have h1:=Tr.nxtH ho h0 hh l (fun x hx=>hl x (List.mem_cons_of_mem _ hx)) (Tr.nxtR ho h0 hh (hl o List.mem_cons_self) ht 8 (Nat.le_refl _))
  refine Tr.same (w:=Go.Eng.nxtH now h w (o::l)) h1 fun a i _ hi=>?_
  have hf:=zB0 ho i hi
  have ub:=ho.nl.2
  simp only [List.any_cons,Bool.or_eq_true,and_or_left,or_assoc]
  refine or_congr Iff.rfl (or_congr (and_congr Iff.rfl ⟨fun x=>x.2,fun x=>⟨by omega,x⟩⟩) Iff.rfl)
theorem Tr.nxtN {n:Nw} {now:List Int} {S0:Nat→Nat→Prop} (ho:NwOk n) (h0:Tr n now S0):∀ k,k≤n.h.toNat→Tr n (nxtN n now k) (fun a i=>S0 a i∨a<k∧((zHF n a n.h.toNat).any fun o=>hld n now o i)=true)
 | 0,_=>Tr.same (w:=Go.Eng.nxtN n now 0) h0 fun a i _ _=>by simp
 | k + 1,hk=>by
  have ih:=Tr.nxtN ho h0 k (by omega)
  have e:Go.Eng.nxtN n now (k+1)=Go.Eng.nxtH now k (Go.Eng.nxtN n now k) (zHF n k n.h.toNat):=by
   simp only [Go.Eng.nxtN,List.range_succ,List.foldl_append,List.foldl_cons,List.foldl_nil]
  rw [e]
  refine (Tr.nxtH ho h0 (by omega) _ (fun o hm=>List.mem_range.1 (List.mem_filter.1 hm).1) ih).same fun a i _ _=>?_
  constructor
  ·rintro ((x | ⟨x,y⟩) | ⟨rfl,y⟩)
   ·exact .inl x
   ·exact .inr ⟨by omega,y⟩
   ·exact .inr ⟨by omega,y⟩
  ·rintro (x | ⟨x,y⟩)
   ·exact .inl (.inl x)
   ·by_cases ea:a=k
    ·subst ea;exact .inr ⟨rfl,y⟩
    ·exact .inl (.inr ⟨by omega,y⟩)
theorem zSp {n:Nw} (ho:NwOk n) {K:List (List Bool)} {w:List Int} (h:RelK n K w):RelK n (zMk n K w) (zC2 n w):=by
 refine RelK.of_tr (by simp [zMk]) (fun r hr=>?_) ?_
 ·obtain ⟨h,_,rfl⟩:=List.mem_map.1 hr
  simp [zGe]
 ·refine (Tr.nxtN ho h.tr n.h.toNat (Nat.le_refl _)).same fun a i ha hi=>?_
  rw [zUE ha hi,nxB,Bool.or_eq_true]
  exact or_congr Iff.rfl ⟨fun x=>x.2,fun x=>⟨ha,x⟩⟩
end Go.Eng
set_option maxRecDepth 10000
set_option maxHeartbeats 4000000
namespace Go.Eng
open Go Go.Proofs
instance (n:Nw) (i j:Nat):Decidable (chn n i j):=inferInstanceAs (Decidable ((zAl n).getD i 0=(zAl n).getD j 0))
def zKH (n:Nw) (K:List (List Bool)) (h i:Nat):Bool:=kn K h i && !((List.range n.n.length).any fun k=>decide (i<k)&&(decide (chn n k i)&&kn K h k))
theorem zNp {n:Nw} {K:List (List Bool)} {w:List Int} {h i:Nat} (ho:NwOk n) (hr:RelK n K w) (hh:h<n.h.toNat) (hi:i<n.n.length):zKH n K h i=hld n w h i:=by
 unfold zKH
 cases h1:kn K h i
 ·rw [zTq ho hr hh hi (.inl h1)];rfl
 ·cases h2:(List.range n.n.length).any fun k=>decide (i<k)&&(decide (chn n k i)&&kn K h k)
  ·rw [zWq ho hr hh hi h1 fun k hk hc wL=>?_]
   ·rfl
   ·have h3:=(List.any_eq_false.1 h2) k (List.mem_range.2 hk)
    simpa [wL,hc] using h3
  ·obtain ⟨k,hk,h3⟩:=List.any_eq_true.1 h2
   simp only [Bool.and_eq_true,decide_eq_true_eq] at h3
   rw [zTq ho hr hh hi (.inr ⟨k,List.mem_range.1 hk,h3.2.1,h3.1,h3.2.2⟩)];rfl
theorem f113 (n:Nw) (K:List (List Bool)) (h i:Nat) (ho:NwOk n) (hr:∃ w,RelK n K w) (hh:h<n.h.toNat) (hi:i<n.n.length):FG 113 [nwV n,knV K,I h,I i] (.bool (zKH n K h i)):=by
 obtain ⟨w,hr⟩:=hr
 rw [zNp ho hr hh hi]
 exact zXT n K w h i ho hr hh hi
def nxP (n:Nw) (K:List (List Bool)) (w:List Int) (h o j:Nat):Bool:=kn K h j||(zHF n h o).any fun o=>hld n w o j
theorem zSV {n:Nw} {K:List (List Bool)} {w:List Int} {h o j:Nat}:nxP n K w h (o+1) j=(nxP n K w h o j||zF6 n h o&&hld n w o j):=by
 unfold nxP;rw [zJI]
 cases zF6 n h o<;>simp [Bool.or_assoc]
theorem zXP {P H:Nat→Bool} {a:Bool} {q:List Bool} {m i:Nat} (hq:∀ j,j<m→q.getD j false=(P j||(a&&(decide (j<i)&&H j)))) (hi:i<m):q.getD i false=P i:=by
 rw [hq i hi,decide_eq_false (Nat.lt_irrefl i)];cases a<;>simp
theorem zUi {P H:Nat→Bool} {a:Bool} {q:List Bool} {m i:Nat} {x:Bool} (hq:∀ j,j<m→q.getD j false=(P j||(a&&(decide (j<i)&&H j)))) (hl:q.length=m) (hi:i<m) (ha:a=true) (hx:x=(P i||H i)) (j:Nat) (hj:j<m):(q.set i x).getD j false=(P j||(a&&(decide (j<i+1)&&H j))):=by
 subst ha
 by_cases e:i=j
 ·subst e
  rw [zAt (by rw [List.length_set];omega),List.getElem_set_self,hx,decide_eq_true (Nat.lt_succ_self i),Bool.true_and,Bool.true_and]
 ·rw [zAt (by rw [List.length_set];omega),List.getElem_set_ne e,← zAt (d:=false) (by omega),hq j hj]
  by_cases h:j<i
  ·rw [decide_eq_true h,decide_eq_true (by omega:j<i+1)]
  ·rw [decide_eq_false h,decide_eq_false (by omega:¬ j<i+1)]
theorem zTR {n:Nw} {K:List (List Bool)} {w:List Int} {h o i m:Nat} {q:List Bool} (hq:∀ j,j<m→q.getD j false=(nxP n K w h o j||(zF6 n h o&&(decide (j<i)&&hld n w o j)))) (hx:zF6 n h o=false∨m≤i) (j:Nat) (hj:j<m):q.getD j false=nxP n K w h (o+1) j:=by
 rw [hq j hj,zSV]
 rcases hx with hx | hx
 ·rw [hx];rfl
 ·rw [decide_eq_true (by omega:j<i),Bool.true_and]
theorem zWu {n:Nw} {K:List (List Bool)} {w:List Int} {h:Nat} {r:List Bool} (hl:r.length=n.n.length) (hr:∀ j,j<n.n.length→r.getD j false=nxP n K w h n.h.toNat j):r=zGe n K w h:=by
 refine List.ext_getElem (by simp [zGe,hl]) fun j h1 h2=>?_
 have:=hr j (by omega)
 rw [zAt h1] at this
 rw [this]
 simp [zGe,nxB,nxP]
theorem zXW (n:Nw) (K:List (List Bool)) (w:List Int) (ho:NwOk n) (hr:RelK n K w):FG 115 [nwV n,knV K] (.own 1 ((zMk n K w).map lsB)):=by
 have hb:=ho.h
 have ub:=ho.nl
 have w5:=ho.ll
 have uM:=hr.len
 have hrw:∃ w,RelK n K w:=⟨w,hr⟩
 refine zAe Tryz.f115 ?_
 refine zAc 2<|zAa<|zAc 1<|zAa<|zAh<|zAc 1<|zAa<|zAi 0 ?_
 refine zAq (fun (h,L)=>h≤n.h.toNat∧L=(List.range h).map fun h=>zGe n K w h) (fun (h,L)=>[(5,.own 1 (L.map lsB)),(6,I (h:Nat))]) (fun (h,_)=>n.h.toNat-h) ((0:Nat),([]:List (List Bool))) ⟨by omega,rfl⟩ fun (h,L) ⟨hh,hL⟩=>?_
 have hLl:L.length=h:=by rw [hL];simp
 by_cases gb:(h:Int)<n.h
 ·have yC:(K.getD h []).length=n.n.length:=zBK (d:=[]) hr.row h (by omega)
  refine zAh<|zAc 4<|zAa<|zAU ((↑h:Int)<n.h) (by omega)<|zAk<|zAh<|zAi 1<|zAc 3<|S_a [(2,.v (PV.sl (List.map PV.bool (K.getD h []))))] (ap (zBJ [] (by omega):(List.map bls K)[h]? = some (PV.sl (List.map PV.bool (K.getD h [])))) an)<|zAd 1<|S_a [(0,.ob),(0,.ob),(0,.ob),(3,.ob)] (ap ((by exact all_map _):((List.map PV.bool (K.getD h [])).all fun x=>x.plain)=true)<|ap ((by exact all_map _):((List.map PV.bool (K.getD h [])).all fun y=>y.cells.length.beq ((fun x=>x.size) Tryz.prog.types[4])&&y.cells.all fun q=>q.oneCell)=true)<|ap ((by exact List.isEmpty_iff.2 (zG9 _)):(zBn (List.map PV.bool (K.getD h []))).isEmpty=true)<|ap ((by exact zBi (by simp only [List.length_map,zzLn,zAY]<;>omega)):(0+(List.map PV.bool (K.getD h [])).length).ble zAY=true) an)<|zAd 1<|zAa<|zAh<|zAc 1<|zAa<|zAi 2 ?_
  refine zAq (fun (o,r)=>o≤n.h.toNat∧r.length=n.n.length∧∀ j,j<n.n.length→r.getD j false=nxP n K w h o j) (fun (o,r)=>[(7,.own 1 (r.map PV.bool)),(8,I (o:Nat))]) (fun (o,_)=>n.h.toNat-o) ((0:Nat),K.getD h []) ⟨by omega,yC,fun j _=>by simp [nxP,zHF,kn]⟩ fun (o,r) ⟨hoo,wJ,jH⟩=>?_
  by_cases hol:(o:Int)<n.h
  ·refine zAh<|zAc 4<|zAa<|zAU ((↑o:Int)<n.h) (by omega)<|zAk<|zAh<|zAi 3<|zAc 1<|zAa<|zAi 4 ?_
   refine zAq (fun (i,q)=>i≤n.n.length∧q.length=n.n.length∧∀ j,j<n.n.length→q.getD j false=(nxP n K w h o j||(zF6 n h o&&(decide (j<i)&&hld n w o j)))) (fun (i,q)=>[(7,.own 1 (q.map PV.bool)),(9,I (i:Nat))]) (fun (i,_)=>n.n.length-i) ((0:Nat),r) ⟨by omega,wJ,fun j hj=>by rw [jH j hj,decide_eq_false (Nat.not_lt_zero j),Bool.false_and,Bool.and_false,Bool.or_false]⟩ fun (i,q) ⟨hi,ua,hqv⟩=>?_
   clear jH
   by_cases yI:(i:Int)<n.n.length
   ·have jl:=zXP hqv (by omega)
    clear hL
    refine zAh<|zAc 2<|S_a [(0,.n q.length)] (ap (lnS PV.bool q) an)<|zAd 2<|zIS 32 ((↑i:Int)<(↑q.length:Int)) (by omega) (zAd 3<|S_a [(10,.ret (PV.bool (zF6 n (↑h:Int) (↑o:Int))) [])] (ap (f114 n ((↑h:Int)) ((↑o:Int)) (by first | omega | (simp<;>omega))) an)<|zAd 1<|zAa<|zEb (zF6 n (↑h:Int) (↑o:Int)) (fun k0=>(zAk<|zAh<|zAi 5<|zAf<|zAd 4<|S_a [(2,.ob),(1,.n i)] (ap ((by exact zAs (by simp only [List.length_map,zzLn]<;>omega)):decide (i<(List.map PV.bool q).length)=true)<|ap ((by simp):some (0+i)=some i) an)<|S_a [(0,.cs false ([PV.bool (q.getD i false)]))] (ap (zDy (q:=PV.own 1 (List.map PV.bool q)) (xs:=List.map PV.bool q) (x:=PV.bool (q.getD i false)) rfl (zBJ false (by omega)):zAw 7 (PV.own 1 (List.map PV.bool q)) [] i 0 1=some (false,[PV.bool (q.getD i false)])) an)<|zAd 1<|zEi 46 (q.getD i false) (fun k1=>(zAd 6<|S_a [(2,.ob),(1,.n i)] (ap ((by exact zAs (by simp only [List.length_map,zzLn]<;>omega)):decide (i<(List.map PV.bool q).length)=true)<|ap ((by simp):some (0+i)=some i) an)<|S_a [(8,.root (PV.own 1 (List.map PV.bool (q.set i true))) true)] (ap (zPs (zBJ false (by omega)) zF2:zBw (PV.own 1 (List.map PV.bool q)) [] i 0 (PV.bool true).cells=some (PV.own 1 (List.map PV.bool (q.set i true)))∧zAE (PV.own 1 (List.map PV.bool q)) (PV.own 1 (List.map PV.bool (q.set i true))) []=true) an)<|zAa<|zAf<|zAd 1<|S_a [(1,.v (I (↑(i+1):Int)))] (ap (wrN i) an)<|zAd 1<|zAa ?_)) (fun k1=>(zAd 4<|S_a [(12,.ret (PV.bool (zKH n K o i)) [])] (ap (f113 n K o i (by omega) (by omega) (by first | omega | (simp<;>omega)) (by first | omega | (simp<;>omega))) an)<|zAd 1<|S_a [(2,.ob),(1,.n i)] (ap ((by exact zAs (by simp only [List.length_map,zzLn]<;>omega)):decide (i<(List.map PV.bool q).length)=true)<|ap ((by simp):some (0+i)=some i) an)<|S_a [(8,.root (PV.own 1 (List.map PV.bool (q.set i (zKH n K o i)))) true)] (ap (zPs (zBJ false (by omega)) zF2:zBw (PV.own 1 (List.map PV.bool q)) [] i 0 (PV.bool (zKH n K o i)).cells=some (PV.own 1 (List.map PV.bool (q.set i (zKH n K o i))))∧zAE (PV.own 1 (List.map PV.bool q)) (PV.own 1 (List.map PV.bool (q.set i (zKH n K o i)))) []=true) an)<|zAa<|zAf<|zAd 1<|S_a [(1,.v (I (↑(i+1):Int)))] (ap (wrN i) an)<|zAd 1<|zAa ?_)))) (fun k0=>(zAA 4<|zAf<|zAd 1<|S_a [(1,.v (I (↑(o+1):Int)))] (ap (wrN o) an)<|zAd 1<|zAa ?_)))
    ·exact ⟨(i+1,q.set i true),⟨by omega,by rw [List.length_set];exact ua,zUi hqv ua (by omega) (by assumption) (by rw [← jl,k1];rfl)⟩,by simp only;omega,by kernel_rfl,by kernel_rfl⟩
    ·exact ⟨(i+1,q.set i (zKH n K o i)),⟨by omega,by rw [List.length_set];exact ua,zUi hqv ua (by omega) (by assumption) (by rw [← jl,k1,zNp ho hr (by omega) (by omega)];rfl)⟩,by simp only;omega,by kernel_rfl,by kernel_rfl⟩
    ·exact ⟨(o+1,q),⟨by omega,ua,zTR hqv (.inl (by assumption))⟩,by simp only;omega,by kernel_rfl,by kernel_rfl⟩
   ·clear hL
    refine zAh<|zAc 2<|S_a [(0,.n q.length)] (ap (lnS PV.bool q) an)<|zAd 2<|zT6 32 ((↑i:Int)<(↑q.length:Int)) (by omega) (zAd 5<|zAa<|zA0<|zAA 4<|zAf<|zAd 1<|S_a [(1,.v (I (↑(o+1):Int)))] (ap (wrN o) an)<|zAd 1<|zAa ?_)
    exact ⟨(o+1,q),⟨by omega,ua,zTR hqv (.inr (by omega))⟩,by simp only;omega,by kernel_rfl,by kernel_rfl⟩
  ·have ho2:o=n.h.toNat:=by omega
   subst ho2
   have hrr:=zWu wJ jH
   have yg:L++[r]=(List.range (h+1)).map fun h=>zGe n K w h:=by
    rw [hL,hrr,List.range_succ,List.map_append,List.map_cons,List.map_nil]
   clear hL hrr jH
   refine zAh<|zAc 4<|zAa<|zAT ((↑n.h.toNat:Int)<n.h) (by omega)<|zAA 2<|zAf<|zAd 2<|S_a [(2,.yes)] (ap ((by exact zBu (by simp<;>omega)):(Nat.beq 0 0&&(List.map PV.bool r).length.beq (List.map PV.bool r).length)=true) an)<|S_a [(4,.ob),(0,.ob),(0,.yes),(2,.v (PV.own 1 (List.map lsB (L++[r]))))] (ap (blz (List.map lsB L))<|ap ((by exact zBi (by simp only [List.length_map,zzLn,zAY]<;>omega)):((List.map lsB L).length + [PV.own 1 (List.map PV.bool r)].length).ble zAY=true)<|ap ((by exact zBu (by simp<;>omega)):(0+(List.map lsB L).length).beq (List.map lsB L).length=true)<|ap ((zAW (zCI (by kernel_rfl))):PV.own 1 (List.map lsB L++[PV.own 1 (List.map PV.bool r)])=PV.own 1 (List.map lsB (L++[r]))) an)<|zAd 1<|zAa<|zAf<|zAd 1<|S_a [(1,.v (I (↑(h+1):Int)))] (ap (wrN h) an)<|zAd 1<|zAa ?_
   exact ⟨(h+1,L++[r]),⟨by omega,yg⟩,by simp only;omega,by kernel_rfl,by kernel_rfl⟩
 ·have e:h=n.h.toNat:=by omega
  subst e
  have hLe:L=zMk n K w:=hL
  clear hL
  refine zAh<|zAc 4<|zAa<|zAT ((↑n.h.toNat:Int)<n.h) (by omega)<|zAA 0<|zAc 1<|S_a [(2,.yes)] (ap ((by exact zBu (by simp<;>omega)):(Nat.beq 0 0&&(List.map lsB L).length.beq (List.map lsB L).length)=true) an)<|zAa<|zAn<|E_a [(1,.yes),(1,.v (PV.own 1 (List.map lsB L)))] (ap (blz (List.map lsB L))<|ap ((zAW zAQ):PV.own 1 (List.take (List.map lsB L).length (List.drop 0 (List.map lsB L)))=PV.own 1 (List.map lsB L)) an) (PV.own 1 (List.map lsB L)) [] ?_ rfl
  rw [hLe]
end Go.Eng
set_option maxRecDepth 10000
set_option maxHeartbeats 4000000
namespace Go.Eng
open Go Go.Proofs
def zLD (n:Nw) (K:List (List Bool)):List (List Bool):=(List.range n.h.toNat).map fun h=>(List.range n.n.length).map fun i=>kn K h i||(zHF n h n.h.toNat).any fun o=>zKH n K o i
theorem zN7 {n:Nw} {K:List (List Bool)} {w:List Int} (ho:NwOk n) (hr:RelK n K w):zLD n K=zMk n K w:=by
 unfold zLD zMk zGe nxB
 refine List.map_congr_left fun h _=>List.map_congr_left fun i hi=>?_
 congr 1
 rw [Bool.eq_iff_iff,List.any_eq_true,List.any_eq_true]
 refine exists_congr fun o=>and_congr_right fun hm=>?_
 rw [zNp ho hr (List.mem_range.1 (List.mem_filter.1 hm).1) (List.mem_range.1 hi)]
theorem f115 (n:Nw) (K:List (List Bool)) (ho:NwOk n) (hr:∃ w,RelK n K w):FG 115 [nwV n,knV K] (.own 1 ((zLD n K).map lsB)):=by
 obtain ⟨w,hr⟩:=hr
 rw [zN7 ho hr]
 exact zXW n K w ho hr
def zFH (n:Nw) (cs:List (Int×Int)):Nat→List (List Bool)
 | 0=>zPw n cs n.h.toNat
 | k+1=>zLD n (zFH n cs k)
theorem zHn {n:Nw} {cs:List (Int×Int)} (ho:CrW n cs):∀ k,RelK n (zFH n cs k) (zBh n cs k)
 | 0=>zVm ho
 | k+1=>by
  have ih:=zHn ho k
  show RelK n (zLD n (zFH n cs k)) (zC2 n (zBh n cs k))
  rw [zN7 ho.nw ih]
  exact zSp ho.nw ih
end Go.Eng
set_option maxRecDepth 10000
set_option maxHeartbeats 4000000
namespace Go.Eng
open Go Go.Proofs
theorem zHJ {α:Type} {g:α→PV} (h:∀ x,(g x).free=true):∀ l:List α,zEz (l.map g)=true
 | []=>by simp [zEz]
 | a::l=>by simp [zEz,h a,zHJ h l]
theorem zKg (K:List (List Bool)):(PV.own 1 (K.map lsB)).free=true:=by
 simp only [PV.free]
 exact zHJ (fun r=>by simp only [PV.free];exact zHJ (fun b=>by simp [PV.free]) r) K
theorem f95 (n:Nw) (cs:List (Int×Int)) (e:Int) (ho:CrW n cs) (he:0≤e∧e≤1000):FG 95 [nwV n,prs cs,I e] (.own 1 ((zFH n cs e.toNat).map lsB)):=by
 have hn:=ho.nw
 have hb:=hn.h
 refine zAe Tryz.f95 ?_
 refine zAc 2<|zAa<|zAc 2<|S_a [(8,.ret (PV.own 1 (List.map lsB (zPw n cs n.h.toNat))) [])] (ap (f112 n cs (by omega)) an)<|zAd 1<|zAa<|zAh<|zAc 1<|zAa<|zAi 0 ?_
 refine zAq (fun (K,i)=>i≤e.toNat∧K=zFH n cs i) (fun (K,i)=>[(7,.own 1 (K.map lsB)),(8,I (i:Nat))]) (fun (_,i)=>e.toNat-i) (zPw n cs n.h.toNat,(0:Nat)) ⟨by omega,rfl⟩ fun (K,i) ⟨hi,hK⟩=>?_
 have wJ:∃ w,RelK n K w:=⟨_,hK▸zHn ho i⟩
 have uM:K.length=n.h.toNat:=by obtain ⟨_,h⟩:=wJ;exact h.len
 by_cases yI:(i:Int)<e
 ·have yg:zLD n K=zFH n cs (i+1):=by rw [hK];rfl
  clear hK
  refine zAh<|zAc 3<|zAa<|zAU ((↑i:Int)<e) (by omega)<|zAk<|zAh<|zAi 1<|zAf<|zAd 2<|S_a [(5,.ob),(0,.v (PV.sl (List.map bls K))),(2,.ret (PV.own 1 (List.map lsB (zLD n K))) []),(1,.yes)] (ap (blz (List.map lsB K))<|ap (frC lsB bls K)<|ap (f115 n K (by omega) (by omega))<|ap (?_:(PV.own 1 (List.map lsB (zLD n K))).free=true) an)<|zAd 1<|zAa<|zAf<|zAd 1<|S_a [(1,.v (I (↑(i+1):Int)))] (ap (wrN i) an)<|zAd 1<|zAa ?_
  ·exact zKg _
  exact ⟨(zLD n K,i+1),⟨by omega,yg⟩,by simp only;omega,by kernel_rfl,by kernel_rfl⟩
 ·have e2:i=e.toNat:=by omega
  subst e2
  clear hi
  rw [hK]
  refine zAh<|zAc 3<|zAa<|zAT ((↑e.toNat:Int)<e) (by omega)<|zAA 0<|zAc 1<|S_a [(2,.yes)] (ap ((by exact zBu (by simp<;>omega)):(Nat.beq 0 0&&(List.map lsB (zFH n cs e.toNat)).length.beq (List.map lsB (zFH n cs e.toNat)).length)=true) an)<|zAa<|zAn<|E_a [(1,.yes),(1,.v (PV.own 1 (List.map lsB (zFH n cs e.toNat))))] (ap (blz (List.map lsB (zFH n cs e.toNat)))<|ap ((zAW zAQ):PV.own 1 (List.take (List.map lsB (zFH n cs e.toNat)).length (List.drop 0 (List.map lsB (zFH n cs e.toNat))))=PV.own 1 (List.map lsB (zFH n cs e.toNat))) an) (PV.own 1 (List.map lsB (zFH n cs e.toNat))) [] rfl rfl
end Go.Eng
set_option maxRecDepth 10000
set_option maxHeartbeats 4000000
namespace Go.Eng
open Go Go.Proofs
end Go.Eng
namespace Go.Eng
open Go Go.Proofs
end Go.Eng
namespace Go.Eng
open Go Go.Proofs
theorem zVg {a b v:Int}:v≤max a b↔v≤a∨v≤b:=by omega
theorem zRD {now w:List Int} {h o:Nat} (hw:w.length=80) (hh:h<10) {j:Nat} {v:Int}:∀ k,k≤8→(v≤(nxtR now h o w k).getD j 0↔v≤w.getD j 0∨∃ c,c<k∧j=h*8+c∧v≤now.getD (o*8+c) 0)
 | 0,_=>by
  refine ⟨.inl,fun h=>h.elim id fun ⟨c,h,_⟩=>absurd h (Nat.not_lt_zero c)⟩
 | k + 1,hk=>by
  have ih:=zRD (now:=now) (o:=o) hw hh (j:=j) (v:=v) k (by omega)
  rw [zJP,zIt (by rw [zGW,hw];omega)]
  split
  ·rename_i e
   rw [zVg,ih]
   constructor
   ·rintro ((h1 | ⟨c,h1,h2,h3⟩) | h1)
    ·exact .inl h1
    ·exact .inr ⟨c,by omega,h2,h3⟩
    ·exact .inr ⟨k,by omega,e.symm,h1⟩
   ·rintro (h1 | ⟨c,h1,h2,h3⟩)
    ·exact .inl (.inl h1)
    ·obtain rfl:c=k:=by omega
     exact .inr h3
  ·rename_i e
   rw [ih]
   refine or_congr Iff.rfl ⟨fun ⟨c,h1,h2,h3⟩=>⟨c,by omega,h2,h3⟩,fun ⟨c,h1,h2,h3⟩=>⟨c,?_,h2,h3⟩⟩
   by_cases hc:c=k
   ·subst hc;exact absurd h2.symm e
   ·omega
theorem zQa {now:List Int} {h:Nat} (hh:h<10) {j:Nat} {v:Int}:∀ (l:List Nat) {w:List Int},w.length=80→(v≤(nxtH now h w l).getD j 0↔v≤w.getD j 0∨∃ o∈l,∃ c,c<8∧j=h*8+c∧v≤now.getD (o*8+c) 0)
 | [],w,hw=>⟨.inl,fun h=>h.elim id fun ⟨o,h,_⟩=>absurd h List.not_mem_nil⟩
 | o :: l,w,hw=>by
  have ih:=zQa (now:=now) hh (j:=j) (v:=v) l (w:=nxtR now h o w 8) (by rw [zGW,hw])
  show v≤(nxtH now h (nxtR now h o w 8) l).getD j 0↔_
  rw [ih,zRD hw hh 8 (Nat.le_refl _)]
  constructor
  ·rintro ((h1 | h1) | ⟨o2,h1,h2⟩)
   ·exact .inl h1
   ·exact .inr ⟨o,List.mem_cons_self,h1⟩
   ·exact .inr ⟨o2,List.mem_cons_of_mem _ h1,h2⟩
  ·rintro (h1 | ⟨o2,h1,h2⟩)
   ·exact .inl (.inl h1)
   ·rcases List.mem_cons.1 h1 with e | h3
    ·subst e;exact .inl (.inr h2)
    ·exact .inr ⟨o2,h3,h2⟩
theorem zQK {n:Nw} {now:List Int} (hw:now.length=80) {j:Nat} {v:Int}:∀ k,k≤10→(v≤(nxtN n now k).getD j 0↔v≤now.getD j 0∨∃ h,h<k∧∃ o∈zHF n h n.h.toNat,∃ c,c<8∧j=h*8+c∧v≤now.getD (o*8+c) 0)
 | 0,_=>⟨.inl,fun h=>h.elim id fun ⟨c,h,_⟩=>absurd h (Nat.not_lt_zero c)⟩
 | k + 1,hk=>by
  have ih:=zQK (n:=n) hw (j:=j) (v:=v) k (by omega)
  rw [zJE,zQa (by omega) _ (by rw [zIn,hw]),ih]
  constructor
  ·rintro ((h1 | ⟨h,h1,h2⟩) | h2)
   ·exact .inl h1
   ·exact .inr ⟨h,by omega,h2⟩
   ·exact .inr ⟨k,by omega,h2⟩
  ·rintro (h1 | ⟨h,h1,h2⟩)
   ·exact .inl (.inl h1)
   ·by_cases e:h=k
    ·subst e;exact .inr h2
    ·exact .inl (.inr ⟨h,by omega,h2⟩)
theorem zQG {n:Nw} (ho:NwOk n) {w:List Int} (hw:w.length=80) {j:Nat} (hj:n.h.toNat*8≤j):(zC2 n w).getD j 0=w.getD j 0:=by
 have hH:=ho.h
 have key:∀ v:Int,v≤(zC2 n w).getD j 0↔v≤w.getD j 0:=fun v=>by
  unfold zC2
  rw [zQK hw _ (by omega)]
  refine ⟨fun h=>h.elim id fun ⟨h2,h3,o,h4,c2,h5,h6,h7⟩=>?_,.inl⟩
  omega
 have h1:=(key _).1 (Int.le_refl _)
 have h2:=(key _).2 (Int.le_refl _)
 omega
theorem zKM {n:Nw} {cs:List (Int×Int)} (ho:NwOk n) {j:Nat} (hj:n.h.toNat*8≤j):∀ e,(zBh n cs e).getD j 0=(zBh n cs 0).getD j 0
 | 0=>rfl
 | e+1=>by
  show (zC2 n (zBh n cs e)).getD j 0=_
  rw [zQG ho (zCe e) hj,zKM ho hj e]
theorem zVb {a b:List Int} (hl:a.length=b.length) (h:∀ j,j<a.length→a.getD j 0=b.getD j 0):a=b :=
 List.ext_getElem hl fun j h1 h2=>by have:=h j h1;rwa [zAt h1,zAt h2] at this
end Go.Eng
namespace Go.Eng
open Go Go.Proofs
def zXx (n:Nw) (A B:List (List Bool)) (h:Nat):Bool:=(List.range n.n.length).all fun i=>zKH n A h i==zKH n B h i
def zTC (n:Nw) (A B:List (List Bool)):Bool:=(List.range n.h.toNat).all fun h=>zXx n A B h
theorem zW2 {n:Nw} {A B:List (List Bool)} {w v:List Int} (ho:NwOk n) (hA:RelK n A w) (hB:RelK n B v) (hr:∀ j,n.h.toNat*8≤j→w.getD j 0=v.getD j 0):zTC n A B=decide (w=v):=by
 rw [Bool.eq_iff_iff,decide_eq_true_eq]
 constructor
 ·intro h
  have hh:∀ a i,a<n.h.toNat→i<n.n.length→hld n w a i=hld n v a i:=fun a i ha hi=>by
   have h1:=List.all_eq_true.1 (List.all_eq_true.1 h a (List.mem_range.2 ha)) i (List.mem_range.2 hi)
   rw [beq_iff_eq,zNp ho hA ha hi,zNp ho hB ha hi] at h1
   exact h1
  refine zVb (by rw [hA.wl,hB.wl]) fun j hj=>?_
  by_cases hj2:n.h.toNat*8≤j
  ·exact hr j hj2
  ·have hc:j % 8<8:=Nat.mod_lt _ (by omega)
   have ha:j / 8<n.h.toNat:=by omega
   have he:j / 8*8+j % 8=j:=by omega
   have h1:=hA.at_ (j / 8) (j % 8) ha hc
   have h2:=hB.at_ (j / 8) (j % 8) ha hc
   rw [he] at h1 h2
   rcases h1 with h1 | ⟨i,g1,g2,g3,_⟩
   ·rcases h2 with h2 | ⟨k,q1,q2,q3,_⟩
    ·rw [h1,h2]
    ·have h3:=hh (j / 8) k ha q1
     simp only [hld,q2,Int.toNat_natCast,he,q3,h1,decide_eq_decide,iff_true] at h3
     omega
   ·have h3:=hh (j / 8) i ha g1
    simp only [hld,g2,Int.toNat_natCast,he,g3,decide_eq_decide,true_iff] at h3
    rw [g3,h3]
 ·rintro rfl
  refine List.all_eq_true.2 fun a ha=>List.all_eq_true.2 fun i hi=>?_
  rw [beq_iff_eq,zNp ho hA (List.mem_range.1 ha) (List.mem_range.1 hi),zNp ho hB (List.mem_range.1 ha) (List.mem_range.1 hi)]
theorem zL8 {n:Nw} (ho:NwOk n) {h j:Nat} (hj:(h+1)*8≤j):∀ (cs:List (Int×Int)) {w:List Int},(∀ c∈cs,0≤c.1∧c.1<n.n.length)→(begH n h w cs).getD j 0=w.getD j 0
 | [],w,_=>rfl
 | c :: cs,w,hc=>by
  have jS:=hc c List.mem_cons_self
  have h8:=ho.nl.2
  have hf:=zB0 ho c.1.toNat (by omega)
  show (begH n h (begC n h w c) cs).getD j 0=_
  rw [zL8 ho hj cs fun d hd=>hc d (List.mem_cons_of_mem _ hd),begC]
  split
  ·unfold zPo
   rw [zC5,if_neg (by omega)]
  ·rfl
theorem zI8 {n:Nw} {cs:List (Int×Int)} (ho:CrW n cs) {j:Nat}:∀ k,k*8≤j→(begN n cs k).getD j 0=(List.replicate 80 (-1:Int)).getD j 0
 | 0,_=>rfl
 | k+1,h=>by
  rw [zGI,zL8 ho.nw h cs fun c hc=>(ho.cs c hc).1]
  exact zI8 ho k (by omega)
theorem zWc {n:Nw} {cs ds:List (Int×Int)} (ho:CrW n cs) (hd:CrW n ds) (i k:Nat):zTC n (zFH n cs i) (zFH n ds k)=decide (zBh n cs i=zBh n ds k) :=
 zW2 ho.nw (zHn ho i) (zHn hd k) fun j hj=>by
  rw [zKM ho.nw hj,zKM hd.nw hj k]
  show (begN n cs n.h.toNat).getD j 0=(begN n ds n.h.toNat).getD j 0
  rw [zI8 ho _ hj,zI8 hd _ hj]
end Go.Eng
namespace Go.Eng
open Go Go.Proofs
def zDE (n:Nw):Int:=if zBt n.h n.l=0 then if zCw n.n=0 then if (!n.s.all fun x=>zIs n.h x)=true then 1 else if (!n.s.all fun x=>zC7 x)=true then 4 else 0 else zCw n.n else zBt n.h n.l
theorem zVD {n:Nw} (h1:(!inB n.h 1 10)=false) (h2:¬ (n.l.length:Int)>15) (h3:(!inB n.n.length 1 8)=false) (h4:(!inB n.s.length 1 6)=false):zCS n=zDE n:=by
 simp only [zCS,h1,h2,h3,h4,if_false];rfl
theorem zJp {α:Type} {p:α→Bool} {l:List α} {i:Nat} {d:α} (h:i<l.length) (hx:p (l.getD i d)=false):(l.all p)=false:=by
 rw [zAt h] at hx
 simp only [List.all_eq_false]
 exact ⟨_,List.getElem_mem h,by simp [hx]⟩
theorem zKG {α:Type} {p:α→Bool} {l:List α} {d:α} (h:∀ i,i<l.length→p (l.getD i d)=true):(l.all p)=true:=by
 simp only [List.all_eq_true]
 intro x hx
 obtain ⟨i,hi,rfl⟩:=List.getElem_of_mem hx
 have:=h i hi
 rwa [zAt hi] at this
theorem zOu {n:Nw} {i:Nat} (hi:i<n.l.length) (h:zGF n.h (n.l.getD i default)=false):zDE n=1:=by
 have:zBt n.h n.l=1:=by simp only [zBt,zJp hi h];rfl
 simp only [zDE,this];rfl
theorem zUx {n:Nw} {i:Nat} (ha:(n.l.all fun x=>zGF n.h x)=true) (hi:i<n.l.length) (h:zHI (n.l.getD i default)=false):zDE n=8:=by
 have:zBt n.h n.l=8:=by simp only [zBt,ha,zJp hi h];rfl
 simp only [zDE,this];rfl
theorem zVE {n:Nw} {i k:Nat} (ha:(n.l.all fun x=>zGF n.h x)=true) (hb:(n.l.all fun x=>zHI x)=true) (kD:k<i) (hi:i<n.l.length) (h:pr2 (n.l.getD i default)=pr2 (n.l.getD k default)):zDE n=5:=by
 have hn:¬ (n.l.map pr2).Nodup:=fun yW=>by
  have:=(List.pairwise_iff_getElem.1 yW) k i (by simp;omega) (by simp;omega) kD
  rw [List.getElem_map,List.getElem_map] at this
  rw [zAt hi,zAt (by omega)] at h
  exact this h.symm
 have:zBt n.h n.l=5:=by simp only [zBt,ha,hb,hn,if_true,if_false]
 simp only [zDE,this];rfl
theorem zVQ {n:Nw} (ha:(n.l.all fun x=>zGF n.h x)=true) (hb:(n.l.all fun x=>zHI x)=true) (h:∀ i,i<n.l.length→∀ k,k<i→pr2 (n.l.getD i default)≠pr2 (n.l.getD k default)):zBt n.h n.l=0:=by
 have hn:(n.l.map pr2).Nodup:=by
  refine List.pairwise_iff_getElem.2 fun k i h1 h2 kD=>?_
  simp only [List.length_map] at h1 h2
  have:=h i h2 k kD
  rw [zAt h2,zAt h1] at this
  simp only [List.getElem_map]
  exact fun e=>this e.symm
 simp only [zBt,ha,hb,hn,if_true]
theorem zUt {n:Nw} (hl:zBt n.h n.l=0) {i:Nat} (hi:i<n.n.length) (h:inB (n.n.getD i default).1 (-1) ((i:Int)-1)=false):zDE n=1:=by
 have:zNg n.n=false:=by
  simp only [zNg,List.all_eq_false]
  exact ⟨i,List.mem_range.2 hi,by rw [h];simp⟩
 have:zCw n.n=1:=by simp only [zCw,this];rfl
 simp only [zDE,hl,this];rfl
theorem zXZ {n:Nw} (h:∀ i,i<n.n.length→inB (n.n.getD i default).1 (-1) ((i:Int)-1)=true):zNg n.n=true:=by
 simp only [zNg,List.all_eq_true,List.mem_range];exact h
theorem zUm {l:List (Int×Bool)} {i:Nat} (hi:i<l.length) (hr:inB (l.getD i default).1 (-1) ((i:Int)-1)=true):zLH l i=true↔∃ k,k<i∧0≤(l.getD i default).1∧(l.getD i default).1=(l.getD k default).1:=by
 have hr:=zEx hr
 simp only [zLH,Bool.and_eq_true,decide_eq_true_eq,List.any_eq_true]
 constructor
 ·rintro ⟨h1,x,h2,h3⟩
  obtain ⟨k,hk,rfl⟩:=List.getElem_of_mem h2
  rw [List.length_take] at hk
  refine ⟨k,by omega,by omega,?_⟩
  rw [zAt (l:=l) (i:=k) (by omega)]
  rw [List.getElem_take] at h3
  exact h3.symm
 ·rintro ⟨k,h1,h2,h3⟩
  refine ⟨by omega, (l.take i)[k]'(by rw [List.length_take]; omega), List.getElem_mem _, ?_⟩
  rw [List.getElem_take,h3,zAt (l:=l) (i:=k) (by omega)]
theorem zUw {n:Nw} (hl:zBt n.h n.l=0) (hn:zNg n.n=true) {i k:Nat} (kD:k<i) (hi:i<n.n.length) (h1:(n.n.getD i default).1≥0) (h2:(n.n.getD i default).1=(n.n.getD k default).1):zDE n=5:=by
 have hr:inB (n.n.getD i default).1 (-1) ((i:Int)-1)=true:=by
  simp only [zNg,List.all_eq_true,List.mem_range] at hn;exact hn i hi
 have:(List.range n.n.length).any (zLH n.n)=true:=List.any_eq_true.2 ⟨i,List.mem_range.2 hi,(zUm hi hr).2 ⟨k,kD,h1,h2⟩⟩
 have:zCw n.n=5:=by simp only [zCw,hn,this,if_true]
 simp only [zDE,hl,this];rfl
theorem zWR {n:Nw} (hn:zNg n.n=true) (h:∀ i,i<n.n.length→∀ k,k<i→¬ ((n.n.getD i default).1≥0∧(n.n.getD i default).1=(n.n.getD k default).1)):zCw n.n=0:=by
 have:(List.range n.n.length).any (zLH n.n)=false:=by
  simp only [List.any_eq_false,List.mem_range]
  intro i hi ht
  have hr:inB (n.n.getD i default).1 (-1) ((i:Int)-1)=true:=by
   simp only [zNg,List.all_eq_true,List.mem_range] at hn;exact hn i hi
  obtain ⟨k,h1,h2,h3⟩:=(zUm hi hr).1 ht
  exact h i hi k h1 ⟨h2,h3⟩
 simp only [zCw,hn,this,if_true];rfl
theorem zU6 {n:Nw} (hl:zBt n.h n.l=0) (hn:zCw n.n=0) {s i:Nat} (hs:s<n.s.length) (hi:i<(n.s.getD s []).length) (h:inB ((n.s.getD s []).getD i 0) 0 (n.h-1)=false):zDE n=1:=by
 have:(n.s.all fun x=>zIs n.h x)=false:=zJp (d:=[]) hs (zJp (d:=0) hi h)
 simp only [zDE,hl,hn,this];rfl
theorem zUO {n:Nw} (hl:zBt n.h n.l=0) (hn:zCw n.n=0) (hs:(n.s.all fun x=>zIs n.h x)=true) {s i:Nat} (jZ:s<n.s.length) (hi:i+1<(n.s.getD s []).length) (h:(n.s.getD s []).getD i 0≥(n.s.getD s []).getD (i+1) 0):zDE n=4:=by
 have h1:zC7 (n.s.getD s [])=false:=by
  rw [zHq]
  simp only [zSn,List.all_eq_false,List.mem_range,decide_eq_true_eq]
  exact ⟨i,by omega,by omega⟩
 have:(n.s.all fun x=>zC7 x)=false:=zJp (d:=[]) jZ h1
 simp only [zDE,hl,hn,hs,this];rfl
theorem zWt {l:List Int} (h:∀ i,i+1<l.length→l.getD i 0<l.getD (i+1) 0):zC7 l=true:=by
 rw [zHq]
 simp only [zSn,List.all_eq_true,List.mem_range,decide_eq_true_eq]
 exact fun i hi=>h i (by omega)
theorem zWl {n:Nw} (hl:zBt n.h n.l=0) (hn:zCw n.n=0) (hs:(n.s.all fun x=>zIs n.h x)=true) (ho:(n.s.all fun x=>zC7 x)=true):zDE n=0:=by
 simp only [zDE,hl,hn,hs,ho];rfl
end Go.Eng
