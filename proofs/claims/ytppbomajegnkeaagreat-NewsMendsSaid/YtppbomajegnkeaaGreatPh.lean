/- For whatever news, cries, evenings, cry and stands, the law NewsMends returns true and changes no argument: the gaps that a further cry mends, and those that none does, are as the reference tells them. -/
import Derived.Test.YtppbomajegnkeaaGreatPg
import Derived.Test.YtppbomajegnkeaaGreatPd
set_option linter.unusedVariables false
set_option linter.unusedSimpArgs false
set_option linter.unusedSectionVars false
set_option maxRecDepth 10000
set_option maxHeartbeats 4000000
namespace Go.Eng
open Go Go.Proofs
def zTM (n:Nw) (i:Nat):Bool:=decide ((zA2 n).getD i 0=i) && !(n.n.getD i default).2
def zJR (p:Nat→Bool) (k:Nat):List Int:=((List.range k).filter p).map fun (i:Nat)=>(i:Int)
theorem zP0 {p:Nat→Bool} {k:Nat}:zJR p (k+1)=if p k=true then zJR p k++[(k:Int)] else zJR p k:=by
 unfold zJR;rw [List.range_succ,List.filter_append,List.map_append]
 by_cases hn:p k=true
 ·rw [if_pos hn];simp [hn]
 ·rw [if_neg hn];simp [hn]
theorem zRX {p:Nat→Bool} {k:Nat}:(zJR p k).length≤k:=by
 unfold zJR;rw [List.length_map];exact Nat.le_trans (List.length_filter_le _ _) (by simp)
theorem f86_1 (n:Nw) (ho:NwOk n):FG 86 [nwV n] (.tup [.own 1 ((zJR (zTM n) n.n.length).map I),I 0]):=by
 have ka:=ho.nl
 refine zAf Tryz.f86 ?_
 refine zAd 3<|zAa<|zAd 1<|S_a [(6,.ret (PV.tup [(zCC n (PV.own 2 []) (zUf (List.map pr2 n.l)) (zAk n) (zA2 n)).box,I 0]) [])] (ap (f139_1 n (by omega)) an)<|zAc 5<|zAa<|zAg<|zAd 2<|zAa<|zAW<|zAj<|zAd 1<|zAa<|zAg<|zAd 2<|S_a [(0,.n n.n.length)] (ap (lnS ntV n.n) an)<|zAc 1<|zAa<|zAh 0 ?_
 refine zAo (fun (i,l)=>i≤n.n.length∧l=zJR (zTM n) i) (fun (i,l)=>[(6,.own 1 (l.map I)),(20,I (i:Nat))]) (fun (i,_)=>n.n.length-i) ((0:Nat),([]:List Int)) ⟨by omega,by simp [zJR]⟩ fun (i,l) ⟨hi,hl⟩=>?_
 have qG:l.length≤i:=by rw [hl];exact zRX
 by_cases yB:i<n.n.length
 ·have yU:=zP0 (p:=zTM n) (k:=i)
  rw [← hl] at yU
  have kH:zTM n i=false→l=zJR (zTM n) (i+1):=fun h=>by rw [yU,if_neg (by rw [h];simp)]
  refine zAd 1<|zAa<|zAg<|zAJ ((↑i:Int)<(↑n.n.length:Int)) (by omega)<|zAj<|zAg<|zAh 1<|zAd 1<|S_a [(2,.v (PV.agg [I (n.n.getD i default).fst,PV.bool (n.n.getD i default).snd]))] (ap (zBx default (by omega):(List.map ntV n.n)[i]? = some (PV.agg [I (n.n.getD i default).fst,PV.bool (n.n.getD i default).snd])) an)<|zAc 4<|zAa<|zAd 4<|S_a [(2,.ob),(1,.v (PV.addr 4 [] 0 (14+i) none))] (ap ((by exact zAr (by omega)):decide (i<8)=true)<|ap ((zFU (by kernel_rfl)):PV.addr 4 [] 0 (14+i*(fun x=>x.size) Tryz.prog.types[3]) none=PV.addr 4 [] 0 (14+i) none) an)<|S_a [(0,.cs true ([I ((zA2 n).getD i 0)]))] (ap (zDb (q:=(PV.agg (I n.h::prs n.l::PV.sl (List.map ntV n.n)::PV.sl (List.map zAw n.s)::PV.own 2 []::PV.omap (List.map zBv (List.map pr2 n.l))::(zAQ (zAk n) 8++zAQ (zA2 n) 8))).box) (xs:=[PV.agg (I n.h::prs n.l::PV.sl (List.map ntV n.n)::PV.sl (List.map zAw n.s)::PV.own 2 []::PV.omap (List.map zBv (List.map pr2 n.l))::(zAQ (zAk n) 8++zAQ (zA2 n) 8))]) (x:=PV.agg (I n.h::prs n.l::PV.sl (List.map ntV n.n)::PV.sl (List.map zAw n.s)::PV.own 2 []::PV.omap (List.map zBv (List.map pr2 n.l))::(zAQ (zAk n) 8++zAQ (zA2 n) 8))) rfl rfl (zKC (A:=I n.h::prs n.l::PV.sl (List.map ntV n.n)::PV.sl (List.map zAw n.s)::PV.own 2 []::PV.omap (List.map zBv (List.map pr2 n.l))::zAQ (zAk n) 8) (B:=[]) (F:=zA2 n) (m:=8) (j:=i) (by first | rfl | exact zB3 (by kernel_rfl) | exact zB5 (by kernel_rfl) | exact zDN (by kernel_rfl) (by kernel_rfl) | exact zDV (by kernel_rfl) | exact zD5 (by kernel_rfl) (by kernel_rfl) | exact zDO (by kernel_rfl) | (simp;done)) (by omega)):zAv 4 (PV.agg (I n.h::prs n.l::PV.sl (List.map ntV n.n)::PV.sl (List.map zAw n.s)::PV.own 2 []::PV.omap (List.map zBv (List.map pr2 n.l))::(zAQ (zAk n) 8++zAQ (zA2 n) 8))).box [] 0 (14+i) 1=some (true,[I ((zA2 n).getD i 0)])) an)<|zAc 3<|zDa 33 ((zA2 n).getD i 0=(↑i:Int)) (fun k0=>(zAc 4<|zAa<|zDf (!(n.n.getD i default).snd) (fun k1=>(zAe<|zAc 3<|S_a [(4,.ob),(0,.ob),(0,.yes),(2,.v (PV.own 1 (List.map I (l++[(↑i:Int)]))))] (ap (blz (List.map I l))<|ap ((by exact zA9 (by simp only [List.length_map,zzLn,zA1]<;>omega)):((List.map I l).length + [I (↑i:Int)].length).ble zA1=true)<|ap ((by exact zBj (by simp<;>omega)):(0+(List.map I l).length).beq (List.map I l).length=true)<|ap ((zAE (zB0 (by kernel_rfl))):PV.own 1 (List.map I l++[I (↑i:Int)])=PV.own 1 (List.map I (l++[(↑i:Int)]))) an)<|zAc 1<|zAa<|zAe<|S_a [(1,.v (I (↑(i+1):Int)))] (ap (wrN i) an)<|zAc 1<|zAa ?_)) (fun k1=>(zAj<|zAe<|S_a [(1,.v (I (↑(i+1):Int)))] (ap (wrN i) an)<|zAc 1<|zAa ?_)))) (fun k0=>(zAc 4<|zAa<|zAW<|zAj<|zAe<|S_a [(1,.v (I (↑(i+1):Int)))] (ap (wrN i) an)<|zAc 1<|zAa ?_))
  ·rw [if_pos (by simp only [zTM,decide_eq_true k0,k1];rfl)] at yU
   exact ⟨(i+1,l++[(i:Int)]),⟨by omega,yU.symm⟩,by simp only;omega,by kernel_rfl,by kernel_rfl⟩
  ·exact ⟨(i+1,l),⟨by omega,kH (by simp only [zTM,decide_eq_true k0,k1];rfl)⟩,by simp only;omega,by kernel_rfl,by kernel_rfl⟩
  ·exact ⟨(i+1,l),⟨by omega,kH (by simp only [zTM,decide_eq_false k0,Bool.false_and])⟩,by simp only;omega,by kernel_rfl,by kernel_rfl⟩
 ·refine zAd 1<|zAa<|zAg<|zAK ((↑i:Int)<(↑n.n.length:Int)) (by omega)<|zAs 0<|zAd 1<|S_a [(2,.yes)] (ap ((by exact zBj (by simp<;>omega)):(Nat.beq 0 0&&(List.map I l).length.beq (List.map I l).length)=true) an)<|zAc 1<|zAa<|zAm<|E_a [(1,.yes),(1,.v (PV.own 1 (List.map I l)))] (ap (blz (List.map I l))<|ap ((zAE zAz):PV.own 1 (List.take (List.map I l).length (List.drop 0 (List.map I l)))=PV.own 1 (List.map I l)) an) (PV.tup [PV.own 1 (List.map I l),I 0]) [] ?_ rfl
  rw [hl,show i=n.n.length by omega]
def bkL (n:Nw) (cs:List (Int×Int)) (c:Nat) (x:Int):Nat→List Int→List Int
 | 0,out=>out
 | k+1,out=>bkL n cs c x k (match (zIf n (out.getD 0 0).toNat n.h.toNat).find? fun o=>decide ((zAL n cs k).getD (o*8+c) 0=x) with | some o=>(o:Int)::out | none=>out)
abbrev zUC (S:List (List Int)):PV := .box (.own 80 (S.map hdV))
def zQV (n:Nw) (cs:List (Int×Int)) (k:Nat):List (List Int):=(List.range k).map fun k=>zAL n cs k
theorem zMy {n:Nw} {cs:List (Int×Int)} {k:Nat}:zQV n cs (k+1)=zQV n cs k++[zAL n cs k]:=by
 simp only [zQV,List.range_succ,List.map_append,List.map_cons,List.map_nil]
theorem zLs {n:Nw} {cs:List (Int×Int)} {k j:Nat} (h:j<k):(zQV n cs k).getD j []=zAL n cs j:=by
 simp [zQV,List.getD_eq_getElem?_getD,h]
theorem zVM (n:Nw) (cs:List (Int×Int)) (h:Int) (ho:NwOk n) (hh:0≤h∧h<n.h):zF5 169 [] [.ref (zDv n cs),.ref (I h)] (zIV n h.toNat n.h.toNat):=by
 obtain ⟨g,rfl⟩:∃ g:Nat,h=g:=⟨h.toNat,by omega⟩
 exact zUt n cs g ho hh.2
theorem zKE {p:Nat→Bool}:∀ {l:List Nat} {j o:Nat},l[j]? = some o→p o=true→(∀ i,i<j→p (l.getD i 0)=false)→l.find? p=some o
 | [],j,o,h,_,_=>by cases h
 | x::l,0,o,h,hp,_=>by
  simp only [List.getElem?_cons_zero,Option.some.injEq] at h
  subst h;rw [List.find?_cons,hp]
 | x::l,j+1,o,h,hp,ha=>by
  have h0:=ha 0 (by omega)
  simp only [List.getD_cons_zero] at h0
  rw [List.find?_cons,h0]
  exact zKE (by simpa using h) hp fun i hi=>by simpa using ha (i+1) (by omega)
theorem zPF {p:Nat→Bool} {l:List Nat} (ha:∀ i,i<l.length→p (l.getD i 0)=false):l.find? p=none:=by
 rw [List.find?_eq_none]
 intro x hx
 obtain ⟨i,hi,rfl⟩:=List.getElem_of_mem hx
 have:=ha i hi
 rw [zAq hi] at this
 simp [this]
theorem f38_1 (n:Nw) (cs:List (Int×Int)) (h:Int) (x:Int) (k:Nat) (ho:CrOk n cs) (hh:0≤h∧h<n.h) (hx:0≤x∧x<n.n.length) (hk:k≤12) (jp:(zAL n cs k).getD (h.toNat*8+((zAk n).getD x.toNat 0).toNat) 0=x) (hm:∀ j,j<k→(zAL n cs j).getD (h.toNat*8+((zAk n).getD x.toNat 0).toNat) 0≠x):FG 38 [nwV n,prs cs,I h,I x] (.tup [.own 1 ((bkL n cs ((zAk n).getD x.toNat 0).toNat x k [h]).map I),I 0]):=by
 have hn:=ho.nw
 have kg:=ho.w
 have hb:=hn.h
 have ka:=hn.nl
 have hin:inB x 0 (n.n.length-1)=true:=by simp only [inB,Bool.and_eq_true,decide_eq_true_eq];omega
 have hih:inB h 0 (n.h-1)=true:=by simp only [inB,Bool.and_eq_true,decide_eq_true_eq];omega
 have hfb:=zCj hn x.toNat (by omega)
 refine zAf Tryz.f38 ?_
 refine zAd 4<|zAa<|zAd 2<|S_a [(8,.ret (PV.tup [zDv n cs,I 0]) [])] (ap (f99_1 n cs (by omega)) an)<|zAc 5<|zAa<|zAg<|zAh 0<|zAd 3<|zAa<|zAW<|zAd 2<|S_a [(8,.ret (PV.bool (inB h 0 (n.h-1))) [])] (ap (f109 n h (by omega)) an)<|zAc 2<|zDt 32 (!inB h 0 (n.h-1)) (fun k1=>(zAc 6<|zAa<|zBM<|zAd 2<|zAa<|zAm<|E_a [] an (PV.tup [PV.own 1 [],I 1]) [] ?_ rfl)) (fun k1=>(zAc 2<|S_a [(8,.ret (PV.bool (inB x 0 ((↑n.n.length:Int)-1))) [])] (ap (f106 n x (by first | omega | (simp<;>omega))) an)<|zAc 3<|zAa<|zDf (!inB x 0 ((↑n.n.length:Int)-1)) (fun k2=>(zAd 2<|zAa<|zAm<|E_a [] an (PV.tup [PV.own 1 [],I 1]) [] ?_ rfl)) (fun k2=>(zAj<|zAd 4<|S_a [(0,.ob),(1,.ob),(0,.v ((I ((zAk n).getD x.toNat 0)).ref))] (ap ((by exact zAr (by omega)):decide (0≤x)=true)<|ap ((by exact zAr (by omega)):decide (x.toNat<8)=true)<|ap (zGQ (F:=zAk n) (m:=8) (j:=x.toNat) (by omega):zCo (PV.agg (zAQ (zAk n) 8)).ref (x.toNat*(fun x=>x.size) Tryz.prog.types[3]) none=some (I ((zAk n).getD x.toNat 0)).ref) an)<|zAc 3<|zAa<|zAd 1<|S_a [(5,.ret (hdV (zOf n cs)) [])] (ap (f100 n cs (by omega)) an)<|zAc 3<|zAa<|zAg<|zAh 1 ?_))))
 ·rw [hih] at k1;cases k1
 ·rw [hin] at k2;cases k2
 ·generalize hc:((zAk n).getD x.toNat 0)=c at *
  refine zAo (fun (j,S)=>j≤k∧S=zQV n cs (j+1)) (fun (j,S)=>[(13,zUC S)]) (fun (j,_)=>k-j) ((0:Nat),[zOf n cs]) ⟨by omega,rfl⟩ fun (j,S) ⟨hj,hS⟩=>?_
  have hSl:S.length=j+1:=by rw [hS];simp [zQV]
  have qH:S.getD (S.length-1) []=zAL n cs j:=by rw [hSl,hS];exact zLs (by omega)
  have hwl:(S.getD (S.length-1) []).length=80:=by rw [qH];exact zCT j
  by_cases wI:j<k
  ·have hI:=hm j wI
   rw [← qH] at hI
   have hSS:S++[zDZ n (S.getD (S.length-1) [])]=zQV n cs (j+1+1):=by rw [zMy (k:=j+1),← hS,qH];rfl
   refine zAg<|zAg<|zAe<|S_a [(1,.v (PV.bor 13 [(0,0)] 80 0 S.length))] (ap ((by simp):PV.bor 13 [(0,0)] 80 0 (List.map hdV S).length=PV.bor 13 [(0,0)] 80 0 S.length) an)<|S_a [(1,.v (PV.bor 13 [(0,0)] 80 0 S.length))] (ap ((by simp):PV.bor 13 [(0,0)] 80 0 (List.map hdV S).length=PV.bor 13 [(0,0)] 80 0 S.length) an)<|zAc 1<|S_a [(1,.v (I (↑(S.length-1):Int)))] (ap ((zCP (by omega) (by omega)):I (IntKind.i64.wrap ((↑S.length:Int)-1))=I (↑(S.length-1):Int)) an)<|zAc 2<|S_a [(2,.ob),(1,.n (S.length-1))] (ap ((by exact zAr (by omega)):decide (S.length-1<S.length)=true)<|ap ((by simp):some (0+(S.length-1))=some (S.length-1)) an)<|S_a [(0,.ob),(1,.ob)] (ap ((by exact zAr (by omega)):decide (0≤h)=true)<|ap ((by exact zAr (by omega)):decide (h.toNat<10)=true) an)<|S_a [(0,.ob),(1,.ob)] (ap ((by exact zAr (by omega)):decide (0≤c)=true)<|ap ((by exact zAr (by omega)):decide (c.toNat<8)=true) an)<|S_a [(0,.cs true ([I ((S.getD (S.length-1) []).getD (h.toNat*8+c.toNat) 0)]))] (ap (zDb (q:=PV.own 80 (List.map hdV S)) (xs:=List.map hdV S) (x:=PV.agg (zAQ (S.getD (S.length-1) []) 80)) (zKO (xs:=[PV.own 80 (List.map hdV S)]) (x:=PV.own 80 (List.map hdV S)) (y:=PV.own 80 (List.map hdV S)) rfl rfl) (zBx [] (by omega)) (zFj (F:=S.getD (S.length-1) []) (m:=80) (j:=h.toNat*8+c.toNat) (by first | rfl | exact zB3 (by kernel_rfl) | exact zB5 (by kernel_rfl) | exact zDN (by kernel_rfl) (by kernel_rfl) | exact zDV (by kernel_rfl) | exact zD5 (by kernel_rfl) (by kernel_rfl) | exact zDO (by kernel_rfl) | (simp;done)) (by omega)):zAv 13 (PV.own 80 (List.map hdV S)).box [(0,0)] (S.length-1) (0+h.toNat*(fun x=>x.size) Tryz.prog.types[128]+c.toNat*(fun x=>x.size) Tryz.prog.types[3]) 1=some (true,[I ((S.getD (S.length-1) []).getD (h.toNat*8+c.toNat) 0)])) an)<|zAc 2<|zAa<|zCH ((S.getD (S.length-1) []).getD (h.toNat*8+c.toNat) 0=x) (by omega)<|zAj<|zAh 2<|zAg<|zAg<|zAe<|S_a [(1,.v (PV.bor 13 [(0,0)] 80 0 S.length))] (ap ((by simp):PV.bor 13 [(0,0)] 80 0 (List.map hdV S).length=PV.bor 13 [(0,0)] 80 0 S.length) an)<|zAc 2<|zAa<|zAK ((↑S.length:Int)>12) (by omega)<|zAj<|zAe<|S_a [(1,.v (PV.bor 13 [(0,0)] 80 0 S.length))] (ap ((by simp):PV.bor 13 [(0,0)] 80 0 (List.map hdV S).length=PV.bor 13 [(0,0)] 80 0 S.length) an)<|zAc 1<|S_a [(1,.v (PV.bor 13 [(0,0)] 80 0 S.length))] (ap ((by simp):PV.bor 13 [(0,0)] 80 0 (List.map hdV S).length=PV.bor 13 [(0,0)] 80 0 S.length) an)<|S_a [(1,.v (PV.bor 13 [(0,0)] 80 0 S.length))] (ap ((by simp):PV.bor 13 [(0,0)] 80 0 (List.map hdV S).length=PV.bor 13 [(0,0)] 80 0 S.length) an)<|zAc 1<|S_a [(1,.v (I (↑(S.length-1):Int)))] (ap ((zCP (by omega) (by omega)):I (IntKind.i64.wrap ((↑S.length:Int)-1))=I (↑(S.length-1):Int)) an)<|S_a [(2,.ob),(1,.n (S.length-1))] (ap ((by exact zAr (by omega)):decide (S.length-1<S.length)=true)<|ap ((by simp):some (0+(S.length-1))=some (S.length-1)) an)<|S_a [(0,.cs true (zAQ (S.getD (S.length-1) []) 80))] (ap (zDb (q:=PV.own 80 (List.map hdV S)) (xs:=List.map hdV S) (x:=PV.agg (zAQ (S.getD (S.length-1) []) 80)) (zKO (xs:=[PV.own 80 (List.map hdV S)]) (x:=PV.own 80 (List.map hdV S)) (y:=PV.own 80 (List.map hdV S)) rfl rfl) (zBx [] (by omega)):zAv 13 (PV.own 80 (List.map hdV S)).box [(0,0)] (S.length-1) 0 Tryz.prog.types[130].size=some (true,zAQ (S.getD (S.length-1) []) 80)) an)<|S_a [(7,.ret (hdV (zDZ n (S.getD (S.length-1) []))) [])] (ap (f101 n cs (S.getD (S.length-1) []) (by omega) (by omega)) an)<|zAc 1<|S_a [(4,.ob),(0,.ob),(0,.yes),(2,.v (PV.own 80 (List.map hdV (S++[zDZ n (S.getD (S.length-1) [])]))))] (ap ((by exact zA9 (by simp only [List.length_map,zzLn,zA1]<;>omega)):(0+S.length).ble (List.map hdV S).length=true)<|ap ((by exact zA9 (by simp only [List.length_map,zzLn,zA1]<;>omega)):((List.map hdV S).length + [PV.agg (zAQ (zDZ n (S.getD (S.length-1) [])) 80)].length).ble zA1=true)<|ap ((by exact zBj (by simp<;>omega)):(0+S.length).beq (List.map hdV S).length=true)<|ap ((zAE (zB0 (by kernel_rfl))):PV.own 80 (List.map hdV S++[PV.agg (zAQ (zDZ n (S.getD (S.length-1) [])) 80)])=PV.own 80 (List.map hdV (S++[zDZ n (S.getD (S.length-1) [])]))) an)<|zAc 1<|zAa ?_
   exact ⟨(j+1,S++[zDZ n (S.getD (S.length-1) [])]),⟨by omega,hSS⟩,by simp only;omega,by kernel_rfl,by kernel_rfl⟩
  ·have e:j=k:=by omega
   subst e
   rw [← qH] at jp
   refine zAg<|zAg<|zAe<|S_a [(1,.v (PV.bor 13 [(0,0)] 80 0 S.length))] (ap ((by simp):PV.bor 13 [(0,0)] 80 0 (List.map hdV S).length=PV.bor 13 [(0,0)] 80 0 S.length) an)<|S_a [(1,.v (PV.bor 13 [(0,0)] 80 0 S.length))] (ap ((by simp):PV.bor 13 [(0,0)] 80 0 (List.map hdV S).length=PV.bor 13 [(0,0)] 80 0 S.length) an)<|zAc 1<|S_a [(1,.v (I (↑(S.length-1):Int)))] (ap ((zCP (by omega) (by omega)):I (IntKind.i64.wrap ((↑S.length:Int)-1))=I (↑(S.length-1):Int)) an)<|zAc 2<|S_a [(2,.ob),(1,.n (S.length-1))] (ap ((by exact zAr (by omega)):decide (S.length-1<S.length)=true)<|ap ((by simp):some (0+(S.length-1))=some (S.length-1)) an)<|S_a [(0,.ob),(1,.ob)] (ap ((by exact zAr (by omega)):decide (0≤h)=true)<|ap ((by exact zAr (by omega)):decide (h.toNat<10)=true) an)<|S_a [(0,.ob),(1,.ob)] (ap ((by exact zAr (by omega)):decide (0≤c)=true)<|ap ((by exact zAr (by omega)):decide (c.toNat<8)=true) an)<|S_a [(0,.cs true ([I ((S.getD (S.length-1) []).getD (h.toNat*8+c.toNat) 0)]))] (ap (zDb (q:=PV.own 80 (List.map hdV S)) (xs:=List.map hdV S) (x:=PV.agg (zAQ (S.getD (S.length-1) []) 80)) (zKO (xs:=[PV.own 80 (List.map hdV S)]) (x:=PV.own 80 (List.map hdV S)) (y:=PV.own 80 (List.map hdV S)) rfl rfl) (zBx [] (by omega)) (zFj (F:=S.getD (S.length-1) []) (m:=80) (j:=h.toNat*8+c.toNat) (by first | rfl | exact zB3 (by kernel_rfl) | exact zB5 (by kernel_rfl) | exact zDN (by kernel_rfl) (by kernel_rfl) | exact zDV (by kernel_rfl) | exact zD5 (by kernel_rfl) (by kernel_rfl) | exact zDO (by kernel_rfl) | (simp;done)) (by omega)):zAv 13 (PV.own 80 (List.map hdV S)).box [(0,0)] (S.length-1) (0+h.toNat*(fun x=>x.size) Tryz.prog.types[128]+c.toNat*(fun x=>x.size) Tryz.prog.types[3]) 1=some (true,[I ((S.getD (S.length-1) []).getD (h.toNat*8+c.toNat) 0)])) an)<|zAc 2<|zAa<|zFF ((S.getD (S.length-1) []).getD (h.toNat*8+c.toNat) 0=x) (by omega)<|zAs 1<|zAd 4<|zAa<|zAg<|zAg<|zAe<|S_a [(1,.v (PV.bor 13 [(0,0)] 80 0 S.length))] (ap ((by simp):PV.bor 13 [(0,0)] 80 0 (List.map hdV S).length=PV.bor 13 [(0,0)] 80 0 S.length) an)<|zAc 1<|S_a [(1,.v (I ((↑S.length:Int)-2)))] (ap ((zCP rfl (by omega)):I (IntKind.i64.wrap ((↑S.length:Int)-2))=I ((↑S.length:Int)-2)) an)<|zAc 2<|zAa<|zAh 3 ?_
   have hS0:∀ r:Nat,r<S.length→(S.getD r []).length=80∧S.getD r []=zAL n cs r:=fun r hr=>by
    rw [hS,zLs (by omega)];exact ⟨zCT r,rfl⟩
   have hSm:((S.length:Nat):Int)-2=(j:Int)-1:=by omega
   generalize yM:bkL n cs c.toNat x j [h]=fin
   clear hS qH hwl jp hm
   refine zAo (fun ((m:Int),(out:List Int))=>-1≤m∧m<j∧out.length≤20-m∧0<out.length∧(0≤out.getD 0 0∧out.getD 0 0<n.h)∧bkL n cs c.toNat x (m+1).toNat out=fin) (fun (m,out)=>[(14,.box (.own 1 (out.map I))),(15,.box (I m))]) (fun (m,_)=>(m+1).toNat) (((S.length:Nat):Int)-2,[h]) ⟨by omega,by omega,by simp only [List.length_cons,List.length_nil];omega,by simp,by simpa using hh,by rw [← yM];congr 1;omega⟩ fun (m,out) ⟨hm1,vY,ho1,ho2,ho3,gd⟩=>?_
   by_cases gH:0≤m
   ·have hA:=zVM n cs (out.getD 0 0) hn ho3
    obtain ⟨uo,uX⟩:=hS0 m.toNat (by omega)
    rw [show (m+1).toNat=m.toNat+1 by omega,bkL,← uX] at gd
    refine zAg<|zAd 2<|zAa<|zAJ (m≥0) (by omega)<|zAj<|zAg<|zAh 4<|zVa<|zAg<|zVc (zAd 1<|S_a [(1,.v (PV.bor 14 [(0,0)] 1 0 out.length))] (ap ((by simp):PV.bor 14 [(0,0)] 1 0 (List.map I out).length=PV.bor 14 [(0,0)] 1 0 out.length) an)<|S_a [(2,.ob)] (ap ((by exact zAr (by omega)):decide (0<out.length)=true) an)<|S_a [(0,.cs false ([I (out.getD 0 0)]))] (ap (zDb (q:=PV.own 1 (List.map I out)) (xs:=List.map I out) (x:=I (out.getD 0 0)) (zKO (xs:=[PV.own 1 (List.map I out)]) (x:=PV.own 1 (List.map I out)) (y:=PV.own 1 (List.map I out)) rfl rfl) (zBx (0) (by omega)):zAv 14 (PV.own 1 (List.map I out)).box [(0,0)] 0 0 1=some (false,[I (out.getD 0 0)])) an)<|S_a [(7,.ret (PV.func 169 [] [(zDv n cs).ref,(I (out.getD 0 0)).ref]) [])] (ap (f116 n cs (out.getD 0 0)) an)<|zAa<|zAh 5 ?_)
    refine zOm (t:=86) hA (fun i (_:Unit)=>∀ r,r<i→decide ((S.getD m.toNat []).getD ((zIf n (out.getD 0 0).toNat n.h.toNat).getD r 0*8+c.toNat) 0=x)=false) (fun _=>[]) () (fun r hr=>absurd hr (Nat.not_lt_zero r)) (fun i y _ hy hi=>?_) (fun _ hi=>?_)
    ·rw [List.getElem?_map] at hy
     obtain ⟨o,hmo,rfl⟩:=Option.map_eq_some_iff.1 hy
     have hol:o<n.h.toNat:=zRe (List.mem_of_getElem? hmo)
     refine zO6 ?_
     refine zAe<|zAc 1<|zAa ?_
     have jV:(zIf n (out.getD 0 0).toNat n.h.toNat).getD i 0=o:=by rw [List.getD_eq_getElem?_getD,hmo];rfl
     refine ⟨rfl,by kernel_rfl,?_⟩
     refine zAh 6<|zAg<|zAe<|S_a [(1,.v (PV.bor 13 [(0,0)] 80 0 S.length))] (ap ((by simp):PV.bor 13 [(0,0)] 80 0 (List.map hdV S).length=PV.bor 13 [(0,0)] 80 0 S.length) an)<|zAc 3<|S_a [(0,.ob),(1,.ob),(1,.n m.toNat)] (ap ((by exact zAr (by omega)):decide (0≤m)=true)<|ap ((by exact zAr (by omega)):decide (m.toNat<S.length)=true)<|ap ((by simp):some (0+m.toNat)=some m.toNat) an)<|S_a [(2,.ob)] (ap ((by exact zAr (by omega)):decide (o<10)=true) an)<|S_a [(0,.ob),(1,.ob)] (ap ((by exact zAr (by omega)):decide (0≤c)=true)<|ap ((by exact zAr (by omega)):decide (c.toNat<8)=true) an)<|S_a [(0,.cs true ([I ((S.getD m.toNat []).getD (o*8+c.toNat) 0)]))] (ap (zDb (q:=PV.own 80 (List.map hdV S)) (xs:=List.map hdV S) (x:=PV.agg (zAQ (S.getD m.toNat []) 80)) (zKO (xs:=[PV.own 80 (List.map hdV S)]) (x:=PV.own 80 (List.map hdV S)) (y:=PV.own 80 (List.map hdV S)) rfl rfl) (zBx [] (by omega)) (zFj (F:=S.getD m.toNat []) (m:=80) (j:=o*8+c.toNat) (by first | rfl | exact zB3 (by kernel_rfl) | exact zB5 (by kernel_rfl) | exact zDN (by kernel_rfl) (by kernel_rfl) | exact zDV (by kernel_rfl) | exact zD5 (by kernel_rfl) (by kernel_rfl) | exact zDO (by kernel_rfl) | (simp;done)) (by omega)):zAv 13 (PV.own 80 (List.map hdV S)).box [(0,0)] m.toNat (0+(↑o:Int).toNat*(fun x=>x.size) Tryz.prog.types[128]+c.toNat*(fun x=>x.size) Tryz.prog.types[3]) 1=some (true,[I ((S.getD m.toNat []).getD (o*8+c.toNat) 0)])) an)<|zAc 2<|zAa<|zBZ ((S.getD m.toNat []).getD (o*8+c.toNat) 0=x) (fun k2=>(zAd 2<|S_a [(1,.v (PV.bor 14 [(0,0)] 1 0 out.length))] (ap ((by simp):PV.bor 14 [(0,0)] 1 0 (List.map I out).length=PV.bor 14 [(0,0)] 1 0 out.length) an)<|S_a [(1,.ob),(0,.vs (List.map I out)),(0,.ob),(0,.ob),(0,.ob),(3,.ob)] (ap ((by exact zA9 (by simp only [List.length_map,zzLn,zA1]<;>omega)):(0+out.length).ble (List.map I out).length=true)<|ap ((by simp [zB4]):List.take out.length (List.drop 0 (List.map I out))=List.map I out)<|ap ((by exact all_map _):((List.map I out).all fun x=>x.plain)=true)<|ap ((by exact all_map _):((List.map I out).all fun y=>y.cells.length.beq ((fun x=>x.size) Tryz.prog.types[3])&&y.cells.all fun q=>q.oneCell)=true)<|ap ((by exact List.isEmpty_iff.2 (zJL _)):(zBt (List.map I out)).isEmpty=true)<|ap ((by exact zA9 (by simp only [List.length_map,zzLn,zA1]<;>omega)):([I (↑o:Int)].length+(List.map I out).length).ble zA1=true) an)<|zAc 1<|zAa<|zAs 5 ?_)) (fun k2=>(zAj ?_))
     ·rw [zKE hmo (decide_eq_true (by assumption)) hi] at gd
      clear hi hmo hA
      refine ⟨by kernel_rfl,?_⟩
      refine zAg<|zAd 1<|zAa<|zAe<|zAc 2<|zAa<|zAe<|zAc 1<|S_a [(1,.v (I (m-1)))] (ap ((zCP rfl (by omega)):I (IntKind.i64.wrap (m-1))=I (m-1)) an)<|zAc 1<|zAa ?_
      exact ⟨(m-1,(o:Int)::out),⟨by omega,by omega,by simp only [List.length_cons];omega,by simp,by simp only [List.getD_cons_zero];omega,by rw [show (m-1+1).toNat=m.toNat by omega];exact gd⟩,by simp only;omega,by kernel_rfl,by kernel_rfl⟩
     ·refine ⟨by kernel_rfl,(),fun r hr=>?_,by kernel_rfl⟩
      rcases Nat.lt_succ_iff_lt_or_eq.1 hr with h | rfl
      ·exact hi r h
      ·rw [jV];exact decide_eq_false (by assumption)
    ·rw [zPF (by simpa using hi)] at gd
     clear hi hA
     show W _ _ _ _ _ _ _ _
     refine zAg<|zAd 1<|zAa<|zAe<|zAc 2<|zAa<|zAe<|zAc 1<|S_a [(1,.v (I (m-1)))] (ap ((zCP rfl (by omega)):I (IntKind.i64.wrap (m-1))=I (m-1)) an)<|zAc 1<|zAa ?_
     exact ⟨(m-1,out),⟨by omega,by omega,by omega,ho2,ho3,by rw [show (m-1+1).toNat=m.toNat by omega];exact gd⟩,by simp only;omega,by kernel_rfl,by kernel_rfl⟩
   ·have hm3:(m+1).toNat=0:=by omega
    rw [hm3,bkL] at gd
    rw [← gd]
    refine zAg<|zAd 2<|zAa<|zAK (m≥0) (by omega)<|zAs 3<|zAg<|zAe<|S_a [(1,.v (PV.bor 14 [(0,0)] 1 0 out.length))] (ap ((by simp):PV.bor 14 [(0,0)] 1 0 (List.map I out).length=PV.bor 14 [(0,0)] 1 0 out.length) an)<|S_a [(2,.yes)] (ap ((by exact zBj (by simp<;>omega)):(Nat.beq 0 0&&out.length.beq (List.map I out).length)=true) an)<|zAc 1<|zAa<|zAm<|E_a [(1,.yes),(1,.v (PV.own 1 (List.map I out)))] (ap (blz (List.map I out))<|ap ((zAE zAz):PV.own 1 (List.take (List.map I out).length (List.drop 0 (List.map I out)))=PV.own 1 (List.map I out)) an) (PV.tup [PV.own 1 (List.map I out),I 0]) [] rfl rfl
end Go.Eng
namespace Go.Eng
open Go Go.Proofs
end Go.Eng
set_option maxRecDepth 10000
set_option maxHeartbeats 4000000
namespace Go.Eng
open Go Go.Proofs
theorem zPn {n:Nw} {cs:List (Int×Int)} {c:Int×Int} (h:CrW n cs) (hl:cs.length<1000) (hc:(0≤c.1∧c.1<n.n.length)∧(0≤c.2∧c.2<n.s.length)):CrW n (cs++[c]) :=
 ⟨h.nw,by simp;omega,fun x hx=>by
  rcases List.mem_append.1 hx with h1 | h1
  ·exact h.cs x h1
  ·rw [List.mem_singleton] at h1;subst h1;exact hc⟩
theorem zZi (n:Nw) (c:Int×Int):FG 171 [zDv n [],prV c] (.box (zCC n (.own 2 (([]++[c]).map prV)) (mapM (n.l.map pr2)) (zAk n) (zA2 n))):=by
 refine zAf Tryz.f171 ?_
 refine zAd 2<|zAa<|zAd 5<|zAa<|zAd 4<|zAc 1<|zAc 4<|zAc 1<|zAc 1<|zAc 3<|zAa<|zAd 1<|zAc 1<|zAc 4<|zAc 1<|zAa<|zAd 1<|zAc 1<|zAc 5<|zAa<|zAd 1<|zAa<|zAm<|E_a [] an ((PV.agg (I n.h::prs n.l::PV.sl (List.map ntV n.n)::PV.sl (List.map zAw n.s)::PV.own 2 [PV.agg [I c.fst,I c.snd]]::PV.map (List.map zBv (List.map pr2 n.l))::(zAQ (zAk n) 8++zAQ (zA2 n) 8))).box) [] rfl rfl
theorem zY0 (n:Nw) (c:Int×Int) (x0:Int×Int):FG 171 [zDv n [x0],prV c] (.box (zCC n (.own 2 (([x0]++[c]).map prV)) (mapM (n.l.map pr2)) (zAk n) (zA2 n))):=by
 refine zAf Tryz.f171 ?_
 refine zAd 2<|zAa<|zAd 5<|zAa<|zAd 4<|zAc 1<|zAc 4<|zAc 1<|zAc 1<|zAc 3<|zAa<|zAd 1<|zAc 1<|zAc 4<|zAc 1<|zAa<|zAd 1<|zAc 1<|zAc 5<|zAa<|zAd 1<|zAa<|zAm<|E_a [] an ((PV.agg (I n.h::prs n.l::PV.sl (List.map ntV n.n)::PV.sl (List.map zAw n.s)::PV.own 2 [PV.agg [I x0.fst,I x0.snd],PV.agg [I c.fst,I c.snd]]::PV.map (List.map zBv (List.map pr2 n.l))::(zAQ (zAk n) 8++zAQ (zA2 n) 8))).box) [] rfl rfl
theorem zYR (n:Nw) (c:Int×Int) (x0 x1:Int×Int):FG 171 [zDv n [x0,x1],prV c] (.box (zCC n (.own 2 (([x0,x1]++[c]).map prV)) (mapM (n.l.map pr2)) (zAk n) (zA2 n))):=by
 refine zAf Tryz.f171 ?_
 refine zAd 2<|zAa<|zAd 5<|zAa<|zAd 4<|zAc 1<|zAc 4<|zAc 1<|zAc 1<|zAc 3<|zAa<|zAd 1<|zAc 1<|zAc 4<|zAc 1<|zAa<|zAd 1<|zAc 1<|zAc 5<|zAa<|zAd 1<|zAa<|zAm<|E_a [] an ((PV.agg (I n.h::prs n.l::PV.sl (List.map ntV n.n)::PV.sl (List.map zAw n.s)::PV.own 2 [PV.agg [I x0.fst,I x0.snd],PV.agg [I x1.fst,I x1.snd],PV.agg [I c.fst,I c.snd]]::PV.map (List.map zBv (List.map pr2 n.l))::(zAQ (zAk n) 8++zAQ (zA2 n) 8))).box) [] rfl rfl
theorem zYx (n:Nw) (c:Int×Int) (x0 x1 x2:Int×Int):FG 171 [zDv n [x0,x1,x2],prV c] (.box (zCC n (.own 2 (([x0,x1,x2]++[c]).map prV)) (mapM (n.l.map pr2)) (zAk n) (zA2 n))):=by
 refine zAf Tryz.f171 ?_
 refine zAd 2<|zAa<|zAd 5<|zAa<|zAd 4<|zAc 1<|zAc 4<|zAc 1<|zAc 1<|zAc 3<|zAa<|zAd 1<|zAc 1<|zAc 4<|zAc 1<|zAa<|zAd 1<|zAc 1<|zAc 5<|zAa<|zAd 1<|zAa<|zAm<|E_a [] an ((PV.agg (I n.h::prs n.l::PV.sl (List.map ntV n.n)::PV.sl (List.map zAw n.s)::PV.own 2 [PV.agg [I x0.fst,I x0.snd],PV.agg [I x1.fst,I x1.snd],PV.agg [I x2.fst,I x2.snd],PV.agg [I c.fst,I c.snd]]::PV.map (List.map zBv (List.map pr2 n.l))::(zAQ (zAk n) 8++zAQ (zA2 n) 8))).box) [] rfl rfl
theorem zYJ (n:Nw) (c:Int×Int) (x0 x1 x2 x3:Int×Int):FG 171 [zDv n [x0,x1,x2,x3],prV c] (.box (zCC n (.own 2 (([x0,x1,x2,x3]++[c]).map prV)) (mapM (n.l.map pr2)) (zAk n) (zA2 n))):=by
 refine zAf Tryz.f171 ?_
 refine zAd 2<|zAa<|zAd 5<|zAa<|zAd 4<|zAc 1<|zAc 4<|zAc 1<|zAc 1<|zAc 3<|zAa<|zAd 1<|zAc 1<|zAc 4<|zAc 1<|zAa<|zAd 1<|zAc 1<|zAc 5<|zAa<|zAd 1<|zAa<|zAm<|E_a [] an ((PV.agg (I n.h::prs n.l::PV.sl (List.map ntV n.n)::PV.sl (List.map zAw n.s)::PV.own 2 [PV.agg [I x0.fst,I x0.snd],PV.agg [I x1.fst,I x1.snd],PV.agg [I x2.fst,I x2.snd],PV.agg [I x3.fst,I x3.snd],PV.agg [I c.fst,I c.snd]]::PV.map (List.map zBv (List.map pr2 n.l))::(zAQ (zAk n) 8++zAQ (zA2 n) 8))).box) [] rfl rfl
theorem zZf (n:Nw) (c:Int×Int) (x0 x1 x2 x3 x4:Int×Int):FG 171 [zDv n [x0,x1,x2,x3,x4],prV c] (.box (zCC n (.own 2 (([x0,x1,x2,x3,x4]++[c]).map prV)) (mapM (n.l.map pr2)) (zAk n) (zA2 n))):=by
 refine zAf Tryz.f171 ?_
 refine zAd 2<|zAa<|zAd 5<|zAa<|zAd 4<|zAc 1<|zAc 4<|zAc 1<|zAc 1<|zAc 3<|zAa<|zAd 1<|zAc 1<|zAc 4<|zAc 1<|zAa<|zAd 1<|zAc 1<|zAc 5<|zAa<|zAd 1<|zAa<|zAm<|E_a [] an ((PV.agg (I n.h::prs n.l::PV.sl (List.map ntV n.n)::PV.sl (List.map zAw n.s)::PV.own 2 [PV.agg [I x0.fst,I x0.snd],PV.agg [I x1.fst,I x1.snd],PV.agg [I x2.fst,I x2.snd],PV.agg [I x3.fst,I x3.snd],PV.agg [I x4.fst,I x4.snd],PV.agg [I c.fst,I c.snd]]::PV.map (List.map zBv (List.map pr2 n.l))::(zAQ (zAk n) 8++zAQ (zA2 n) 8))).box) [] rfl rfl
theorem zYv (n:Nw) (c:Int×Int) (x0 x1 x2 x3 x4 x5:Int×Int):FG 171 [zDv n [x0,x1,x2,x3,x4,x5],prV c] (.box (zCC n (.own 2 (([x0,x1,x2,x3,x4,x5]++[c]).map prV)) (mapM (n.l.map pr2)) (zAk n) (zA2 n))):=by
 refine zAf Tryz.f171 ?_
 refine zAd 2<|zAa<|zAd 5<|zAa<|zAd 4<|zAc 1<|zAc 4<|zAc 1<|zAc 1<|zAc 3<|zAa<|zAd 1<|zAc 1<|zAc 4<|zAc 1<|zAa<|zAd 1<|zAc 1<|zAc 5<|zAa<|zAd 1<|zAa<|zAm<|E_a [] an ((PV.agg (I n.h::prs n.l::PV.sl (List.map ntV n.n)::PV.sl (List.map zAw n.s)::PV.own 2 [PV.agg [I x0.fst,I x0.snd],PV.agg [I x1.fst,I x1.snd],PV.agg [I x2.fst,I x2.snd],PV.agg [I x3.fst,I x3.snd],PV.agg [I x4.fst,I x4.snd],PV.agg [I x5.fst,I x5.snd],PV.agg [I c.fst,I c.snd]]::PV.map (List.map zBv (List.map pr2 n.l))::(zAQ (zAk n) 8++zAQ (zA2 n) 8))).box) [] rfl rfl
theorem zYb (n:Nw) (c:Int×Int) (x0 x1 x2 x3 x4 x5 x6:Int×Int):FG 171 [zDv n [x0,x1,x2,x3,x4,x5,x6],prV c] (.box (zCC n (.own 2 (([x0,x1,x2,x3,x4,x5,x6]++[c]).map prV)) (mapM (n.l.map pr2)) (zAk n) (zA2 n))):=by
 refine zAf Tryz.f171 ?_
 refine zAd 2<|zAa<|zAd 5<|zAa<|zAd 4<|zAc 1<|zAc 4<|zAc 1<|zAc 1<|zAc 3<|zAa<|zAd 1<|zAc 1<|zAc 4<|zAc 1<|zAa<|zAd 1<|zAc 1<|zAc 5<|zAa<|zAd 1<|zAa<|zAm<|E_a [] an ((PV.agg (I n.h::prs n.l::PV.sl (List.map ntV n.n)::PV.sl (List.map zAw n.s)::PV.own 2 [PV.agg [I x0.fst,I x0.snd],PV.agg [I x1.fst,I x1.snd],PV.agg [I x2.fst,I x2.snd],PV.agg [I x3.fst,I x3.snd],PV.agg [I x4.fst,I x4.snd],PV.agg [I x5.fst,I x5.snd],PV.agg [I x6.fst,I x6.snd],PV.agg [I c.fst,I c.snd]]::PV.map (List.map zBv (List.map pr2 n.l))::(zAQ (zAk n) 8++zAQ (zA2 n) 8))).box) [] rfl rfl
theorem zYo (n:Nw) (c:Int×Int) (x0 x1 x2 x3 x4 x5 x6 x7:Int×Int):FG 171 [zDv n [x0,x1,x2,x3,x4,x5,x6,x7],prV c] (.box (zCC n (.own 2 (([x0,x1,x2,x3,x4,x5,x6,x7]++[c]).map prV)) (mapM (n.l.map pr2)) (zAk n) (zA2 n))):=by
 refine zAf Tryz.f171 ?_
 refine zAd 2<|zAa<|zAd 5<|zAa<|zAd 4<|zAc 1<|zAc 4<|zAc 1<|zAc 1<|zAc 3<|zAa<|zAd 1<|zAc 1<|zAc 4<|zAc 1<|zAa<|zAd 1<|zAc 1<|zAc 5<|zAa<|zAd 1<|zAa<|zAm<|E_a [] an ((PV.agg (I n.h::prs n.l::PV.sl (List.map ntV n.n)::PV.sl (List.map zAw n.s)::PV.own 2 [PV.agg [I x0.fst,I x0.snd],PV.agg [I x1.fst,I x1.snd],PV.agg [I x2.fst,I x2.snd],PV.agg [I x3.fst,I x3.snd],PV.agg [I x4.fst,I x4.snd],PV.agg [I x5.fst,I x5.snd],PV.agg [I x6.fst,I x6.snd],PV.agg [I x7.fst,I x7.snd],PV.agg [I c.fst,I c.snd]]::PV.map (List.map zBv (List.map pr2 n.l))::(zAQ (zAk n) 8++zAQ (zA2 n) 8))).box) [] rfl rfl
theorem zX4 (n:Nw) (c:Int×Int) (x0 x1 x2 x3 x4 x5 x6 x7 x8:Int×Int):FG 171 [zDv n [x0,x1,x2,x3,x4,x5,x6,x7,x8],prV c] (.box (zCC n (.own 2 (([x0,x1,x2,x3,x4,x5,x6,x7,x8]++[c]).map prV)) (mapM (n.l.map pr2)) (zAk n) (zA2 n))):=by
 refine zAf Tryz.f171 ?_
 refine zAd 2<|zAa<|zAd 5<|zAa<|zAd 4<|zAc 1<|zAc 4<|zAc 1<|zAc 1<|zAc 3<|zAa<|zAd 1<|zAc 1<|zAc 4<|zAc 1<|zAa<|zAd 1<|zAc 1<|zAc 5<|zAa<|zAd 1<|zAa<|zAm<|E_a [] an ((PV.agg (I n.h::prs n.l::PV.sl (List.map ntV n.n)::PV.sl (List.map zAw n.s)::PV.own 2 [PV.agg [I x0.fst,I x0.snd],PV.agg [I x1.fst,I x1.snd],PV.agg [I x2.fst,I x2.snd],PV.agg [I x3.fst,I x3.snd],PV.agg [I x4.fst,I x4.snd],PV.agg [I x5.fst,I x5.snd],PV.agg [I x6.fst,I x6.snd],PV.agg [I x7.fst,I x7.snd],PV.agg [I x8.fst,I x8.snd],PV.agg [I c.fst,I c.snd]]::PV.map (List.map zBv (List.map pr2 n.l))::(zAQ (zAk n) 8++zAQ (zA2 n) 8))).box) [] rfl rfl
theorem zWO (n:Nw) (c:Int×Int) (x0 x1 x2 x3 x4 x5 x6 x7 x8 x9:Int×Int):FG 171 [zDv n [x0,x1,x2,x3,x4,x5,x6,x7,x8,x9],prV c] (.box (zCC n (.own 2 (([x0,x1,x2,x3,x4,x5,x6,x7,x8,x9]++[c]).map prV)) (mapM (n.l.map pr2)) (zAk n) (zA2 n))):=by
 refine zAf Tryz.f171 ?_
 refine zAd 2<|zAa<|zAd 5<|zAa<|zAd 4<|zAc 1<|zAc 4<|zAc 1<|zAc 1<|zAc 3<|zAa<|zAd 1<|zAc 1<|zAc 4<|zAc 1<|zAa<|zAd 1<|zAc 1<|zAc 5<|zAa<|zAd 1<|zAa<|zAm<|E_a [] an ((PV.agg (I n.h::prs n.l::PV.sl (List.map ntV n.n)::PV.sl (List.map zAw n.s)::PV.own 2 [PV.agg [I x0.fst,I x0.snd],PV.agg [I x1.fst,I x1.snd],PV.agg [I x2.fst,I x2.snd],PV.agg [I x3.fst,I x3.snd],PV.agg [I x4.fst,I x4.snd],PV.agg [I x5.fst,I x5.snd],PV.agg [I x6.fst,I x6.snd],PV.agg [I x7.fst,I x7.snd],PV.agg [I x8.fst,I x8.snd],PV.agg [I x9.fst,I x9.snd],PV.agg [I c.fst,I c.snd]]::PV.map (List.map zBv (List.map pr2 n.l))::(zAQ (zAk n) 8++zAQ (zA2 n) 8))).box) [] rfl rfl
theorem zXi (n:Nw) (c:Int×Int) (x0 x1 x2 x3 x4 x5 x6 x7 x8 x9 x10:Int×Int):FG 171 [zDv n [x0,x1,x2,x3,x4,x5,x6,x7,x8,x9,x10],prV c] (.box (zCC n (.own 2 (([x0,x1,x2,x3,x4,x5,x6,x7,x8,x9,x10]++[c]).map prV)) (mapM (n.l.map pr2)) (zAk n) (zA2 n))):=by
 refine zAf Tryz.f171 ?_
 refine zAd 2<|zAa<|zAd 5<|zAa<|zAd 4<|zAc 1<|zAc 4<|zAc 1<|zAc 1<|zAc 3<|zAa<|zAd 1<|zAc 1<|zAc 4<|zAc 1<|zAa<|zAd 1<|zAc 1<|zAc 5<|zAa<|zAd 1<|zAa<|zAm<|E_a [] an ((PV.agg (I n.h::prs n.l::PV.sl (List.map ntV n.n)::PV.sl (List.map zAw n.s)::PV.own 2 [PV.agg [I x0.fst,I x0.snd],PV.agg [I x1.fst,I x1.snd],PV.agg [I x2.fst,I x2.snd],PV.agg [I x3.fst,I x3.snd],PV.agg [I x4.fst,I x4.snd],PV.agg [I x5.fst,I x5.snd],PV.agg [I x6.fst,I x6.snd],PV.agg [I x7.fst,I x7.snd],PV.agg [I x8.fst,I x8.snd],PV.agg [I x9.fst,I x9.snd],PV.agg [I x10.fst,I x10.snd],PV.agg [I c.fst,I c.snd]]::PV.map (List.map zBv (List.map pr2 n.l))::(zAQ (zAk n) 8++zAQ (zA2 n) 8))).box) [] rfl rfl
theorem zWD (n:Nw) (c:Int×Int) (x0 x1 x2 x3 x4 x5 x6 x7 x8 x9 x10 x11:Int×Int):FG 171 [zDv n [x0,x1,x2,x3,x4,x5,x6,x7,x8,x9,x10,x11],prV c] (.box (zCC n (.own 2 (([x0,x1,x2,x3,x4,x5,x6,x7,x8,x9,x10,x11]++[c]).map prV)) (mapM (n.l.map pr2)) (zAk n) (zA2 n))):=by
 refine zAf Tryz.f171 ?_
 refine zAd 2<|zAa<|zAd 5<|zAa<|zAd 4<|zAc 1<|zAc 4<|zAc 1<|zAc 1<|zAc 3<|zAa<|zAd 1<|zAc 1<|zAc 4<|zAc 1<|zAa<|zAd 1<|zAc 1<|zAc 5<|zAa<|zAd 1<|zAa<|zAm<|E_a [] an ((PV.agg (I n.h::prs n.l::PV.sl (List.map ntV n.n)::PV.sl (List.map zAw n.s)::PV.own 2 [PV.agg [I x0.fst,I x0.snd],PV.agg [I x1.fst,I x1.snd],PV.agg [I x2.fst,I x2.snd],PV.agg [I x3.fst,I x3.snd],PV.agg [I x4.fst,I x4.snd],PV.agg [I x5.fst,I x5.snd],PV.agg [I x6.fst,I x6.snd],PV.agg [I x7.fst,I x7.snd],PV.agg [I x8.fst,I x8.snd],PV.agg [I x9.fst,I x9.snd],PV.agg [I x10.fst,I x10.snd],PV.agg [I x11.fst,I x11.snd],PV.agg [I c.fst,I c.snd]]::PV.map (List.map zBv (List.map pr2 n.l))::(zAQ (zAk n) 8++zAQ (zA2 n) 8))).box) [] rfl rfl
theorem zWE (n:Nw) (c:Int×Int) (x0 x1 x2 x3 x4 x5 x6 x7 x8 x9 x10 x11 x12:Int×Int):FG 171 [zDv n [x0,x1,x2,x3,x4,x5,x6,x7,x8,x9,x10,x11,x12],prV c] (.box (zCC n (.own 2 (([x0,x1,x2,x3,x4,x5,x6,x7,x8,x9,x10,x11,x12]++[c]).map prV)) (mapM (n.l.map pr2)) (zAk n) (zA2 n))):=by
 refine zAf Tryz.f171 ?_
 refine zAd 2<|zAa<|zAd 5<|zAa<|zAd 4<|zAc 1<|zAc 4<|zAc 1<|zAc 1<|zAc 3<|zAa<|zAd 1<|zAc 1<|zAc 4<|zAc 1<|zAa<|zAd 1<|zAc 1<|zAc 5<|zAa<|zAd 1<|zAa<|zAm<|E_a [] an ((PV.agg (I n.h::prs n.l::PV.sl (List.map ntV n.n)::PV.sl (List.map zAw n.s)::PV.own 2 [PV.agg [I x0.fst,I x0.snd],PV.agg [I x1.fst,I x1.snd],PV.agg [I x2.fst,I x2.snd],PV.agg [I x3.fst,I x3.snd],PV.agg [I x4.fst,I x4.snd],PV.agg [I x5.fst,I x5.snd],PV.agg [I x6.fst,I x6.snd],PV.agg [I x7.fst,I x7.snd],PV.agg [I x8.fst,I x8.snd],PV.agg [I x9.fst,I x9.snd],PV.agg [I x10.fst,I x10.snd],PV.agg [I x11.fst,I x11.snd],PV.agg [I x12.fst,I x12.snd],PV.agg [I c.fst,I c.snd]]::PV.map (List.map zBv (List.map pr2 n.l))::(zAQ (zAk n) 8++zAQ (zA2 n) 8))).box) [] rfl rfl
theorem zW7 (n:Nw) (c:Int×Int) (x0 x1 x2 x3 x4 x5 x6 x7 x8 x9 x10 x11 x12 x13:Int×Int):FG 171 [zDv n [x0,x1,x2,x3,x4,x5,x6,x7,x8,x9,x10,x11,x12,x13],prV c] (.box (zCC n (.own 2 (([x0,x1,x2,x3,x4,x5,x6,x7,x8,x9,x10,x11,x12,x13]++[c]).map prV)) (mapM (n.l.map pr2)) (zAk n) (zA2 n))):=by
 refine zAf Tryz.f171 ?_
 refine zAd 2<|zAa<|zAd 5<|zAa<|zAd 4<|zAc 1<|zAc 4<|zAc 1<|zAc 1<|zAc 3<|zAa<|zAd 1<|zAc 1<|zAc 4<|zAc 1<|zAa<|zAd 1<|zAc 1<|zAc 5<|zAa<|zAd 1<|zAa<|zAm<|E_a [] an ((PV.agg (I n.h::prs n.l::PV.sl (List.map ntV n.n)::PV.sl (List.map zAw n.s)::PV.own 2 [PV.agg [I x0.fst,I x0.snd],PV.agg [I x1.fst,I x1.snd],PV.agg [I x2.fst,I x2.snd],PV.agg [I x3.fst,I x3.snd],PV.agg [I x4.fst,I x4.snd],PV.agg [I x5.fst,I x5.snd],PV.agg [I x6.fst,I x6.snd],PV.agg [I x7.fst,I x7.snd],PV.agg [I x8.fst,I x8.snd],PV.agg [I x9.fst,I x9.snd],PV.agg [I x10.fst,I x10.snd],PV.agg [I x11.fst,I x11.snd],PV.agg [I x12.fst,I x12.snd],PV.agg [I x13.fst,I x13.snd],PV.agg [I c.fst,I c.snd]]::PV.map (List.map zBv (List.map pr2 n.l))::(zAQ (zAk n) 8++zAQ (zA2 n) 8))).box) [] rfl rfl
theorem zXc (n:Nw) (c:Int×Int) (x0 x1 x2 x3 x4 x5 x6 x7 x8 x9 x10 x11 x12 x13 x14:Int×Int):FG 171 [zDv n [x0,x1,x2,x3,x4,x5,x6,x7,x8,x9,x10,x11,x12,x13,x14],prV c] (.box (zCC n (.own 2 (([x0,x1,x2,x3,x4,x5,x6,x7,x8,x9,x10,x11,x12,x13,x14]++[c]).map prV)) (mapM (n.l.map pr2)) (zAk n) (zA2 n))):=by
 refine zAf Tryz.f171 ?_
 refine zAd 2<|zAa<|zAd 5<|zAa<|zAd 4<|zAc 1<|zAc 4<|zAc 1<|zAc 1<|zAc 3<|zAa<|zAd 1<|zAc 1<|zAc 4<|zAc 1<|zAa<|zAd 1<|zAc 1<|zAc 5<|zAa<|zAd 1<|zAa<|zAm<|E_a [] an ((PV.agg (I n.h::prs n.l::PV.sl (List.map ntV n.n)::PV.sl (List.map zAw n.s)::PV.own 2 [PV.agg [I x0.fst,I x0.snd],PV.agg [I x1.fst,I x1.snd],PV.agg [I x2.fst,I x2.snd],PV.agg [I x3.fst,I x3.snd],PV.agg [I x4.fst,I x4.snd],PV.agg [I x5.fst,I x5.snd],PV.agg [I x6.fst,I x6.snd],PV.agg [I x7.fst,I x7.snd],PV.agg [I x8.fst,I x8.snd],PV.agg [I x9.fst,I x9.snd],PV.agg [I x10.fst,I x10.snd],PV.agg [I x11.fst,I x11.snd],PV.agg [I x12.fst,I x12.snd],PV.agg [I x13.fst,I x13.snd],PV.agg [I x14.fst,I x14.snd],PV.agg [I c.fst,I c.snd]]::PV.map (List.map zBv (List.map pr2 n.l))::(zAQ (zAk n) 8++zAQ (zA2 n) 8))).box) [] rfl rfl
theorem zWr (n:Nw) (c:Int×Int) (x0 x1 x2 x3 x4 x5 x6 x7 x8 x9 x10 x11 x12 x13 x14 x15:Int×Int):FG 171 [zDv n [x0,x1,x2,x3,x4,x5,x6,x7,x8,x9,x10,x11,x12,x13,x14,x15],prV c] (.box (zCC n (.own 2 (([x0,x1,x2,x3,x4,x5,x6,x7,x8,x9,x10,x11,x12,x13,x14,x15]++[c]).map prV)) (mapM (n.l.map pr2)) (zAk n) (zA2 n))):=by
 refine zAf Tryz.f171 ?_
 refine zAd 2<|zAa<|zAd 5<|zAa<|zAd 4<|zAc 1<|zAc 4<|zAc 1<|zAc 1<|zAc 3<|zAa<|zAd 1<|zAc 1<|zAc 4<|zAc 1<|zAa<|zAd 1<|zAc 1<|zAc 5<|zAa<|zAd 1<|zAa<|zAm<|E_a [] an ((PV.agg (I n.h::prs n.l::PV.sl (List.map ntV n.n)::PV.sl (List.map zAw n.s)::PV.own 2 [PV.agg [I x0.fst,I x0.snd],PV.agg [I x1.fst,I x1.snd],PV.agg [I x2.fst,I x2.snd],PV.agg [I x3.fst,I x3.snd],PV.agg [I x4.fst,I x4.snd],PV.agg [I x5.fst,I x5.snd],PV.agg [I x6.fst,I x6.snd],PV.agg [I x7.fst,I x7.snd],PV.agg [I x8.fst,I x8.snd],PV.agg [I x9.fst,I x9.snd],PV.agg [I x10.fst,I x10.snd],PV.agg [I x11.fst,I x11.snd],PV.agg [I x12.fst,I x12.snd],PV.agg [I x13.fst,I x13.snd],PV.agg [I x14.fst,I x14.snd],PV.agg [I x15.fst,I x15.snd],PV.agg [I c.fst,I c.snd]]::PV.map (List.map zBv (List.map pr2 n.l))::(zAQ (zAk n) 8++zAQ (zA2 n) 8))).box) [] rfl rfl
theorem f171 (n:Nw) (cs:List (Int×Int)) (c:Int×Int) (hl:cs.length≤16):FG 171 [zDv n cs,prV c] (.box (zCC n (.own 2 ((cs++[c]).map prV)) (mapM (n.l.map pr2)) (zAk n) (zA2 n))):=by
 match cs,hl with
 | [],_=>exact zZi n c 
 | [x0],_=>exact zY0 n c x0
 | [x0,x1],_=>exact zYR n c x0 x1
 | [x0,x1,x2],_=>exact zYx n c x0 x1 x2
 | [x0,x1,x2,x3],_=>exact zYJ n c x0 x1 x2 x3
 | [x0,x1,x2,x3,x4],_=>exact zZf n c x0 x1 x2 x3 x4
 | [x0,x1,x2,x3,x4,x5],_=>exact zYv n c x0 x1 x2 x3 x4 x5
 | [x0,x1,x2,x3,x4,x5,x6],_=>exact zYb n c x0 x1 x2 x3 x4 x5 x6
 | [x0,x1,x2,x3,x4,x5,x6,x7],_=>exact zYo n c x0 x1 x2 x3 x4 x5 x6 x7
 | [x0,x1,x2,x3,x4,x5,x6,x7,x8],_=>exact zX4 n c x0 x1 x2 x3 x4 x5 x6 x7 x8
 | [x0,x1,x2,x3,x4,x5,x6,x7,x8,x9],_=>exact zWO n c x0 x1 x2 x3 x4 x5 x6 x7 x8 x9
 | [x0,x1,x2,x3,x4,x5,x6,x7,x8,x9,x10],_=>exact zXi n c x0 x1 x2 x3 x4 x5 x6 x7 x8 x9 x10
 | [x0,x1,x2,x3,x4,x5,x6,x7,x8,x9,x10,x11],_=>exact zWD n c x0 x1 x2 x3 x4 x5 x6 x7 x8 x9 x10 x11
 | [x0,x1,x2,x3,x4,x5,x6,x7,x8,x9,x10,x11,x12],_=>exact zWE n c x0 x1 x2 x3 x4 x5 x6 x7 x8 x9 x10 x11 x12
 | [x0,x1,x2,x3,x4,x5,x6,x7,x8,x9,x10,x11,x12,x13],_=>exact zW7 n c x0 x1 x2 x3 x4 x5 x6 x7 x8 x9 x10 x11 x12 x13
 | [x0,x1,x2,x3,x4,x5,x6,x7,x8,x9,x10,x11,x12,x13,x14],_=>exact zXc n c x0 x1 x2 x3 x4 x5 x6 x7 x8 x9 x10 x11 x12 x13 x14
 | [x0,x1,x2,x3,x4,x5,x6,x7,x8,x9,x10,x11,x12,x13,x14,x15],_=>exact zWr n c x0 x1 x2 x3 x4 x5 x6 x7 x8 x9 x10 x11 x12 x13 x14 x15
 | _::_::_::_::_::_::_::_::_::_::_::_::_::_::_::_::_::_,h=>simp at h
def zVH (n:Nw) (w:List Int) (g:Int×Int):Bool:=decide (w.getD (g.1.toNat*8+((zAk n).getD g.2.toNat 0).toNat) 0≠g.2)
def zCn (n:Nw) (w:List Int) (l:List (Int×Int)):List (Int×Int):=l.filter (zVH n w)
theorem zSR {n:Nw} {w:List Int} {l:List (Int×Int)} {i:Nat} (hi:i<l.length):zCn n w (l.take (i+1))=if zVH n w (l.getD i default)=true then zCn n w (l.take i)++[l.getD i default] else zCn n w (l.take i):=by
 unfold zCn;rw [zBP (d:=default) hi,List.filter_append]
 split
 ·rw [List.filter_cons_of_pos (by assumption)];rfl
 ·rw [List.filter_cons_of_neg (by assumption)];simp
theorem f119 (n:Nw) (cs l:List (Int×Int)) (e:Int) (c:Int×Int) (ho:CrW n cs) (hl:cs.length≤16) (he:0≤e∧e≤1000) (qG:l.length≤1000) (hm:∀ g∈l,(0≤g.1∧g.1<n.h)∧(0≤g.2∧g.2<n.n.length)) (hc:(0≤c.1∧c.1<n.n.length)∧(0≤c.2∧c.2<n.s.length)):FG 119 [zDv n cs,prs l,I e,prV c] (.own 2 ((zCn n (zAL n (cs++[c]) e.toNat) l).map prV)):=by
 have hw:=zPn ho (by omega) hc
 have hb:=ho.nw.h
 have hn:=ho.nw
 have ka:=hn.nl
 have hwl:=zCT (n:=n) (cs:=cs++[c]) e.toNat
 have ha:=f92 n (cs++[c]) e hw he
 generalize zAL n (cs++[c]) e.toNat=w at *
 refine zAf Tryz.f119 ?_
 refine zAd 2<|zAa<|zAd 2<|S_a [(7,.ret ((zCC n (PV.own 2 (List.map prV (cs++[c]))) (mapM (List.map pr2 n.l)) (zAk n) (zA2 n)).box) [])] (ap (f171 n cs c (by omega)) an)<|zAc 1<|S_a [(7,.v (PV.agg (I n.h::prs n.l::PV.sl (List.map ntV n.n)::PV.sl (List.map zAw n.s)::prs (cs++[c])::PV.map (List.map zBv (List.map pr2 n.l))::(zAQ (zAk n) 8++zAQ (zA2 n) 8)))),(4,.ret (hdV w) [])] (ap ((by simp only [show zAu (List.map prV (cs++[c]))=List.map prV (cs++[c]) from (by first | exact zAD _ | exact zAN _ | exact zAI _ | exact zA5 (zAN _) | exact zA5 (zAI _) | exact zCw (by simp [zB4]) (zAD _))]):PV.agg (I n.h::prs n.l::PV.sl (List.map ntV n.n)::PV.sl (List.map zAw n.s)::PV.sl (zAu (List.map prV (cs++[c])))::PV.map (List.map zBv (List.map pr2 n.l))::(zAQ (zAk n) 8++zAQ (zA2 n) 8))=PV.agg (I n.h::prs n.l::PV.sl (List.map ntV n.n)::PV.sl (List.map zAw n.s)::prs (cs++[c])::PV.map (List.map zBv (List.map pr2 n.l))::(zAQ (zAk n) 8++zAQ (zA2 n) 8)))<|ap ha an)<|zAc 2<|zAa<|zAd 1<|zAa<|zAg<|zAd 1<|S_a [(0,.n l.length)] (ap (lnS prV l) an)<|zAc 1<|zAa<|zAh 0 ?_
 refine zAo (fun (i,q)=>i≤l.length∧q=zCn n w (l.take i)) (fun (i,q)=>[(10,.own 2 (q.map prV)),(20,I (i:Nat))]) (fun (i,_)=>l.length-i) ((0:Nat),([]:List (Int×Int))) ⟨by omega,by simp [zCn]⟩ fun (i,q) ⟨hi,hq⟩=>?_
 have km:q.length≤i:=by
  rw [hq,zCn];exact Nat.le_trans (List.length_filter_le _ _) (by rw [List.length_take];omega)
 by_cases yB:i<l.length
 ·have yU:=zSR (n:=n) (w:=w) yB
  rw [← hq] at yU
  obtain ⟨kD,wM⟩:=zBz (d:=default) hm i yB
  have hfb:=zCj hn (l.getD i default).2.toNat (by omega)
  clear hm ha hq
  refine zAd 1<|zAa<|zAg<|zAJ ((↑i:Int)<(↑l.length:Int)) (by omega)<|zAj<|zAg<|zAh 1<|zAg<|zAe<|S_a [(2,.v (PV.agg [I (l.getD i default).fst,I (l.getD i default).snd]))] (ap (zBx default (by omega):(List.map prV l)[i]? = some (PV.agg [I (l.getD i default).fst,I (l.getD i default).snd])) an)<|zAc 3<|zAa<|zAd 7<|S_a [(0,.ob),(1,.ob),(0,.v ((I ((zAk n).getD (l.getD i default).snd.toNat 0)).ref))] (ap ((by exact zAr (by omega)):decide (0≤(l.getD i default).snd)=true)<|ap ((by exact zAr (by omega)):decide ((l.getD i default).snd.toNat<8)=true)<|ap (zGQ (F:=zAk n) (m:=8) (j:=(l.getD i default).snd.toNat) (by omega):zCo (PV.agg (zAQ (zAk n) 8)).ref ((l.getD i default).snd.toNat*(fun x=>x.size) Tryz.prog.types[3]) none=some (I ((zAk n).getD (l.getD i default).snd.toNat 0)).ref) an)<|zAc 1<|S_a [(0,.ob),(1,.ob)] (ap ((by exact zAr (by omega)):decide (0≤(l.getD i default).fst)=true)<|ap ((by exact zAr (by omega)):decide ((l.getD i default).fst.toNat<10)=true) an)<|S_a [(0,.ob),(1,.ob)] (ap ((by exact zAr (by omega)):decide (0≤(zAk n).getD (l.getD i default).snd.toNat 0)=true)<|ap ((by exact zAr (by omega)):decide (((zAk n).getD (l.getD i default).snd.toNat 0).toNat<8)=true) an)<|S_a [(0,.cs true ([I (w.getD ((l.getD i default).fst.toNat*8+((zAk n).getD (l.getD i default).snd.toNat 0).toNat) 0)]))] (ap (zDb (q:=(PV.agg (zAQ w 80)).box) (xs:=[PV.agg (zAQ w 80)]) (x:=PV.agg (zAQ w 80)) rfl rfl (zFj (F:=w) (m:=80) (j:=(l.getD i default).fst.toNat*8+((zAk n).getD (l.getD i default).snd.toNat 0).toNat) (by first | rfl | exact zB3 (by kernel_rfl) | exact zB5 (by kernel_rfl) | exact zDN (by kernel_rfl) (by kernel_rfl) | exact zDV (by kernel_rfl) | exact zD5 (by kernel_rfl) (by kernel_rfl) | exact zDO (by kernel_rfl) | (simp;done)) (by omega)):zAv 9 (PV.agg (zAQ w 80)).box [] 0 (0+(l.getD i default).fst.toNat*(fun x=>x.size) Tryz.prog.types[128]+((zAk n).getD (l.getD i default).snd.toNat 0).toNat*(fun x=>x.size) Tryz.prog.types[3]) 1=some (true,[I (w.getD ((l.getD i default).fst.toNat*8+((zAk n).getD (l.getD i default).snd.toNat 0).toNat) 0)])) an)<|zAc 3<|zAa<|zDk (w.getD ((l.getD i default).fst.toNat*8+((zAk n).getD (l.getD i default).snd.toNat 0).toNat) 0=(l.getD i default).snd) (fun k0=>(zAe<|zAc 3<|S_a [(4,.ob),(0,.ob),(0,.yes),(2,.v (PV.own 2 (List.map prV (q++[l.getD i default]))))] (ap (blz (List.map prV q))<|ap ((by exact zA9 (by simp only [List.length_map,zzLn,zA1]<;>omega)):((List.map prV q).length + [PV.agg [I (l.getD i default).fst,I (l.getD i default).snd]].length).ble zA1=true)<|ap ((by exact zBj (by simp<;>omega)):(0+(List.map prV q).length).beq (List.map prV q).length=true)<|ap ((zAE (zB0 (by kernel_rfl))):PV.own 2 (List.map prV q++[PV.agg [I (l.getD i default).fst,I (l.getD i default).snd]])=PV.own 2 (List.map prV (q++[l.getD i default]))) an)<|zAc 1<|zAa<|zAe<|S_a [(1,.v (I (↑(i+1):Int)))] (ap (wrN i) an)<|zAc 1<|zAa ?_)) (fun k0=>(zAj<|zAe<|S_a [(1,.v (I (↑(i+1):Int)))] (ap (wrN i) an)<|zAc 1<|zAa ?_))
  ·have hb:zVH n w (l.getD i default)=true:=by simp only [zVH,decide_eq_true_eq];exact k0
   rw [if_pos hb] at yU
   exact ⟨(i+1,q++[l.getD i default]),⟨by omega,yU.symm⟩,by simp only;omega,by kernel_rfl,by kernel_rfl⟩
  ·have hb:zVH n w (l.getD i default)=false:=by simp only [zVH,decide_eq_false_iff_not];exact fun h=>h k0
   rw [if_neg (by rw [hb];simp)] at yU
   exact ⟨(i+1,q),⟨by omega,yU.symm⟩,by simp only;omega,by kernel_rfl,by kernel_rfl⟩
 ·refine zAd 1<|zAa<|zAg<|zAK ((↑i:Int)<(↑l.length:Int)) (by omega)<|zAs 0<|zAd 1<|S_a [(2,.yes)] (ap ((by exact zBj (by simp<;>omega)):(Nat.beq 0 0&&(List.map prV q).length.beq (List.map prV q).length)=true) an)<|zAa<|zAm<|E_a [(1,.yes),(1,.v (PV.own 2 (List.map prV q)))] (ap (blz (List.map prV q))<|ap ((zAE zAz):PV.own 2 (List.take (List.map prV q).length (List.drop 0 (List.map prV q)))=PV.own 2 (List.map prV q)) an) (PV.own 2 (List.map prV q)) [] ?_ rfl
  rw [List.take_of_length_le (by omega)] at hq
  rw [hq]
theorem zUK {n:Nw} {w:List Int}:∀ g∈zAT n w,(0≤g.1∧g.1<n.h)∧(0≤g.2∧g.2<n.n.length):=fun g hg=>by
 obtain ⟨h,i,h1,h2,rfl,_⟩:=zNo hg
 simp only;omega
theorem zWq {n:Nw} {c:Int×Int} (h:zEt n c=true):(0≤c.1∧c.1<n.n.length)∧(0≤c.2∧c.2<n.s.length):=by
 simp only [zEt,Bool.and_eq_true] at h
 have b1:=zC6 h.1
 have b2:=zC6 h.2
 omega
theorem f42_1 (n:Nw) (cs:List (Int×Int)) (e:Int) (c:Int×Int) (ho:EvOk n cs e) (hc:zEt n c=true):FG 42 [nwV n,prs cs,I e,prV c] (.tup [.own 2 ((zCn n (zAL n (cs++[c]) e.toNat) (zAT n (zAL n cs e.toNat))).map prV),I 0]):=by
 have jf:=ho.cr
 have hw:=jf.w
 have yN:=jf.len
 have hn:=jf.nw
 have he:=ho.ev
 have hwl:=zCT (n:=n) (cs:=cs) e.toNat
 have gb:=zDi (w:=zAL n cs e.toNat) hn
 have hgr:=zUK (n:=n) (w:=zAL n cs e.toNat)
 have je:=zWq hc
 refine zAf Tryz.f42 ?_
 refine zAd 4<|zAa<|zAd 3<|S_a [(10,.ret (PV.tup [zDv n cs,I 0]) [])] (ap (f90_1 n cs e (by omega)) an)<|zAc 5<|zAa<|zAg<|zAh 0<|zAd 3<|zAa<|zAW<|zAd 2<|S_a [(7,.ret (PV.bool (zEt n c)) [])] (ap (f118 n c (prs cs) (List.map pr2 n.l) (zAk n) (zA2 n) (by omega)) an)<|zAc 2<|zAa<|zDf (!zEt n c) (fun k0=>(zAd 2<|zAa<|zAm<|E_a [] an (PV.tup [PV.own 2 [],I 1]) [] ?_ rfl)) (fun k0=>(zAj<|zAd 4<|S_a [(7,.ret (hdV (zAL n cs e.toNat)) [])] (ap (f92 n cs e (by omega) (by omega)) an)<|S_a [(7,.ret (PV.own 2 (List.map prV (zAT n (zAL n cs e.toNat)))) [])] (ap (f91 n cs (zAL n cs e.toNat) (by omega) (by omega)) an)<|zAc 2<|S_a [(4,.ob),(0,.v (prs (zAT n (zAL n cs e.toNat)))),(6,.ret (PV.own 2 (List.map prV (zCn n (zAL n (cs++[c]) e.toNat) (zAT n (zAL n cs e.toNat))))) []),(1,.yes)] (ap (blz (List.map prV (zAT n (zAL n cs e.toNat))))<|ap (frT prV (zAT n (zAL n cs e.toNat)))<|ap (f119 n cs (zAT n (zAL n cs e.toNat)) e c (by omega) (by omega) (by omega) (by omega) (by omega) (by omega))<|ap ((by exact zBF _):(PV.own 2 (List.map prV (zCn n (zAL n (cs++[c]) e.toNat) (zAT n (zAL n cs e.toNat))))).free=true) an)<|zAc 2<|zAa<|zAm<|E_a [(1,.yes),(1,.v (PV.own 2 (List.map prV (zCn n (zAL n (cs++[c]) e.toNat) (zAT n (zAL n cs e.toNat))))))] (ap (blz (List.map prV (zCn n (zAL n (cs++[c]) e.toNat) (zAT n (zAL n cs e.toNat)))))<|ap ((zAE zAz):PV.own 2 (List.take (List.map prV (zCn n (zAL n (cs++[c]) e.toNat) (zAT n (zAL n cs e.toNat)))).length (List.drop 0 (List.map prV (zCn n (zAL n (cs++[c]) e.toNat) (zAT n (zAL n cs e.toNat))))))=PV.own 2 (List.map prV (zCn n (zAL n (cs++[c]) e.toNat) (zAT n (zAL n cs e.toNat))))) an) (PV.tup [PV.own 2 (List.map prV (zCn n (zAL n (cs++[c]) e.toNat) (zAT n (zAL n cs e.toNat)))),I 0]) [] rfl rfl))
 rw [hc] at k0;cases k0
theorem f42_2 (n:Nw) (cs:List (Int×Int)) (e:Int) (c:Int×Int) (ho:EvOk n cs e) (hc:zEt n c=false):FG 42 [nwV n,prs cs,I e,prV c] (.tup [.own 2 [],I 1]):=by
 have hn:=ho.cr.nw
 refine zAf Tryz.f42 ?_
 refine zAd 4<|zAa<|zAd 3<|S_a [(10,.ret (PV.tup [zDv n cs,I 0]) [])] (ap (f90_1 n cs e (by omega)) an)<|zAc 5<|zAa<|zAg<|zAh 0<|zAd 3<|zAa<|zAW<|zAd 2<|S_a [(7,.ret (PV.bool (zEt n c)) [])] (ap (f118 n c (prs cs) (List.map pr2 n.l) (zAk n) (zA2 n) (by omega)) an)<|zAc 2<|zAa<|zDf (!zEt n c) (fun k0=>(zAd 2<|zAa<|zAm<|E_a [] an (PV.tup [PV.own 2 [],I 1]) [] rfl rfl)) (fun k0=>(zAj<|zAd 4<|S_a [(7,.ret (hdV (zAL n cs e.toNat)) [])] (ap (f92 n cs e ?_ ?_) an)<|S_a [(7,.ret (PV.own 2 (List.map prV (zAT n (zAL n cs e.toNat)))) [])] (ap (f91 n cs (zAL n cs e.toNat) (by omega) ?_) an)<|zAc 2<|S_a [(4,.ob),(0,.v (prs (zAT n (zAL n cs e.toNat)))),(6,.ret (PV.own 2 (List.map prV (zCn n (zAL n (cs++[c]) e.toNat) (zAT n (zAL n cs e.toNat))))) []),(1,.yes)] (ap (blz (List.map prV (zAT n (zAL n cs e.toNat))))<|ap (frT prV (zAT n (zAL n cs e.toNat)))<|ap (f119 n cs (zAT n (zAL n cs e.toNat)) e c ?_ ?_ ?_ ?_ ?_ ?_)<|ap ((by exact zBF _):(PV.own 2 (List.map prV (zCn n (zAL n (cs++[c]) e.toNat) (zAT n (zAL n cs e.toNat))))).free=true) an)<|zAc 2<|zAa<|zAm<|E_a [(1,.yes),(1,.v (PV.own 2 (List.map prV (zCn n (zAL n (cs++[c]) e.toNat) (zAT n (zAL n cs e.toNat))))))] (ap (blz (List.map prV (zCn n (zAL n (cs++[c]) e.toNat) (zAT n (zAL n cs e.toNat)))))<|ap ((zAE zAz):PV.own 2 (List.take (List.map prV (zCn n (zAL n (cs++[c]) e.toNat) (zAT n (zAL n cs e.toNat)))).length (List.drop 0 (List.map prV (zCn n (zAL n (cs++[c]) e.toNat) (zAT n (zAL n cs e.toNat))))))=PV.own 2 (List.map prV (zCn n (zAL n (cs++[c]) e.toNat) (zAT n (zAL n cs e.toNat))))) an) (PV.tup [PV.own 2 (List.map prV (zCn n (zAL n (cs++[c]) e.toNat) (zAT n (zAL n cs e.toNat)))),I 0]) [] ?_ rfl))
 all_goals (rw [hc] at k0;cases k0)
theorem f42_3 (n:Nw) (cs:List (Int×Int)) (e:Int) (c:Int×Int) (hs:Small n) (hl:cs.length<1000000) (ho:¬ zBT n cs e=0):FG 42 [nwV n,prs cs,I e,prV c] (.tup [.own 2 [],I (zBT n cs e)]):=by
 refine zAf Tryz.f42 ?_
 refine zAd 4<|zAa<|zAd 3<|S_a [(10,.ret (PV.tup [PV.nilp,I (zBT n cs e)]) [])] (ap (f90_2 n cs e (by omega) (by omega) (by omega)) an)<|zAc 5<|zAa<|zAg<|zAh 0<|zAd 3<|zAa<|zCH (zBT n cs e=0) (by omega)<|zAd 3<|zAa<|zAm<|E_a [] an (PV.tup [PV.own 2 [],I (zBT n cs e)]) [] rfl rfl
end Go.Eng
set_option maxRecDepth 10000
set_option maxHeartbeats 4000000
namespace Go.Eng
open Go Go.Proofs
theorem zPq {α:Type} (φ:α→Bool) (l:List α):(zEo φ l = -1→l.filter (fun x => !φ x)=l)∧(zEo φ l≠-1→∃ i:Nat,zEo φ l=i∧i<l.length∧l.take i=(l.take (i+1)).filter (fun x => !φ x)):=by
 constructor
 ·intro h
  have:l.any φ=false:=by rw [← zD2,h];rfl
  rw [List.filter_eq_self]
  intro x hx
  rw [List.any_eq_false] at this
  simpa using this x hx
 ·intro h
  unfold zEo at h ⊢
  split
  ·rename_i yJ
   refine ⟨_,rfl,yJ,?_⟩
   have hp:=List.findIdx_getElem (w:=yJ)
   rw [List.take_add_one,List.getElem?_eq_getElem yJ,List.filter_append]
   simp only [Option.toList,List.filter_cons,hp,Bool.not_true,Bool.false_eq_true,if_false,List.filter_nil,List.append_nil]
   symm
   rw [List.filter_eq_self]
   intro x hx
   obtain ⟨j,hj,rfl⟩:=List.mem_take_iff_getElem.1 hx
   have:=List.not_of_lt_findIdx (show j<l.findIdx φ by omega)
   simpa using this
  ·rename_i hn;rw [if_neg hn] at h;exact absurd rfl h
theorem zHb {α:Type} {S:List α} {p:Nat} {x:α} (h:p<S.length):(S.set p x).take (p+1)=S.take p++[x]:=by
 rw [zBP (d:=x) (by simpa using h),List.take_set_of_le (Nat.le_refl p)]
 simp [List.getD_eq_getElem?_getD,h]
theorem zJl {α:Type} {S:List α} {i j:Nat} {x d:α} (h:i≠j):(S.set i x).getD j d=S.getD j d:=by
 simp [List.getD_eq_getElem?_getD,List.getElem?_set,h]
theorem zFn {α:Type} (p:α→Bool) (l:List α) (j:Nat) (d:α) (h:j<l.length):(l.take (j+1)).filter p=if p (l.getD j d)=true then (l.take j).filter p++[l.getD j d] else (l.take j).filter p:=by
 rw [zBP (d:=d) h,List.filter_append]
 split
 ·rw [List.filter_cons_of_pos (by assumption)];rfl
 ·rw [List.filter_cons_of_neg (by assumption)];simp
theorem f189 (n:Nw) (cs:List (Int×Int)) (f:Int) (ho:NwOk n) (g:Int×Int) (hg:0≤g.2∧g.2<n.n.length):FG 189 [prV g,.ref (zDv n cs),.ref (I f)] (.bool (decide ((zAk n).getD g.2.toNat 0≠f))):=by
 have ka:=ho.nl
 refine zAf Tryz.f189 ?_
 refine zAd 2<|zAa<|zAd 5<|S_a [(0,.ob),(1,.ob),(0,.v ((I ((zAk n).getD g.snd.toNat 0)).ref))] (ap ((by exact zAr (by omega)):decide (0≤g.snd)=true)<|ap ((by exact zAr (by omega)):decide (g.snd.toNat<8)=true)<|ap (zGQ (F:=zAk n) (m:=8) (j:=g.snd.toNat) (by omega):zCo (PV.agg (zAQ (zAk n) 8)).ref (g.snd.toNat*(fun x=>x.size) Tryz.prog.types[3]) none=some (I ((zAk n).getD g.snd.toNat 0)).ref) an)<|zAc 4<|zAa<|zAm<|E_a [] an (PV.bool ((zAk n).getD g.snd.toNat 0 != f)) [] ?_ rfl
 congr 1;rw [Bool.eq_iff_iff];simp
theorem f174_1 (n:Nw) (cs:List (Int×Int)) (f:Int) (ho:NwOk n) (l:List (Int×Int)) (hl:l.length<4294967296) (hr:∀ x∈l,(fun z:Int×Int=>0≤z.2∧z.2<n.n.length) x):FG 174 [.sl (l.map prV),.func 189 [] [.ref (zDv n cs),.ref (I f)]] (I (zEo (fun x=>decide ((zAk n).getD x.2.toNat 0≠f)) l)):=by
 refine zAf Tryz.f174 ?_
 refine zAd 1<|zAa<|zAg<|zAd 1<|S_a [(0,.n l.length)] (ap (lnS prV l) an)<|zAc 1<|zAa<|zAh 0 ?_
 refine zAo (fun i=>i≤l.length∧∀ j,j<i→(fun x=>decide ((zAk n).getD x.2.toNat 0≠f)) (l.getD j default)=false) (fun i=>[(8,I (i:Nat))]) (fun i=>l.length-i) (0:Nat) (by simp) fun i ⟨hi,ha⟩=>?_
 by_cases yB:i<l.length
 ·have gY:=zBz (d:=default) hr i yB
  refine zAd 1<|zAa<|zAg<|zAJ ((↑i:Int)<(↑l.length:Int)) (by omega)<|zAj<|zAg<|zAh 1<|zAd 2<|zAa<|zAd 3<|S_a [(2,.v (PV.agg [I (l.getD i default).fst,I (l.getD i default).snd]))] (ap (zBx default (by omega):(List.map prV l)[i]? = some (PV.agg [I (l.getD i default).fst,I (l.getD i default).snd])) an)<|zAc 1<|S_a [(8,.ret (PV.bool (decide ((zAk n).getD (l.getD i default).snd.toNat 0≠f))) [])] (ap (f189 n cs f (by omega) (l.getD i default) (by omega)) an)<|zAa<|zBZ ((zAk n).getD (l.getD i default).snd.toNat 0≠f) (fun k0=>(zAd 2<|zAa<|zAm<|E_a [] an (I (↑i:Int)) [] ?_ rfl)) (fun k0=>(zAj<|zAe<|S_a [(1,.v (I (↑(i+1):Int)))] (ap (wrN i) an)<|zAc 1<|zAa ?_))
  ·rw [zBO (i:=i) yB (fun j hj=>by rw [← zAq (d:=default)];exact ha j hj) (by rw [← zAq (d:=default)];first | assumption | exact decide_eq_true ‹_›)]
  ·refine ⟨i+1,⟨by omega,fun j hj=>?_⟩,by omega,by kernel_rfl,by kernel_rfl⟩
   rcases Nat.lt_succ_iff_lt_or_eq.1 hj with h | rfl
   ·exact ha j h
   ·first | assumption | exact decide_eq_false ‹_› | (simp only [Bool.not_eq_false',decide_eq_true_eq];assumption)
 ·refine zAd 1<|zAa<|zAg<|zAK ((↑i:Int)<(↑l.length:Int)) (by omega)<|zAs 0<|zAd 1<|zAa<|zAm<|E_a [] an (I (-1)) [] ?_ rfl
  rw [zB1 fun j hj=>by rw [← zAq (d:=default)];exact ha j (by omega)]
theorem f122_1 (n:Nw) (cs:List (Int×Int)) (f:Int) (ho:NwOk n) (l:List (Int×Int)) (hl:l.length<4294967296) (hr:∀ x∈l,(fun z:Int×Int=>0≤z.2∧z.2<n.n.length) x):FG 122 [.own 2 (l.map prV),.func 189 [] [.ref (zDv n cs),.ref (I f)]] (.own 2 ((l.filter fun x => !(decide ((zAk n).getD x.2.toNat 0≠f))).map prV)):=by
 have h1:=zPq (fun x=>decide ((zAk n).getD x.2.toNat 0≠f)) l
 have jF:=f174_1 n cs f ho l hl hr
 by_cases hm:zEo (fun x=>decide ((zAk n).getD x.2.toNat 0≠f)) l = -1
 ·rw [hm] at jF
  rw [h1.1 hm]
  refine zAf Tryz.f122 ?_
  refine zAd 1<|zAa<|zAd 2<|S_a [(3,.ob),(0,.v (prs l)),(3,.ret (I (-1)) [])] (ap (blz (List.map prV l))<|ap (frT prV l)<|ap jF an)<|zAc 1<|zAa<|zAg<|zAd 2<|zAa<|zBM<|zAd 1<|S_a [(2,.yes)] (ap ((by exact zBj (by simp<;>omega)):(Nat.beq 0 0&&(List.map prV l).length.beq (List.map prV l).length)=true) an)<|zAa<|zAm<|E_a [(1,.yes),(1,.v (PV.own 2 (List.map prV l)))] (ap (blz (List.map prV l))<|ap ((zAE zAz):PV.own 2 (List.take (List.map prV l).length (List.drop 0 (List.map prV l)))=PV.own 2 (List.map prV l)) an) (PV.own 2 (List.map prV l)) [] rfl rfl
 ·obtain ⟨i0,j6,hil0,gN⟩:=h1.2 hm
  rw [j6] at jF
  clear h1 hm
  refine zAf Tryz.f122 ?_
  refine zAd 1<|zAa<|zAd 2<|S_a [(3,.ob),(0,.v (prs l)),(3,.ret (I (↑i0:Int)) [])] (ap (blz (List.map prV l))<|ap (frT prV l)<|ap jF an)<|zAc 1<|zAa<|zAg<|zAd 2<|zAa<|zAW<|zAj<|zAg<|zAd 1<|S_a [(1,.v (I (↑(i0+1):Int)))] (ap (wrN i0) an)<|zAc 1<|zAa<|zAh 0 ?_
  refine zAo (fun (i,j,S)=>j≤l.length∧i<j∧S.length=l.length∧S.take i=(l.take j).filter (fun x => !(decide ((zAk n).getD x.2.toNat 0≠f)))∧∀ r,j≤r→S.getD r default=l.getD r default) (fun (i,j,S)=>[(0,.own 2 (S.map prV)),(5,I (i:Nat)),(6,I (j:Nat))]) (fun (_,j,_)=>l.length-j) (i0,i0+1,l) ⟨by omega,by omega,rfl,gN,fun _ _=>rfl⟩ fun (i,j,S) ⟨hj,qF,hS,ht,hd⟩=>?_
  by_cases yz:j<l.length
  ·have gY:=zBz (d:=default) hr j yz
   have hx:=hd j (Nat.le_refl j)
   have yC:=zFn (fun x => !(decide ((zAk n).getD x.2.toNat 0≠f))) l j default yz
   rw [← hx] at yC gY
   clear jF
   have wX:=hd
   clear hd hx
   refine zAg<|zAd 2<|S_a [(0,.n S.length)] (ap (lnS prV S) an)<|zAc 1<|zAa<|zAJ ((↑j:Int)<(↑S.length:Int)) (by omega)<|zAj<|zAg<|zAh 1<|zAd 2<|S_a [(2,.ob),(1,.n j)] (ap ((by exact zAr (by simp only [List.length_map,zzLn]<;>omega)):decide (j<(List.map prV S).length)=true)<|ap ((by simp):some (0+j)=some j) an)<|S_a [(0,.cs true ([I (S.getD j default).fst,I (S.getD j default).snd]))] (ap (zDb (q:=PV.own 2 (List.map prV S)) (xs:=List.map prV S) (x:=PV.agg [I (S.getD j default).fst,I (S.getD j default).snd]) rfl (zBx default (by omega)):zAv 0 (PV.own 2 (List.map prV S)) [] j 0 Tryz.prog.types[108].size=some (true,[I (S.getD j default).fst,I (S.getD j default).snd])) an)<|zAc 2<|zAa<|zAd 2<|S_a [(8,.ret (PV.bool (decide ((zAk n).getD (S.getD j default).snd.toNat 0≠f))) [])] (ap (f189 n cs f (by omega) (S.getD j default) (by omega)) an)<|zAc 1<|zAa<|zDk ((zAk n).getD (S.getD j default).snd.toNat 0≠f) (fun k0=>(zAd 3<|S_a [(2,.ob),(1,.n i)] (ap ((by exact zAr (by simp only [List.length_map,zzLn]<;>omega)):decide (i<(List.map prV S).length)=true)<|ap ((by simp):some (0+i)=some i) an)<|S_a [(8,.root (PV.own 2 (List.map prV (S.set i (S.getD j default)))) true)] (ap (zN2 (zBx default (by omega)) zFg:zBC (PV.own 2 (List.map prV S)) [] i 0 (PV.agg [I (S.getD j default).fst,I (S.getD j default).snd]).cells=some (PV.own 2 (List.map prV (S.set i (S.getD j default))))∧zAM (PV.own 2 (List.map prV S)) (PV.own 2 (List.map prV (S.set i (S.getD j default)))) []=true) an)<|zAa<|zAe<|zAc 1<|S_a [(1,.v (I (↑(i+1):Int)))] (ap (wrN i) an)<|zAc 1<|zAa<|zAe<|zAc 1<|S_a [(1,.v (I (↑(j+1):Int)))] (ap (wrN j) an)<|zAc 1<|zAa ?_)) (fun k0=>(zAj<|zAe<|zAc 1<|S_a [(1,.v (I (↑(j+1):Int)))] (ap (wrN j) an)<|zAc 1<|zAa ?_))
   ·have hb:((fun x => !(decide ((zAk n).getD x.2.toNat 0≠f))) (S.getD j default))=true:=by first | assumption | (simp only [Bool.not_eq_true',decide_eq_false_iff_not];assumption)
    rw [if_pos hb] at yC
    refine ⟨(i+1,j+1,S.set i (S.getD j default)),⟨by omega,by omega,by simpa using hS,?_,fun r w6=>?_⟩,by simp only;omega,by kernel_rfl,by kernel_rfl⟩
    ·rw [yC,← ht,zHb (by omega)]
    ·rw [zJl (by omega)];exact wX r (by omega)
   ·have hb:((fun x => !(decide ((zAk n).getD x.2.toNat 0≠f))) (S.getD j default))=false:=by first | assumption | (simp only [Bool.not_eq_false',decide_eq_true_eq];assumption)
    rw [if_neg (fun h=>Bool.noConfusion (hb.symm.trans h))] at yC
    exact ⟨(i,j+1,S),⟨by omega,by omega,hS,by rw [yC,ht],fun r w6=>wX r (by omega)⟩,by simp only;omega,by kernel_rfl,by kernel_rfl⟩
  ·refine zAg<|zAd 2<|S_a [(0,.n S.length)] (ap (lnS prV S) an)<|zAc 1<|zAa<|zAK ((↑j:Int)<(↑S.length:Int)) (by omega)<|zAs 0<|zAd 2<|S_a [(3,.ob),(0,.yes),(0,.yes),(0,.v (PV.bor 0 [] 2 i (S.length-i)))] (ap ((by exact zA9 (by simp only [List.length_map,zzLn,zA1]<;>omega)):i.ble (List.map prV S).length=true)<|ap ((by exact zA9 (by simp only [List.length_map,zzLn,zA1]<;>omega)):(List.map prV S).length.ble (List.map prV S).length=true)<|ap ((by simp<;>omega):(i.beq 0||i.blt (List.map prV S).length)=true)<|ap ((by simp):PV.bor 0 [] 2 (0+i) ((List.map prV S).length-i)=PV.bor 0 [] 2 i (S.length-i)) an)<|zNO (g:=prV) (fun q=>q) 0 2 i (S.length-i) S ((0,0)) (by first | omega | (simp<;>omega)) ⟨rfl,rfl⟩ (fun _=>(by first | exact zFl | exact ⟨rfl,rfl,rfl,rfl,Nat.le_refl _,rfl⟩)) zNh.nil (zAa<|zAd 2<|S_a [(4,.yes)] (ap ((by exact zA9 (by simp<;>omega)):i.ble (List.map prV (List.take i S++List.replicate (S.length-i) (0,0)++List.drop (i+(S.length-i)) S)).length=true) an)<|zAc 1<|zAa<|zAm<|E_a [(1,.yes),(1,.v (PV.own 2 (List.map prV (List.take i (List.take i S++List.replicate (S.length-i) (0,0)++List.drop (i+(S.length-i)) S)))))] (ap ((by exact zA9 (by simp<;>omega)):(0+((↑i:Int).toNat-0)).ble (List.map prV (List.take i S++List.replicate (S.length-i) (0,0)++List.drop (i+(S.length-i)) S)).length=true)<|ap ((by simp):PV.own 2 (List.take i (List.drop 0 (List.map prV (List.take i S++List.replicate (S.length-i) (0,0)++List.drop (i+(S.length-i)) S))))=PV.own 2 (List.map prV (List.take i (List.take i S++List.replicate (S.length-i) (0,0)++List.drop (i+(S.length-i)) S)))) an) (PV.own 2 (List.map prV (List.take i (List.take i S++List.replicate (S.length-i) (0,0)++List.drop (i+(S.length-i)) S)))) [] ?_ rfl)
   rw [List.take_of_length_le (Nat.le_of_not_lt yz)] at ht
   rw [← ht,List.append_assoc,List.take_append_of_le_length (by rw [List.length_take];omega),List.take_take,Nat.min_self]
def ofL (n:Nw) (f:Int) (l:List (Int×Int)):List (Int×Int):=l.filter fun x => !decide ((zAk n).getD x.2.toNat 0≠f)
theorem f135 (n:Nw) (cs l:List (Int×Int)) (f:Int) (ho:NwOk n) (hl:l.length≤1000) (hr:∀ g∈l,(0≤g.1∧g.1<n.h)∧(0≤g.2∧g.2<n.n.length)):FG 135 [zDv n cs,prs l,I f] (.own 2 ((ofL n f l).map prV)):=by
 have h1:=f122_1 n cs f ho l (by omega) fun x hx=>(hr x hx).2
 refine zAf Tryz.f135 ?_
 refine zAd 3<|zAa<|zAd 1<|S_a [(6,.ret (PV.own 2 (List.map prV l)) [])] (ap (f123 l (by omega)) an)<|zAc 1<|S_a [(3,.ob),(1,.v (PV.own 2 (List.map prV l))),(14,.ret (PV.own 2 (List.map prV (List.filter (fun x => !decide ((zAk n).getD x.snd.toNat 0≠f)) l))) []),(1,.yes)] (ap ((by exact zA9 (by simp only [List.length_map,zzLn,zA1]<;>omega)):(List.map prV l).length.ble (List.map prV l).length=true)<|ap ((zAE zAz):PV.own 2 (List.take (List.map prV l).length (List.drop 0 (List.map prV l)))=PV.own 2 (List.map prV l))<|ap h1<|ap ((by exact zBF _):(PV.own 2 (List.map prV (List.filter (fun x => !decide ((zAk n).getD x.snd.toNat 0≠f)) l))).free=true) an)<|zAc 1<|zAa<|zAm<|E_a [(1,.yes),(1,.v (PV.own 2 (List.map prV (List.filter (fun x => !decide ((zAk n).getD x.snd.toNat 0≠f)) l))))] (ap (blz (List.map prV (List.filter (fun x => !decide ((zAk n).getD x.snd.toNat 0≠f)) l)))<|ap ((zAE zAz):PV.own 2 (List.take (List.map prV (List.filter (fun x => !decide ((zAk n).getD x.snd.toNat 0≠f)) l)).length (List.drop 0 (List.map prV (List.filter (fun x => !decide ((zAk n).getD x.snd.toNat 0≠f)) l))))=PV.own 2 (List.map prV (List.filter (fun x => !decide ((zAk n).getD x.snd.toNat 0≠f)) l))) an) (PV.own 2 (List.map prV (List.filter (fun x => !decide ((zAk n).getD x.snd.toNat 0≠f)) l))) [] rfl rfl
end Go.Eng
set_option maxRecDepth 10000
set_option maxHeartbeats 4000000
namespace Go.Eng
open Go Go.Proofs
def zB7 (n:Nw) (cs:List (Int×Int)) (e:Int) (st:List Int):Int:=if zBT n cs e=0 then if (!st.all fun x=>inB x 0 (n.s.length-1))=true then 1 else if st.Nodup then 0 else 5 else zBT n cs e
structure OffOk (n:Nw) (cs:List (Int×Int)) (e:Int) (st:List Int):Prop where
 err:zB7 n cs e st=0
 ev:EvOk n cs e
 rng:∀ s∈st,0≤s∧s<n.s.length
 nd:st.Nodup
abbrev zXC (n:Nw) (cs:List (Int×Int)) (e:Int) (l:List (Int×Int)):PV := .func 173 [] [.ref (zDv n cs),.ref (prs l),.ref (I e)]
theorem f168_2 (n:Nw) (hb:n.s.length≤6) (x:Int):FG 168 [I x,.ref (.func 170 [nwV n] [])] (.bool (!(inB x 0 (n.s.length-1)))):=by
 refine zAf Tryz.f168 ?_
 refine zAd 1<|zAa<|zAd 2<|S_a [(8,.ret (PV.bool (inB x 0 ((↑n.s.length:Int)-1))) [])] (ap (f170 n x (by omega)) an)<|zAc 2<|zAa<|zAm<|E_a [] an (PV.bool !inB x 0 ((↑n.s.length:Int)-1)) [] rfl rfl
theorem f131_2 (n:Nw) (hb:n.s.length≤6) (l:List (Int)) (hl:l.length<4294967296):FG 131 [.sl (l.map I),.func 168 [] [.ref (.func 170 [nwV n] [])]] (I (zEo (fun x => !(inB x 0 (n.s.length-1))) l)):=by
 refine zAf Tryz.f131 ?_
 refine zAd 1<|zAa<|zAg<|zAd 1<|S_a [(0,.n l.length)] (ap (lnS I l) an)<|zAc 1<|zAa<|zAh 0 ?_
 refine zAo (fun i=>i≤l.length∧∀ j,j<i→(fun x => !(inB x 0 (n.s.length-1))) (l.getD j 0)=false) (fun i=>[(8,I (i:Nat))]) (fun i=>l.length-i) (0:Nat) (by simp) fun i ⟨hi,ha⟩=>?_
 refine zAd 1<|zAa<|zAg<|zBZ ((↑i:Int)<(↑l.length:Int)) (fun k0=>(zAj<|zAg<|zAh 1<|zAd 2<|zAa<|zAd 3<|S_a [(2,.v (I (l.getD i 0)))] (ap (zBx (0) (by omega):(List.map I l)[i]? = some (I (l.getD i 0))) an)<|zAc 1<|S_a [(7,.ret (PV.bool !inB (l.getD i 0) 0 ((↑n.s.length:Int)-1)) [])] (ap (f168_2 n (by omega) (l.getD i 0)) an)<|zAa<|zDf (!inB (l.getD i 0) 0 ((↑n.s.length:Int)-1)) (fun k1=>(zAd 2<|zAa<|zAm<|E_a [] an (I (↑i:Int)) [] ?_ rfl)) (fun k1=>(zAj<|zAe<|S_a [(1,.v (I (↑(i+1):Int)))] (ap (wrN i) an)<|zAc 1<|zAa ?_)))) (fun k0=>(zAs 0<|zAd 1<|zAa<|zAm<|E_a [] an (I (-1)) [] ?_ rfl))
 ·rw [zBO (i:=i) (by omega) (fun j hj=>by rw [← zAq (d:=0)];exact ha j hj) (by rw [← zAq (d:=0)];first | assumption | exact decide_eq_true ‹_› | (simp only [Bool.not_eq_true',decide_eq_false_iff_not];assumption))]
 ·refine ⟨i+1,⟨by omega,fun j hj=>?_⟩,by omega,by kernel_rfl,by kernel_rfl⟩
  rcases Nat.lt_succ_iff_lt_or_eq.1 hj with h | rfl
  ·exact ha j h
  ·first | assumption | exact decide_eq_false ‹_› | (simp only [Bool.not_eq_false',decide_eq_true_eq];first | assumption | (apply Decidable.of_not_not;assumption))
 ·rw [zB1 fun j hj=>by rw [← zAq (d:=0)];exact ha j (by omega)]
theorem f52_2 (n:Nw) (hb:n.s.length≤6) (l:List (Int)) (hl:l.length<4294967296):FG 52 [.sl (l.map I),.func 168 [] [.ref (.func 170 [nwV n] [])]] (.bool (l.any (fun x => !(inB x 0 (n.s.length-1))))):=by
 refine zAf Tryz.f52 ?_
 refine zAd 1<|zAa<|zAd 2<|S_a [(7,.ret (I (zEo (fun x => !inB x 0 ((↑n.s.length:Int)-1)) l)) [])] (ap (f131_2 n (by omega) l (by omega)) an)<|zAc 2<|zAa<|zAm<|E_a [] an (PV.bool (decide (zEo (fun x => !inB x 0 ((↑n.s.length:Int)-1)) l≥0))) [] ?_ rfl
 rw [zD2]
theorem f108_2 (n:Nw) (hb:n.s.length≤6) (l:List (Int)) (hl:l.length<4294967296):FG 108 [.sl (l.map I),.func 170 [nwV n] []] (.bool (l.all (fun x=>inB x 0 (n.s.length-1)))):=by
 refine zAf Tryz.f108 ?_
 refine zAd 2<|zAa<|zAd 2<|S_a [(12,.ret (PV.bool (l.any fun x => !inB x 0 ((↑n.s.length:Int)-1))) [])] (ap (f52_2 n (by omega) l (by omega)) an)<|zAc 2<|zAa<|zAm<|E_a [] an (PV.bool !l.any fun x => !inB x 0 ((↑n.s.length:Int)-1)) [] ?_ rfl
 simp [List.not_any_eq_all_not]
theorem f121_1 (n:Nw) (cs:List (Int×Int)) (e:Int) (st:List Int) (ho:OffOk n cs e st) (yC:st.length<1000000):FG 121 [nwV n,prs cs,I e,zAw st] (.tup [zDv n cs,prs (zAT n (zAL n cs e.toNat)),.agg [zXC n cs e (zAT n (zAL n cs e.toNat))],I 0]):=by
 have yi:=ho.ev
 have jf:=yi.cr
 have kg:=jf.w
 have hn:=jf.nw
 have he:=yi.ev
 have hs6:=hn.sl.2
 have hwl:=zCT (n:=n) (cs:=cs) e.toNat
 have gb:=zDi (w:=zAL n cs e.toNat) hn
 have hin:(!st.all fun x=>inB x 0 (n.s.length-1))=false:=by
  simp only [Bool.not_eq_false',List.all_eq_true]
  intro s hs;have:=ho.rng s hs
  simp only [inB,Bool.and_eq_true,decide_eq_true_eq];omega
 refine zAf Tryz.f121 ?_
 refine zAd 6<|zAa<|zAd 3<|S_a [(10,.ret (PV.tup [zDv n cs,I 0]) [])] (ap (f90_1 n cs e (by omega)) an)<|zAc 6<|zAa<|zAg<|zAh 0<|zAd 3<|zAa<|zAW<|zAd 3<|S_a [(7,.ret (PV.bool (st.all fun x=>inB x 0 ((↑n.s.length:Int)-1))) [])] (ap (f108_2 n (by omega) st (by omega)) an)<|zAc 2<|zAa<|zDf (!st.all fun x=>inB x 0 ((↑n.s.length:Int)-1)) (fun k0=>(zAd 5<|zAa<|zAm<|E_a [] an (PV.tup [PV.nilp,PV.sl [],PV.agg [PV.nilf],I 1]) [] ?_ rfl)) (fun k0=>(zAj<|zAg<|zAd 1<|S_a [(0,.n st.length)] (ap (lnS I st) an)<|zAc 1<|zAa<|zAh 1 ?_))
 ·rw [hin] at k0;cases k0
 ·refine zAo (fun i=>i≤st.length) (fun (i:Nat)=>[(38,I (i:Nat))]) (fun i=>st.length-i) (0:Nat) (by omega) fun i hi=>?_
  by_cases yB:i<st.length
  ·have kH:has (st.take i) (st.getD i 0)=false:=by
    rw [zLc,decide_eq_false_iff_not]
    intro hm
    have yS:=ho.nd
    rw [← List.take_append_drop i st,List.nodup_append] at yS
    refine yS.2.2 _ hm _ ?_ rfl
    rw [List.drop_eq_getElem_cons yB,zAq yB];exact List.mem_cons_self
   refine zAd 1<|zAa<|zAg<|zAJ ((↑i:Int)<(↑st.length:Int)) (by omega)<|zAj<|zAg<|zAh 2<|zAd 1<|S_a [(2,.v (I (st.getD i 0)))] (ap (zBx (0) (by omega):(List.map I st)[i]? = some (I (st.getD i 0))) an)<|zAc 3<|zAa<|zAd 2<|S_a [(3,.ob),(0,.ob),(0,.v (zAw (List.take i st)))] (ap ((by exact zA9 (by simp only [List.length_map,zzLn,zA1]<;>omega)):i.ble (List.map I st).length=true)<|ap ((by exact all_map _):((List.map I st).all fun x=>x.cells.length.beq ((fun x=>x.size) Tryz.prog.types[3]))=true)<|ap ((by simp):PV.sl (List.take i (List.drop 0 (List.map I st)))=zAw (List.take i st)) an)<|zAc 1<|S_a [(8,.ret (PV.bool (has (List.take i st) (st.getD i 0))) [])] (ap (f58 (List.take i st) (st.getD i 0) (by first | omega | (simp<;>omega))) an)<|zAa<|zDf (has (List.take i st) (st.getD i 0)) (fun k1=>(zAd 5<|zAa<|zAm<|E_a [] an (PV.tup [PV.nilp,PV.sl [],PV.agg [PV.nilf],I 5]) [] ?_ rfl)) (fun k1=>(zAj<|zAe<|S_a [(1,.v (I (↑(i+1):Int)))] (ap (wrN i) an)<|zAc 1<|zAa ?_))
   ·rw [kH] at k1;cases k1
   ·exact ⟨i+1,by omega,by omega,by kernel_rfl,by kernel_rfl⟩
  ·refine zAd 1<|zAa<|zAg<|zAK ((↑i:Int)<(↑st.length:Int)) (by omega)<|zAs 1<|zAd 3<|S_a [(7,.ret (hdV (zAL n cs e.toNat)) [])] (ap (f92 n cs e (by omega) (by omega)) an)<|S_a [(7,.ret (PV.own 2 (List.map prV (zAT n (zAL n cs e.toNat)))) [])] (ap (f91 n cs (zAL n cs e.toNat) (by omega) (by omega)) an)<|zAc 1<|S_a [(3,.v (prs (zAT n (zAL n cs e.toNat))))] (ap ((zPh (zAD _)):PV.sl (zAu (List.map prV (zAT n (zAL n cs e.toNat))))=prs (zAT n (zAL n cs e.toNat))) an)<|zAa<|zAd 8<|zAa<|zAm<|E_a [] an (PV.tup [(PV.agg (I n.h::prs n.l::PV.sl (List.map ntV n.n)::PV.sl (List.map zAw n.s)::prs cs::PV.map (List.map zBv (List.map pr2 n.l))::(zAQ (zAk n) 8++zAQ (zA2 n) 8))).ref,prs (zAT n (zAL n cs e.toNat)),PV.agg [PV.func 173 [] [(PV.agg (I n.h::prs n.l::PV.sl (List.map ntV n.n)::PV.sl (List.map zAw n.s)::prs cs::PV.map (List.map zBv (List.map pr2 n.l))::(zAQ (zAk n) 8++zAQ (zA2 n) 8))).ref.ref,(prs (zAT n (zAL n cs e.toNat))).ref,(I e).ref]],I 0]) [] rfl rfl
theorem f121_2 (n:Nw) (cs:List (Int×Int)) (e:Int) (st:List Int) (ho:EvOk n cs e) (yC:st.length<1000000) (hb:(!st.all fun x=>inB x 0 (n.s.length-1))=true):FG 121 [nwV n,prs cs,I e,zAw st] (.tup [.nilp,.sl [],.agg [.nilf],I 1]):=by
 have hs6:=ho.cr.nw.sl.2
 refine zAf Tryz.f121 ?_
 refine zAd 6<|zAa<|zAd 3<|S_a [(10,.ret (PV.tup [zDv n cs,I 0]) [])] (ap (f90_1 n cs e (by omega)) an)<|zAc 6<|zAa<|zAg<|zAh 0<|zAd 3<|zAa<|zAW<|zAd 3<|S_a [(7,.ret (PV.bool (st.all fun x=>inB x 0 ((↑n.s.length:Int)-1))) [])] (ap (f108_2 n (by omega) st (by omega)) an)<|zAc 2<|zAa<|zDf (!st.all fun x=>inB x 0 ((↑n.s.length:Int)-1)) (fun k0=>(zAd 5<|zAa<|zAm<|E_a [] an (PV.tup [PV.nilp,PV.sl [],PV.agg [PV.nilf],I 1]) [] rfl rfl)) (fun k0=>(zAj<|zAg<|zAd 1<|S_a [(0,.n st.length)] (ap (lnS I st) an)<|zAc 1<|zAa<|zAh 1 ?_))
 all_goals (rw [hb] at k0;cases k0)
theorem f121_3 (n:Nw) (cs:List (Int×Int)) (e:Int) (st:List Int) (hs:Small n) (hl:cs.length<1000000) (ho:¬ zBT n cs e=0):FG 121 [nwV n,prs cs,I e,zAw st] (.tup [.nilp,.sl [],.agg [.nilf],I (zBT n cs e)]):=by
 refine zAf Tryz.f121 ?_
 refine zAd 6<|zAa<|zAd 3<|S_a [(10,.ret (PV.tup [PV.nilp,I (zBT n cs e)]) [])] (ap (f90_2 n cs e (by omega) (by omega) (by omega)) an)<|zAc 6<|zAa<|zAg<|zAh 0<|zAd 3<|zAa<|zCH (zBT n cs e=0) (by omega)<|zAd 6<|zAa<|zAm<|E_a [] an (PV.tup [PV.nilp,PV.sl [],PV.agg [PV.nilf],I (zBT n cs e)]) [] rfl rfl
theorem f173 (n:Nw) (cs l:List (Int×Int)) (e:Int) (c:Int×Int) (ho:CrW n cs) (hl:cs.length≤16) (he:0≤e∧e≤1000) (qG:l.length≤1000) (hm:∀ g∈l,(0≤g.1∧g.1<n.h)∧(0≤g.2∧g.2<n.n.length)) (hc:(0≤c.1∧c.1<n.n.length)∧(0≤c.2∧c.2<n.s.length)):FG 173 [prV c,.ref (zDv n cs),.ref (prs l),.ref (I e)] (.sl ((zCn n (zAL n (cs++[c]) e.toNat) l).map prV)):=by
 refine zAf Tryz.f173 ?_
 refine zAd 2<|zAa<|zAd 4<|S_a [(11,.ret (PV.own 2 (List.map prV (zCn n (zAL n (cs++[c]) e.toNat) l))) [])] (ap (f119 n cs l e c (by omega) (by omega) (by omega) (by omega) (by omega) (by omega)) an)<|zAc 1<|zAa<|zAm<|E_a [(1,.envv ([(4,(PV.agg [I c.fst,I c.snd]).box),(5,prs (zCn n (zAL n (cs++[c]) e.toNat) l))]) (prs (zCn n (zAL n (cs++[c]) e.toNat) l)))] (ap (And.intro (Eq.trans (by kernel_rfl:Env.frz [(4,(PV.agg [I c.fst,I c.snd]).box),(5,PV.own 2 (List.map prV (zCn n (zAL n (cs++[c]) e.toNat) l)))] 5 []=some [(4,(PV.agg [I c.fst,I c.snd]).box),(5,PV.sl (zAu (List.map prV (zCn n (zAL n (cs++[c]) e.toNat) l))))]) ((by simp only [show zAu (List.map prV (zCn n (zAL n (cs++[c]) e.toNat) l))=List.map prV (zCn n (zAL n (cs++[c]) e.toNat) l) from (by first | exact zAD _ | exact zAN _ | exact zAI _ | exact zA5 (zAN _) | exact zA5 (zAI _) | exact zCw (by simp [zB4]) (zAD _))]):some [(4,(PV.agg [I c.fst,I c.snd]).box),(5,PV.sl (zAu (List.map prV (zCn n (zAL n (cs++[c]) e.toNat) l))))]=some [(4,(PV.agg [I c.fst,I c.snd]).box),(5,prs (zCn n (zAL n (cs++[c]) e.toNat) l))])) (zKQ (by first | exact zAD _ | exact zAN _ | exact zAI _):PV.mapW (inl 5 [] (PV.own 2 (List.map prV (zCn n (zAL n (cs++[c]) e.toNat) l)))) (PV.bor 5 [] 2 0 (List.map prV (zCn n (zAL n (cs++[c]) e.toNat) l)).length)=prs (zCn n (zAL n (cs++[c]) e.toNat) l))) an) (prs (zCn n (zAL n (cs++[c]) e.toNat) l)) [] rfl rfl
end Go.Eng
namespace Go.Eng
open Go Go.Proofs
def zVO (n:Nw) (g:Int×Int):Prop:=(0≤g.1∧g.1<n.h)∧(0≤g.2∧g.2<n.n.length)
theorem zNE {n:Nw} {w:List Int} (g:Int×Int) (hg:g∈zAT n w):zVO n g:=by
 obtain ⟨h,i,h1,h2,rfl,_⟩:=zNo hg
 unfold zVO;simp only;omega
def mdK (n:Nw) (K:List (List Bool)) (g:Int×Int):Bool := !zLS n K g.1.toNat g.2.toNat
theorem zXk {n:Nw} {cs:List (Int×Int)} (ho:CrW n cs) (e:Nat) {l:List (Int×Int)} (hl:∀ g∈l,zVO n g):l.filter (mdK n (zGt n cs e))=zCn n (zAL n cs e) l:=by
 unfold zCn
 refine List.filter_congr fun g hg=>?_
 obtain ⟨h1,h2⟩:=hl g hg
 unfold mdK zVH
 rw [zRL ho.nw (zHP ho e) (by omega) (by omega),hld,Int.toNat_of_nonneg h2.1]
 simp
def zNG (n:Nw) (cs:List (Int×Int)) (e:Nat) (G:List (Int×Int)) (st:List Int) (k:Nat):List (List (Int×Int)):=(List.range k).flatMap fun (i:Nat)=>st.map fun s=>zCn n (zAL n (cs++[((i:Int),s)]) e) G
def zWZ (n:Nw) (cs:List (Int×Int)) (e:Nat) (G:List (Int×Int)) (st:List Int):List (Int×Int):=G.filter fun g => !(zNG n cs e G st n.n.length).any fun r=>has r g
theorem zFD {α β:Type} (p:β→α→Bool):∀ (l:List β) (L:List α),l.foldl (fun L s=>L.filter (p s)) L=L.filter fun g=>l.all fun s=>p s g
 | [],L=>by
  symm
  exact List.filter_eq_self.2 fun _ _=>rfl
 | s::l,L=>by
  rw [List.foldl_cons,zFD p l,List.filter_filter]
  refine List.filter_congr fun g _=>?_
  rw [List.all_cons,Bool.and_comm]
def zUx (n:Nw) (cs:List (Int×Int)) (e:Nat) (G:List (Int×Int)) (i:Nat) (L:List (Int×Int)) (st:List Int):List (Int×Int):=st.foldl (fun L s=>L.filter fun g => !has (zCn n (zAL n (cs++[((i:Int),s)]) e) G) g) L
def zU5 (n:Nw) (cs:List (Int×Int)) (e:Nat) (G:List (Int×Int)) (st:List Int) (k:Nat):List (Int×Int):=(List.range k).foldl (fun L i=>zUx n cs e G i L st) G
theorem zMh {n:Nw} {cs:List (Int×Int)} {e:Nat} {G L:List (Int×Int)} {i j:Nat} {st:List Int} (h:j<st.length):zUx n cs e G i L (st.take (j+1))=(zUx n cs e G i L (st.take j)).filter fun g => !has (zCn n (zAL n (cs++[((i:Int),st.getD j 0)]) e) G) g:=zEW h
theorem zL4 {n:Nw} {cs:List (Int×Int)} {e:Nat} {G:List (Int×Int)} {st:List Int} {k:Nat}:zU5 n cs e G st (k+1)=zUx n cs e G k (zU5 n cs e G st k) st:=by
 simp only [zU5,List.range_succ,List.foldl_append,List.foldl_cons,List.foldl_nil]
theorem zWK {n:Nw} {cs:List (Int×Int)} {e:Nat} {G:List (Int×Int)} {st:List Int}:zU5 n cs e G st n.n.length=zWZ n cs e G st:=by
 have h1:∀ i L,zUx n cs e G i L st=L.filter fun g=>st.all fun s => !has (zCn n (zAL n (cs++[((i:Int),s)]) e) G) g:=fun i L=>zFD _ st L
 unfold zU5
 simp only [h1]
 rw [zFD (fun (i:Nat) g=>st.all fun s => !has (zCn n (zAL n (cs++[((i:Int),s)]) e) G) g)]
 unfold zWZ
 refine List.filter_congr fun g _=>?_
 unfold zNG
 rw [Bool.eq_iff_iff]
 simp [List.any_flatMap]
theorem zIk {n:Nw} {cs:List (Int×Int)} {e:Nat} {G:List (Int×Int)} {i:Nat}:∀ (st:List Int) (L:List (Int×Int)),(zUx n cs e G i L st).length≤L.length
 | [],_=>Nat.le_refl _
 | s::st,L=>Nat.le_trans (zIk st _) (List.length_filter_le _ _)
theorem zPt {n:Nw} {cs:List (Int×Int)} {e:Nat} {G:List (Int×Int)} {st:List Int}:∀ k,(zU5 n cs e G st k).length≤G.length
 | 0=>Nat.le_refl _
 | k+1=>by rw [zL4];exact Nat.le_trans (zIk st _) (zPt k)
theorem zOn {st:List Int} (h:∀ i,i<st.length→∀ k,k<i→st.getD i 0≠st.getD k 0):st.Nodup:=by
 refine List.pairwise_iff_getElem.2 fun k i h1 h2 jc=>?_
 have:=h i h2 k jc
 rw [zAq h2,zAq h1] at this
 exact fun e=>this e.symm
theorem zR2 {st:List Int} {i k:Nat} (hi:i<st.length) (hk:k<i) (h:st.getD i 0=st.getD k 0):¬ st.Nodup:=fun yS=>by
 have:=(List.pairwise_iff_getElem.1 yS) k i (by omega) hi hk
 rw [zAq hi,zAq (by omega)] at h
 exact this h.symm
theorem zWl {n:Nw} {cs:List (Int×Int)} {e:Int} {st:List Int} (h:zB7 n cs e st=0):OffOk n cs e st:=by
 have h0:=h
 unfold zB7 at h
 split at h
 case isFalse h2=>exact absurd h h2
 rename_i c1
 split at h
 ·cases h
 rename_i c2
 split at h
 case isFalse=>cases h
 rename_i c3
 simp only [Bool.not_eq_true,Bool.not_eq_false',List.all_eq_true] at c2
 exact ⟨h0,zPY c1,fun s hs=>by have:=zC6 (c2 s hs);omega,c3⟩
end Go.Eng
