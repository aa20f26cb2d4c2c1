/- For any news, cries, evenings and yV the law NewsHolds ends in true: what a yV j1 and what it j2 are as specified; without conditions. -/
import Derived.Test.YtppbomajegnkeaaGreatPg
import Derived.Test.YtppbomajegnkeaaGreatPd
set_option linter.unusedVariables false
set_option linter.unusedSimpArgs false
set_option linter.unusedSectionVars false
set_option maxRecDepth 10000
set_option maxHeartbeats 4000000
namespace Go.Eng
open Go Go.Proofs
def zTz (n:Nw) (i:Nat):Bool:=decide ((zA6 n).getD i 0=i) && !(n.n.getD i default).2
def zB3 (p:Nat→Bool) (k:Nat):List Int:=((List.range k).filter p).map fun (i:Nat)=>(i:Int)
theorem zFZ {p:Nat→Bool} {k:Nat}:zB3 p (k+1)=if p k=true then zB3 p k++[(k:Int)] else zB3 p k:=by
 unfold zB3;rw [List.range_succ,List.filter_append,List.map_append]
 by_cases hn:p k=true
 ·rw [if_pos hn];simp [hn]
 ·rw [if_neg hn];simp [hn]
theorem zEO {p:Nat→Bool} {k:Nat}:(zB3 p k).length≤k:=by
 unfold zB3;rw [List.length_map];exact Nat.le_trans (List.length_filter_le _ _) (by simp)
theorem f86_1 (n:Nw) (ho:NwOk n):FG 86 [nwV n] (.tup [.own 1 ((zB3 (zTz n) n.n.length).map I),I 0]):=by
 have uH:=ho.nl
 refine zAe Tryz.f86 ?_
 refine zAc 3<|zAa<|zAc 1<|S_a [(6,.ret (PV.tup [(zCt n (PV.own 2 []) (zUo (List.map pr2 n.l)) (zAl n) (zA6 n)).box,I 0]) [])] (ap (f139_1 n (by omega)) an)<|zAd 5<|zAa<|zAh<|zAc 2<|zAa<|zAW<|zAj<|zAc 1<|zAa<|zAh<|zAc 2<|S_a [(0,.n n.n.length)] (ap (lnS ntV n.n) an)<|zAd 1<|zAa<|zAi 0 ?_
 refine zAp (fun (i,l)=>i≤n.n.length∧l=zB3 (zTz n) i) (fun (i,l)=>[(6,.own 1 (l.map I)),(20,I (i:Nat))]) (fun (i,_)=>n.n.length-i) ((0:Nat),([]:List Int)) ⟨by omega,by simp [zB3]⟩ fun (i,l) ⟨hi,hl⟩=>?_
 have vg:l.length≤i:=by rw [hl];exact zEO
 by_cases yG:i<n.n.length
 ·have yT:=zFZ (p:=zTz n) (k:=i)
  rw [← hl] at yT
  have kH:zTz n i=false→l=zB3 (zTz n) (i+1):=fun h=>by rw [yT,if_neg (by rw [h];simp)]
  refine zAc 1<|zAa<|zAh<|zAU ((↑i:Int)<(↑n.n.length:Int)) (by omega)<|zAj<|zAh<|zAi 1<|zAc 1<|S_a [(2,.v (PV.agg [I (n.n.getD i default).fst,PV.bool (n.n.getD i default).snd]))] (ap (zBG default (by omega):(List.map ntV n.n)[i]? = some (PV.agg [I (n.n.getD i default).fst,PV.bool (n.n.getD i default).snd])) an)<|zAd 4<|zAa<|zAc 4<|S_a [(2,.ob),(1,.v (PV.addr 4 [] 0 (14+i) none))] (ap ((by exact zAq (by omega)):decide (i<8)=true)<|ap ((zFE (by kernel_rfl)):PV.addr 4 [] 0 (14+i*(fun x=>x.size) Tryz.prog.types[3]) none=PV.addr 4 [] 0 (14+i) none) an)<|S_a [(0,.cs true ([I ((zA6 n).getD i 0)]))] (ap (zDM (q:=(PV.agg (I n.h::prs n.l::PV.sl (List.map ntV n.n)::PV.sl (List.map zAP n.s)::PV.own 2 []::PV.omap (List.map zBx (List.map pr2 n.l))::(zAS (zAl n) 8++zAS (zA6 n) 8))).box) (xs:=[PV.agg (I n.h::prs n.l::PV.sl (List.map ntV n.n)::PV.sl (List.map zAP n.s)::PV.own 2 []::PV.omap (List.map zBx (List.map pr2 n.l))::(zAS (zAl n) 8++zAS (zA6 n) 8))]) (x:=PV.agg (I n.h::prs n.l::PV.sl (List.map ntV n.n)::PV.sl (List.map zAP n.s)::PV.own 2 []::PV.omap (List.map zBx (List.map pr2 n.l))::(zAS (zAl n) 8++zAS (zA6 n) 8))) rfl rfl (zKl (A:=I n.h::prs n.l::PV.sl (List.map ntV n.n)::PV.sl (List.map zAP n.s)::PV.own 2 []::PV.omap (List.map zBx (List.map pr2 n.l))::zAS (zAl n) 8) (B:=[]) (F:=zA6 n) (m:=8) (j:=i) (by first | rfl | exact zBX (by kernel_rfl) | exact zBU (by kernel_rfl) | exact zDP (by kernel_rfl) (by kernel_rfl) | exact zC6 (by kernel_rfl) | exact zDU (by kernel_rfl) (by kernel_rfl) | exact zDF (by kernel_rfl) | (simp;done)) (by omega)):zAv 4 (PV.agg (I n.h::prs n.l::PV.sl (List.map ntV n.n)::PV.sl (List.map zAP n.s)::PV.own 2 []::PV.omap (List.map zBx (List.map pr2 n.l))::(zAS (zAl n) 8++zAS (zA6 n) 8))).box [] 0 (14+i) 1=some (true,[I ((zA6 n).getD i 0)])) an)<|zAd 3<|zET 33 ((zA6 n).getD i 0=(↑i:Int)) (fun k0=>(zAd 4<|zAa<|zDr (!(n.n.getD i default).snd) (fun k1=>(zAf<|zAd 3<|S_a [(4,.ob),(0,.ob),(0,.yes),(2,.v (PV.own 1 (List.map I (l++[(↑i:Int)]))))] (ap (blz (List.map I l))<|ap ((by exact zBp (by simp only [List.length_map,zzLn,zAZ]<;>omega)):((List.map I l).length + [I (↑i:Int)].length).ble zAZ=true)<|ap ((by exact zBs (by simp<;>omega)):(0+(List.map I l).length).beq (List.map I l).length=true)<|ap ((zAM (zCh (by kernel_rfl))):PV.own 1 (List.map I l++[I (↑i:Int)])=PV.own 1 (List.map I (l++[(↑i:Int)]))) an)<|zAd 1<|zAa<|zAf<|S_a [(1,.v (I (↑(i+1):Int)))] (ap (wrN i) an)<|zAd 1<|zAa ?_)) (fun k1=>(zAj<|zAf<|S_a [(1,.v (I (↑(i+1):Int)))] (ap (wrN i) an)<|zAd 1<|zAa ?_)))) (fun k0=>(zAd 4<|zAa<|zAW<|zAj<|zAf<|S_a [(1,.v (I (↑(i+1):Int)))] (ap (wrN i) an)<|zAd 1<|zAa ?_))
  ·rw [if_pos (by simp only [zTz,decide_eq_true k0,k1];rfl)] at yT
   exact ⟨(i+1,l++[(i:Int)]),⟨by omega,yT.symm⟩,by simp only;omega,by kernel_rfl,by kernel_rfl⟩
  ·exact ⟨(i+1,l),⟨by omega,kH (by simp only [zTz,decide_eq_true k0,k1];rfl)⟩,by simp only;omega,by kernel_rfl,by kernel_rfl⟩
  ·exact ⟨(i+1,l),⟨by omega,kH (by simp only [zTz,decide_eq_false k0,Bool.false_and])⟩,by simp only;omega,by kernel_rfl,by kernel_rfl⟩
 ·refine zAc 1<|zAa<|zAh<|zAT ((↑i:Int)<(↑n.n.length:Int)) (by omega)<|zAz 0<|zAc 1<|S_a [(2,.yes)] (ap ((by exact zBs (by simp<;>omega)):(Nat.beq 0 0&&(List.map I l).length.beq (List.map I l).length)=true) an)<|zAd 1<|zAa<|zAm<|E_a [(1,.yes),(1,.v (PV.own 1 (List.map I l)))] (ap (blz (List.map I l))<|ap ((zAM zAG):PV.own 1 (List.take (List.map I l).length (List.drop 0 (List.map I l)))=PV.own 1 (List.map I l)) an) (PV.tup [PV.own 1 (List.map I l),I 0]) [] ?_ rfl
  rw [hl,show i=n.n.length by omega]
def bkL (n:Nw) (cs:List (Int×Int)) (c:Nat) (x:Int):Nat→List Int→List Int
 | 0,out=>out
 | k+1,out=>bkL n cs c x k (match (zHQ n (out.getD 0 0).toNat n.h.toNat).find? fun o=>decide ((zBl n cs k).getD (o*8+c) 0=x) with | some o=>(o:Int)::out | none=>out)
abbrev zUB (S:List (List Int)):PV := .box (.own 80 (S.map hdV))
def zRj (n:Nw) (cs:List (Int×Int)) (k:Nat):List (List Int):=(List.range k).map fun k=>zBl n cs k
theorem zMj {n:Nw} {cs:List (Int×Int)} {k:Nat}:zRj n cs (k+1)=zRj n cs k++[zBl n cs k]:=by
 simp only [zRj,List.range_succ,List.map_append,List.map_cons,List.map_nil]
theorem zK7 {n:Nw} {cs:List (Int×Int)} {k j:Nat} (h:j<k):(zRj n cs k).getD j []=zBl n cs j:=by
 simp [zRj,List.getD_eq_getElem?_getD,h]
theorem zUC (n:Nw) (cs:List (Int×Int)) (h:Int) (ho:NwOk n) (hh:0≤h∧h<n.h):zFV 169 [] [.ref (zDv n cs),.ref (I h)] (zIF n h.toNat n.h.toNat):=by
 obtain ⟨g,rfl⟩:∃ g:Nat,h=g:=⟨h.toNat,by omega⟩
 exact zUj n cs g ho hh.2
theorem zKw {p:Nat→Bool}:∀ {l:List Nat} {j o:Nat},l[j]? = some o→p o=true→(∀ i,i<j→p (l.getD i 0)=false)→l.find? p=some o
 | [],j,o,h,_,_=>by cases h
 | x::l,0,o,h,hp,_=>by
  simp only [List.getElem?_cons_zero,Option.some.injEq] at h
  subst h;rw [List.find?_cons,hp]
 | x::l,j+1,o,h,hp,ha=>by
  have h0:=ha 0 (by omega)
  simp only [List.getD_cons_zero] at h0
  rw [List.find?_cons,h0]
  exact zKw (by simpa using h) hp fun i hi=>by simpa using ha (i+1) (by omega)
theorem zPm {p:Nat→Bool} {l:List Nat} (ha:∀ i,i<l.length→p (l.getD i 0)=false):l.find? p=none:=by
 rw [List.find?_eq_none]
 intro x hx
 obtain ⟨i,hi,rfl⟩:=List.getElem_of_mem hx
 have:=ha i hi
 rw [zAs hi] at this
 simp [this]
theorem f38_1 (n:Nw) (cs:List (Int×Int)) (h:Int) (x:Int) (k:Nat) (ho:CrOk n cs) (hh:0≤h∧h<n.h) (hx:0≤x∧x<n.n.length) (hk:k≤12) (jq:(zBl n cs k).getD (h.toNat*8+((zAl n).getD x.toNat 0).toNat) 0=x) (hm:∀ j,j<k→(zBl n cs j).getD (h.toNat*8+((zAl n).getD x.toNat 0).toNat) 0≠x):FG 38 [nwV n,prs cs,I h,I x] (.tup [.own 1 ((bkL n cs ((zAl n).getD x.toNat 0).toNat x k [h]).map I),I 0]):=by
 have hn:=ho.nw
 have uV:=ho.w
 have hb:=hn.h
 have uH:=hn.nl
 have hin:inB x 0 (n.n.length-1)=true:=by simp only [inB,Bool.and_eq_true,decide_eq_true_eq];omega
 have hih:inB h 0 (n.h-1)=true:=by simp only [inB,Bool.and_eq_true,decide_eq_true_eq];omega
 have hfb:=zB4 hn x.toNat (by omega)
 refine zAe Tryz.f38 ?_
 refine zAc 4<|zAa<|zAc 2<|S_a [(8,.ret (PV.tup [zDv n cs,I 0]) [])] (ap (f99_1 n cs (by omega)) an)<|zAd 5<|zAa<|zAh<|zAi 0<|zAc 3<|zAa<|zAW<|zAc 2<|S_a [(8,.ret (PV.bool (inB h 0 (n.h-1))) [])] (ap (f109 n h (by omega)) an)<|zAd 2<|zEl 32 (!inB h 0 (n.h-1)) (fun k1=>(zAd 6<|zAa<|zBR<|zAc 2<|zAa<|zAm<|E_a [] an (PV.tup [PV.own 1 [],I 1]) [] ?_ rfl)) (fun k1=>(zAd 2<|S_a [(8,.ret (PV.bool (inB x 0 ((↑n.n.length:Int)-1))) [])] (ap (f106 n x (by first | omega | (simp<;>omega))) an)<|zAd 3<|zAa<|zDr (!inB x 0 ((↑n.n.length:Int)-1)) (fun k2=>(zAc 2<|zAa<|zAm<|E_a [] an (PV.tup [PV.own 1 [],I 1]) [] ?_ rfl)) (fun k2=>(zAj<|zAc 4<|S_a [(0,.ob),(1,.ob),(0,.v ((I ((zAl n).getD x.toNat 0)).ref))] (ap ((by exact zAq (by omega)):decide (0≤x)=true)<|ap ((by exact zAq (by omega)):decide (x.toNat<8)=true)<|ap (zGG (F:=zAl n) (m:=8) (j:=x.toNat) (by omega):zCd (PV.agg (zAS (zAl n) 8)).ref (x.toNat*(fun x=>x.size) Tryz.prog.types[3]) none=some (I ((zAl n).getD x.toNat 0)).ref) an)<|zAd 3<|zAa<|zAc 1<|S_a [(5,.ret (hdV (zPf n cs)) [])] (ap (f100 n cs (by omega)) an)<|zAd 3<|zAa<|zAh<|zAi 1 ?_))))
 ·rw [hih] at k1;cases k1
 ·rw [hin] at k2;cases k2
 ·generalize hc:((zAl n).getD x.toNat 0)=c at *
  refine zAp (fun (j,S)=>j≤k∧S=zRj n cs (j+1)) (fun (j,S)=>[(13,zUB S)]) (fun (j,_)=>k-j) ((0:Nat),[zPf n cs]) ⟨by omega,rfl⟩ fun (j,S) ⟨hj,hS⟩=>?_
  have gg:S.length=j+1:=by rw [hS];simp [zRj]
  have qI:S.getD (S.length-1) []=zBl n cs j:=by rw [gg,hS];exact zK7 (by omega)
  have gi:(S.getD (S.length-1) []).length=80:=by rw [qI];exact zCJ j
  by_cases qm:j<k
  ·have hI:=hm j qm
   rw [← qI] at hI
   have hSS:S++[zDH n (S.getD (S.length-1) [])]=zRj n cs (j+1+1):=by rw [zMj (k:=j+1),← hS,qI];rfl
   refine zAh<|zAh<|zAf<|S_a [(1,.v (PV.bor 13 [(0,0)] 80 0 S.length))] (ap ((by simp):PV.bor 13 [(0,0)] 80 0 (List.map hdV S).length=PV.bor 13 [(0,0)] 80 0 S.length) an)<|S_a [(1,.v (PV.bor 13 [(0,0)] 80 0 S.length))] (ap ((by simp):PV.bor 13 [(0,0)] 80 0 (List.map hdV S).length=PV.bor 13 [(0,0)] 80 0 S.length) an)<|zAd 1<|S_a [(1,.v (I (↑(S.length-1):Int)))] (ap ((zCV (by omega) (by omega)):I (IntKind.i64.wrap ((↑S.length:Int)-1))=I (↑(S.length-1):Int)) an)<|zAd 2<|S_a [(2,.ob),(1,.n (S.length-1))] (ap ((by exact zAq (by omega)):decide (S.length-1<S.length)=true)<|ap ((by simp):some (0+(S.length-1))=some (S.length-1)) an)<|S_a [(0,.ob),(1,.ob)] (ap ((by exact zAq (by omega)):decide (0≤h)=true)<|ap ((by exact zAq (by omega)):decide (h.toNat<10)=true) an)<|S_a [(0,.ob),(1,.ob)] (ap ((by exact zAq (by omega)):decide (0≤c)=true)<|ap ((by exact zAq (by omega)):decide (c.toNat<8)=true) an)<|S_a [(0,.cs true ([I ((S.getD (S.length-1) []).getD (h.toNat*8+c.toNat) 0)]))] (ap (zDM (q:=PV.own 80 (List.map hdV S)) (xs:=List.map hdV S) (x:=PV.agg (zAS (S.getD (S.length-1) []) 80)) (zMB (xs:=[PV.own 80 (List.map hdV S)]) (x:=PV.own 80 (List.map hdV S)) (y:=PV.own 80 (List.map hdV S)) rfl rfl) (zBG [] (by omega)) (zE7 (F:=S.getD (S.length-1) []) (m:=80) (j:=h.toNat*8+c.toNat) (by first | rfl | exact zBX (by kernel_rfl) | exact zBU (by kernel_rfl) | exact zDP (by kernel_rfl) (by kernel_rfl) | exact zC6 (by kernel_rfl) | exact zDU (by kernel_rfl) (by kernel_rfl) | exact zDF (by kernel_rfl) | (simp;done)) (by omega)):zAv 13 (PV.own 80 (List.map hdV S)).box [(0,0)] (S.length-1) (0+h.toNat*(fun x=>x.size) Tryz.prog.types[128]+c.toNat*(fun x=>x.size) Tryz.prog.types[3]) 1=some (true,[I ((S.getD (S.length-1) []).getD (h.toNat*8+c.toNat) 0)])) an)<|zAd 2<|zAa<|zDm ((S.getD (S.length-1) []).getD (h.toNat*8+c.toNat) 0=x) (by omega)<|zAj<|zAi 2<|zAh<|zAh<|zAf<|S_a [(1,.v (PV.bor 13 [(0,0)] 80 0 S.length))] (ap ((by simp):PV.bor 13 [(0,0)] 80 0 (List.map hdV S).length=PV.bor 13 [(0,0)] 80 0 S.length) an)<|zAd 2<|zAa<|zAT ((↑S.length:Int)>12) (by omega)<|zAj<|zAf<|S_a [(1,.v (PV.bor 13 [(0,0)] 80 0 S.length))] (ap ((by simp):PV.bor 13 [(0,0)] 80 0 (List.map hdV S).length=PV.bor 13 [(0,0)] 80 0 S.length) an)<|zAd 1<|S_a [(1,.v (PV.bor 13 [(0,0)] 80 0 S.length))] (ap ((by simp):PV.bor 13 [(0,0)] 80 0 (List.map hdV S).length=PV.bor 13 [(0,0)] 80 0 S.length) an)<|S_a [(1,.v (PV.bor 13 [(0,0)] 80 0 S.length))] (ap ((by simp):PV.bor 13 [(0,0)] 80 0 (List.map hdV S).length=PV.bor 13 [(0,0)] 80 0 S.length) an)<|zAd 1<|S_a [(1,.v (I (↑(S.length-1):Int)))] (ap ((zCV (by omega) (by omega)):I (IntKind.i64.wrap ((↑S.length:Int)-1))=I (↑(S.length-1):Int)) an)<|S_a [(2,.ob),(1,.n (S.length-1))] (ap ((by exact zAq (by omega)):decide (S.length-1<S.length)=true)<|ap ((by simp):some (0+(S.length-1))=some (S.length-1)) an)<|S_a [(0,.cs true (zAS (S.getD (S.length-1) []) 80))] (ap (zDM (q:=PV.own 80 (List.map hdV S)) (xs:=List.map hdV S) (x:=PV.agg (zAS (S.getD (S.length-1) []) 80)) (zMB (xs:=[PV.own 80 (List.map hdV S)]) (x:=PV.own 80 (List.map hdV S)) (y:=PV.own 80 (List.map hdV S)) rfl rfl) (zBG [] (by omega)):zAv 13 (PV.own 80 (List.map hdV S)).box [(0,0)] (S.length-1) 0 Tryz.prog.types[130].size=some (true,zAS (S.getD (S.length-1) []) 80)) an)<|S_a [(7,.ret (hdV (zDH n (S.getD (S.length-1) []))) [])] (ap (f101 n cs (S.getD (S.length-1) []) (by omega) (by omega)) an)<|zAd 1<|S_a [(4,.ob),(0,.ob),(0,.yes),(2,.v (PV.own 80 (List.map hdV (S++[zDH n (S.getD (S.length-1) [])]))))] (ap ((by exact zBp (by simp only [List.length_map,zzLn,zAZ]<;>omega)):(0+S.length).ble (List.map hdV S).length=true)<|ap ((by exact zBp (by simp only [List.length_map,zzLn,zAZ]<;>omega)):((List.map hdV S).length + [PV.agg (zAS (zDH n (S.getD (S.length-1) [])) 80)].length).ble zAZ=true)<|ap ((by exact zBs (by simp<;>omega)):(0+S.length).beq (List.map hdV S).length=true)<|ap ((zAM (zCh (by kernel_rfl))):PV.own 80 (List.map hdV S++[PV.agg (zAS (zDH n (S.getD (S.length-1) [])) 80)])=PV.own 80 (List.map hdV (S++[zDH n (S.getD (S.length-1) [])]))) an)<|zAd 1<|zAa ?_
   exact ⟨(j+1,S++[zDH n (S.getD (S.length-1) [])]),⟨by omega,hSS⟩,by simp only;omega,by kernel_rfl,by kernel_rfl⟩
  ·have e:j=k:=by omega
   subst e
   rw [← qI] at jq
   refine zAh<|zAh<|zAf<|S_a [(1,.v (PV.bor 13 [(0,0)] 80 0 S.length))] (ap ((by simp):PV.bor 13 [(0,0)] 80 0 (List.map hdV S).length=PV.bor 13 [(0,0)] 80 0 S.length) an)<|S_a [(1,.v (PV.bor 13 [(0,0)] 80 0 S.length))] (ap ((by simp):PV.bor 13 [(0,0)] 80 0 (List.map hdV S).length=PV.bor 13 [(0,0)] 80 0 S.length) an)<|zAd 1<|S_a [(1,.v (I (↑(S.length-1):Int)))] (ap ((zCV (by omega) (by omega)):I (IntKind.i64.wrap ((↑S.length:Int)-1))=I (↑(S.length-1):Int)) an)<|zAd 2<|S_a [(2,.ob),(1,.n (S.length-1))] (ap ((by exact zAq (by omega)):decide (S.length-1<S.length)=true)<|ap ((by simp):some (0+(S.length-1))=some (S.length-1)) an)<|S_a [(0,.ob),(1,.ob)] (ap ((by exact zAq (by omega)):decide (0≤h)=true)<|ap ((by exact zAq (by omega)):decide (h.toNat<10)=true) an)<|S_a [(0,.ob),(1,.ob)] (ap ((by exact zAq (by omega)):decide (0≤c)=true)<|ap ((by exact zAq (by omega)):decide (c.toNat<8)=true) an)<|S_a [(0,.cs true ([I ((S.getD (S.length-1) []).getD (h.toNat*8+c.toNat) 0)]))] (ap (zDM (q:=PV.own 80 (List.map hdV S)) (xs:=List.map hdV S) (x:=PV.agg (zAS (S.getD (S.length-1) []) 80)) (zMB (xs:=[PV.own 80 (List.map hdV S)]) (x:=PV.own 80 (List.map hdV S)) (y:=PV.own 80 (List.map hdV S)) rfl rfl) (zBG [] (by omega)) (zE7 (F:=S.getD (S.length-1) []) (m:=80) (j:=h.toNat*8+c.toNat) (by first | rfl | exact zBX (by kernel_rfl) | exact zBU (by kernel_rfl) | exact zDP (by kernel_rfl) (by kernel_rfl) | exact zC6 (by kernel_rfl) | exact zDU (by kernel_rfl) (by kernel_rfl) | exact zDF (by kernel_rfl) | (simp;done)) (by omega)):zAv 13 (PV.own 80 (List.map hdV S)).box [(0,0)] (S.length-1) (0+h.toNat*(fun x=>x.size) Tryz.prog.types[128]+c.toNat*(fun x=>x.size) Tryz.prog.types[3]) 1=some (true,[I ((S.getD (S.length-1) []).getD (h.toNat*8+c.toNat) 0)])) an)<|zAd 2<|zAa<|zEt ((S.getD (S.length-1) []).getD (h.toNat*8+c.toNat) 0=x) (by omega)<|zAz 1<|zAc 4<|zAa<|zAh<|zAh<|zAf<|S_a [(1,.v (PV.bor 13 [(0,0)] 80 0 S.length))] (ap ((by simp):PV.bor 13 [(0,0)] 80 0 (List.map hdV S).length=PV.bor 13 [(0,0)] 80 0 S.length) an)<|zAd 1<|S_a [(1,.v (I ((↑S.length:Int)-2)))] (ap ((zCV rfl (by omega)):I (IntKind.i64.wrap ((↑S.length:Int)-2))=I ((↑S.length:Int)-2)) an)<|zAd 2<|zAa<|zAi 3 ?_
   have hS0:∀ r:Nat,r<S.length→(S.getD r []).length=80∧S.getD r []=zBl n cs r:=fun r hr=>by
    rw [hS,zK7 (by omega)];exact ⟨zCJ r,rfl⟩
   have hSm:((S.length:Nat):Int)-2=(j:Int)-1:=by omega
   generalize yM:bkL n cs c.toNat x j [h]=fin
   clear hS qI gi jq hm
   refine zAp (fun ((m:Int),(out:List Int))=>-1≤m∧m<j∧out.length≤20-m∧0<out.length∧(0≤out.getD 0 0∧out.getD 0 0<n.h)∧bkL n cs c.toNat x (m+1).toNat out=fin) (fun (m,out)=>[(14,.box (.own 1 (out.map I))),(15,.box (I m))]) (fun (m,_)=>(m+1).toNat) (((S.length:Nat):Int)-2,[h]) ⟨by omega,by omega,by simp only [List.length_cons,List.length_nil];omega,by simp,by simpa using hh,by rw [← yM];congr 1;omega⟩ fun (m,out) ⟨hm1,vX,ho1,ho2,ho3,gj⟩=>?_
   by_cases gN:0≤m
   ·have hA:=zUC n cs (out.getD 0 0) hn ho3
    obtain ⟨ul,uU⟩:=hS0 m.toNat (by omega)
    rw [show (m+1).toNat=m.toNat+1 by omega,bkL,← uU] at gj
    refine zAh<|zAc 2<|zAa<|zAU (m≥0) (by omega)<|zAj<|zAh<|zAi 4<|zU2<|zAh<|zUU (zAc 1<|S_a [(1,.v (PV.bor 14 [(0,0)] 1 0 out.length))] (ap ((by simp):PV.bor 14 [(0,0)] 1 0 (List.map I out).length=PV.bor 14 [(0,0)] 1 0 out.length) an)<|S_a [(2,.ob)] (ap ((by exact zAq (by omega)):decide (0<out.length)=true) an)<|S_a [(0,.cs false ([I (out.getD 0 0)]))] (ap (zDM (q:=PV.own 1 (List.map I out)) (xs:=List.map I out) (x:=I (out.getD 0 0)) (zMB (xs:=[PV.own 1 (List.map I out)]) (x:=PV.own 1 (List.map I out)) (y:=PV.own 1 (List.map I out)) rfl rfl) (zBG (0) (by omega)):zAv 14 (PV.own 1 (List.map I out)).box [(0,0)] 0 0 1=some (false,[I (out.getD 0 0)])) an)<|S_a [(7,.ret (PV.func 169 [] [(zDv n cs).ref,(I (out.getD 0 0)).ref]) [])] (ap (f116 n cs (out.getD 0 0)) an)<|zAa<|zAi 5 ?_)
    refine zOL (t:=86) hA (fun i (_:Unit)=>∀ r,r<i→decide ((S.getD m.toNat []).getD ((zHQ n (out.getD 0 0).toNat n.h.toNat).getD r 0*8+c.toNat) 0=x)=false) (fun _=>[]) () (fun r hr=>absurd hr (Nat.not_lt_zero r)) (fun i y _ hy hi=>?_) (fun _ hi=>?_)
    ·rw [List.getElem?_map] at hy
     obtain ⟨o,hmo,rfl⟩:=Option.map_eq_some_iff.1 hy
     have ql:o<n.h.toNat:=zRn (List.mem_of_getElem? hmo)
     refine zOX ?_
     refine zAf<|zAd 1<|zAa ?_
     have jW:(zHQ n (out.getD 0 0).toNat n.h.toNat).getD i 0=o:=by rw [List.getD_eq_getElem?_getD,hmo];rfl
     refine ⟨rfl,by kernel_rfl,?_⟩
     refine zAi 6<|zAh<|zAf<|S_a [(1,.v (PV.bor 13 [(0,0)] 80 0 S.length))] (ap ((by simp):PV.bor 13 [(0,0)] 80 0 (List.map hdV S).length=PV.bor 13 [(0,0)] 80 0 S.length) an)<|zAd 3<|S_a [(0,.ob),(1,.ob),(1,.n m.toNat)] (ap ((by exact zAq (by omega)):decide (0≤m)=true)<|ap ((by exact zAq (by omega)):decide (m.toNat<S.length)=true)<|ap ((by simp):some (0+m.toNat)=some m.toNat) an)<|S_a [(2,.ob)] (ap ((by exact zAq (by omega)):decide (o<10)=true) an)<|S_a [(0,.ob),(1,.ob)] (ap ((by exact zAq (by omega)):decide (0≤c)=true)<|ap ((by exact zAq (by omega)):decide (c.toNat<8)=true) an)<|S_a [(0,.cs true ([I ((S.getD m.toNat []).getD (o*8+c.toNat) 0)]))] (ap (zDM (q:=PV.own 80 (List.map hdV S)) (xs:=List.map hdV S) (x:=PV.agg (zAS (S.getD m.toNat []) 80)) (zMB (xs:=[PV.own 80 (List.map hdV S)]) (x:=PV.own 80 (List.map hdV S)) (y:=PV.own 80 (List.map hdV S)) rfl rfl) (zBG [] (by omega)) (zE7 (F:=S.getD m.toNat []) (m:=80) (j:=o*8+c.toNat) (by first | rfl | exact zBX (by kernel_rfl) | exact zBU (by kernel_rfl) | exact zDP (by kernel_rfl) (by kernel_rfl) | exact zC6 (by kernel_rfl) | exact zDU (by kernel_rfl) (by kernel_rfl) | exact zDF (by kernel_rfl) | (simp;done)) (by omega)):zAv 13 (PV.own 80 (List.map hdV S)).box [(0,0)] m.toNat (0+(↑o:Int).toNat*(fun x=>x.size) Tryz.prog.types[128]+c.toNat*(fun x=>x.size) Tryz.prog.types[3]) 1=some (true,[I ((S.getD m.toNat []).getD (o*8+c.toNat) 0)])) an)<|zAd 2<|zAa<|zCb ((S.getD m.toNat []).getD (o*8+c.toNat) 0=x) (fun k2=>(zAc 2<|S_a [(1,.v (PV.bor 14 [(0,0)] 1 0 out.length))] (ap ((by simp):PV.bor 14 [(0,0)] 1 0 (List.map I out).length=PV.bor 14 [(0,0)] 1 0 out.length) an)<|S_a [(1,.ob),(0,.vs (List.map I out)),(0,.ob),(0,.ob),(0,.ob),(3,.ob)] (ap ((by exact zBp (by simp only [List.length_map,zzLn,zAZ]<;>omega)):(0+out.length).ble (List.map I out).length=true)<|ap ((by simp [zEU]):List.take out.length (List.drop 0 (List.map I out))=List.map I out)<|ap ((by exact all_map _):((List.map I out).all fun x=>x.plain)=true)<|ap ((by exact all_map _):((List.map I out).all fun y=>y.cells.length.beq ((fun x=>x.size) Tryz.prog.types[3])&&y.cells.all fun q=>q.oneCell)=true)<|ap ((by exact List.isEmpty_iff.2 (zMo _)):(zBq (List.map I out)).isEmpty=true)<|ap ((by exact zBp (by simp only [List.length_map,zzLn,zAZ]<;>omega)):([I (↑o:Int)].length+(List.map I out).length).ble zAZ=true) an)<|zAd 1<|zAa<|zAz 5 ?_)) (fun k2=>(zAj ?_))
     ·rw [zKw hmo (decide_eq_true (by assumption)) hi] at gj
      clear hi hmo hA
      refine ⟨by kernel_rfl,?_⟩
      refine zAh<|zAc 1<|zAa<|zAf<|zAd 2<|zAa<|zAf<|zAd 1<|S_a [(1,.v (I (m-1)))] (ap ((zCV rfl (by omega)):I (IntKind.i64.wrap (m-1))=I (m-1)) an)<|zAd 1<|zAa ?_
      exact ⟨(m-1,(o:Int)::out),⟨by omega,by omega,by simp only [List.length_cons];omega,by simp,by simp only [List.getD_cons_zero];omega,by rw [show (m-1+1).toNat=m.toNat by omega];exact gj⟩,by simp only;omega,by kernel_rfl,by kernel_rfl⟩
     ·refine ⟨by kernel_rfl,(),fun r hr=>?_,by kernel_rfl⟩
      rcases Nat.lt_succ_iff_lt_or_eq.1 hr with h | rfl
      ·exact hi r h
      ·rw [jW];exact decide_eq_false (by assumption)
    ·rw [zPm (by simpa using hi)] at gj
     clear hi hA
     show W _ _ _ _ _ _ _ _
     refine zAh<|zAc 1<|zAa<|zAf<|zAd 2<|zAa<|zAf<|zAd 1<|S_a [(1,.v (I (m-1)))] (ap ((zCV rfl (by omega)):I (IntKind.i64.wrap (m-1))=I (m-1)) an)<|zAd 1<|zAa ?_
     exact ⟨(m-1,out),⟨by omega,by omega,by omega,ho2,ho3,by rw [show (m-1+1).toNat=m.toNat by omega];exact gj⟩,by simp only;omega,by kernel_rfl,by kernel_rfl⟩
   ·have hm3:(m+1).toNat=0:=by omega
    rw [hm3,bkL] at gj
    rw [← gj]
    refine zAh<|zAc 2<|zAa<|zAT (m≥0) (by omega)<|zAz 3<|zAh<|zAf<|S_a [(1,.v (PV.bor 14 [(0,0)] 1 0 out.length))] (ap ((by simp):PV.bor 14 [(0,0)] 1 0 (List.map I out).length=PV.bor 14 [(0,0)] 1 0 out.length) an)<|S_a [(2,.yes)] (ap ((by exact zBs (by simp<;>omega)):(Nat.beq 0 0&&out.length.beq (List.map I out).length)=true) an)<|zAd 1<|zAa<|zAm<|E_a [(1,.yes),(1,.v (PV.own 1 (List.map I out)))] (ap (blz (List.map I out))<|ap ((zAM zAG):PV.own 1 (List.take (List.map I out).length (List.drop 0 (List.map I out)))=PV.own 1 (List.map I out)) an) (PV.tup [PV.own 1 (List.map I out),I 0]) [] rfl rfl
end Go.Eng
set_option maxRecDepth 10000
set_option maxHeartbeats 4000000
namespace Go.Eng
open Go Go.Proofs
theorem f38_2 (n:Nw) (cs:List (Int×Int)) (h:Int) (x:Int) (ho:CrOk n cs) (hh:0≤h∧h<n.h) (hx:0≤x∧x<n.n.length) (hm:∀ j,j≤12→(zBl n cs j).getD (h.toNat*8+((zAl n).getD x.toNat 0).toNat) 0≠x):FG 38 [nwV n,prs cs,I h,I x] (.tup [.own 1 [],I 6]):=by
 have hn:=ho.nw
 have uV:=ho.w
 have hb:=hn.h
 have uH:=hn.nl
 have hin:inB x 0 (n.n.length-1)=true:=by simp only [inB,Bool.and_eq_true,decide_eq_true_eq];omega
 have hih:inB h 0 (n.h-1)=true:=by simp only [inB,Bool.and_eq_true,decide_eq_true_eq];omega
 have hfb:=zB4 hn x.toNat (by omega)
 refine zAe Tryz.f38 ?_
 refine zAc 4<|zAa<|zAc 2<|S_a [(8,.ret (PV.tup [zDv n cs,I 0]) [])] (ap (f99_1 n cs (by omega)) an)<|zAd 5<|zAa<|zAh<|zAi 0<|zAc 3<|zAa<|zAW<|zAc 2<|S_a [(8,.ret (PV.bool (inB h 0 (n.h-1))) [])] (ap (f109 n h (by omega)) an)<|zAd 2<|zEl 32 (!inB h 0 (n.h-1)) (fun k0=>(zAd 6<|zAa<|zBR<|zAc 2<|zAa<|zAm<|E_a [] an (PV.tup [PV.own 1 [],I 1]) [] ?_ rfl)) (fun k0=>(zAd 2<|S_a [(8,.ret (PV.bool (inB x 0 ((↑n.n.length:Int)-1))) [])] (ap (f106 n x (by first | omega | (simp<;>omega))) an)<|zAd 3<|zAa<|zDr (!inB x 0 ((↑n.n.length:Int)-1)) (fun k1=>(zAc 2<|zAa<|zAm<|E_a [] an (PV.tup [PV.own 1 [],I 1]) [] ?_ rfl)) (fun k1=>(zAj<|zAc 4<|S_a [(0,.ob),(1,.ob),(0,.v ((I ((zAl n).getD x.toNat 0)).ref))] (ap ((by exact zAq (by omega)):decide (0≤x)=true)<|ap ((by exact zAq (by omega)):decide (x.toNat<8)=true)<|ap (zGG (F:=zAl n) (m:=8) (j:=x.toNat) (by omega):zCd (PV.agg (zAS (zAl n) 8)).ref (x.toNat*(fun x=>x.size) Tryz.prog.types[3]) none=some (I ((zAl n).getD x.toNat 0)).ref) an)<|zAd 3<|zAa<|zAc 1<|S_a [(5,.ret (hdV (zPf n cs)) [])] (ap (f100 n cs (by omega)) an)<|zAd 3<|zAa<|zAh<|zAi 1 ?_))))
 ·exact absurd (by assumption:(!inB h 0 (n.h-1))=true) (by rw [hih];simp)
 ·exact absurd (by assumption:(!inB x 0 (n.n.length-1))=true) (by rw [hin];simp)
 ·generalize hc:((zAl n).getD x.toNat 0)=c at *
  refine zAp (fun (j,S)=>j≤12∧S=zRj n cs (j+1)) (fun (j,S)=>[(13,zUB S)]) (fun (j,_)=>12-j) ((0:Nat),[zPf n cs]) ⟨by omega,rfl⟩ fun (j,S) ⟨hj,hS⟩=>?_
  have gg:S.length=j+1:=by rw [hS];simp [zRj]
  have qI:S.getD (S.length-1) []=zBl n cs j:=by rw [gg,hS];exact zK7 (by omega)
  have gi:(S.getD (S.length-1) []).length=80:=by rw [qI];exact zCJ j
  have hI:=hm j hj
  rw [← qI] at hI
  have hSS:S++[zDH n (S.getD (S.length-1) [])]=zRj n cs (j+1+1):=by rw [zMj (k:=j+1),← hS,qI];rfl
  by_cases qm:j<12
  ·refine zAh<|zAh<|zAf<|S_a [(1,.v (PV.bor 13 [(0,0)] 80 0 S.length))] (ap ((by simp):PV.bor 13 [(0,0)] 80 0 (List.map hdV S).length=PV.bor 13 [(0,0)] 80 0 S.length) an)<|S_a [(1,.v (PV.bor 13 [(0,0)] 80 0 S.length))] (ap ((by simp):PV.bor 13 [(0,0)] 80 0 (List.map hdV S).length=PV.bor 13 [(0,0)] 80 0 S.length) an)<|zAd 1<|S_a [(1,.v (I (↑(S.length-1):Int)))] (ap ((zCV (by omega) (by omega)):I (IntKind.i64.wrap ((↑S.length:Int)-1))=I (↑(S.length-1):Int)) an)<|zAd 2<|S_a [(2,.ob),(1,.n (S.length-1))] (ap ((by exact zAq (by omega)):decide (S.length-1<S.length)=true)<|ap ((by simp):some (0+(S.length-1))=some (S.length-1)) an)<|S_a [(0,.ob),(1,.ob)] (ap ((by exact zAq (by omega)):decide (0≤h)=true)<|ap ((by exact zAq (by omega)):decide (h.toNat<10)=true) an)<|S_a [(0,.ob),(1,.ob)] (ap ((by exact zAq (by omega)):decide (0≤c)=true)<|ap ((by exact zAq (by omega)):decide (c.toNat<8)=true) an)<|S_a [(0,.cs true ([I ((S.getD (S.length-1) []).getD (h.toNat*8+c.toNat) 0)]))] (ap (zDM (q:=PV.own 80 (List.map hdV S)) (xs:=List.map hdV S) (x:=PV.agg (zAS (S.getD (S.length-1) []) 80)) (zMB (xs:=[PV.own 80 (List.map hdV S)]) (x:=PV.own 80 (List.map hdV S)) (y:=PV.own 80 (List.map hdV S)) rfl rfl) (zBG [] (by omega)) (zE7 (F:=S.getD (S.length-1) []) (m:=80) (j:=h.toNat*8+c.toNat) (by first | rfl | exact zBX (by kernel_rfl) | exact zBU (by kernel_rfl) | exact zDP (by kernel_rfl) (by kernel_rfl) | exact zC6 (by kernel_rfl) | exact zDU (by kernel_rfl) (by kernel_rfl) | exact zDF (by kernel_rfl) | (simp;done)) (by omega)):zAv 13 (PV.own 80 (List.map hdV S)).box [(0,0)] (S.length-1) (0+h.toNat*(fun x=>x.size) Tryz.prog.types[128]+c.toNat*(fun x=>x.size) Tryz.prog.types[3]) 1=some (true,[I ((S.getD (S.length-1) []).getD (h.toNat*8+c.toNat) 0)])) an)<|zAd 2<|zAa<|zDm ((S.getD (S.length-1) []).getD (h.toNat*8+c.toNat) 0=x) (by omega)<|zAj<|zAi 2<|zAh<|zAh<|zAf<|S_a [(1,.v (PV.bor 13 [(0,0)] 80 0 S.length))] (ap ((by simp):PV.bor 13 [(0,0)] 80 0 (List.map hdV S).length=PV.bor 13 [(0,0)] 80 0 S.length) an)<|zAd 2<|zAa<|zAT ((↑S.length:Int)>12) (by omega)<|zAj<|zAf<|S_a [(1,.v (PV.bor 13 [(0,0)] 80 0 S.length))] (ap ((by simp):PV.bor 13 [(0,0)] 80 0 (List.map hdV S).length=PV.bor 13 [(0,0)] 80 0 S.length) an)<|zAd 1<|S_a [(1,.v (PV.bor 13 [(0,0)] 80 0 S.length))] (ap ((by simp):PV.bor 13 [(0,0)] 80 0 (List.map hdV S).length=PV.bor 13 [(0,0)] 80 0 S.length) an)<|S_a [(1,.v (PV.bor 13 [(0,0)] 80 0 S.length))] (ap ((by simp):PV.bor 13 [(0,0)] 80 0 (List.map hdV S).length=PV.bor 13 [(0,0)] 80 0 S.length) an)<|zAd 1<|S_a [(1,.v (I (↑(S.length-1):Int)))] (ap ((zCV (by omega) (by omega)):I (IntKind.i64.wrap ((↑S.length:Int)-1))=I (↑(S.length-1):Int)) an)<|S_a [(2,.ob),(1,.n (S.length-1))] (ap ((by exact zAq (by omega)):decide (S.length-1<S.length)=true)<|ap ((by simp):some (0+(S.length-1))=some (S.length-1)) an)<|S_a [(0,.cs true (zAS (S.getD (S.length-1) []) 80))] (ap (zDM (q:=PV.own 80 (List.map hdV S)) (xs:=List.map hdV S) (x:=PV.agg (zAS (S.getD (S.length-1) []) 80)) (zMB (xs:=[PV.own 80 (List.map hdV S)]) (x:=PV.own 80 (List.map hdV S)) (y:=PV.own 80 (List.map hdV S)) rfl rfl) (zBG [] (by omega)):zAv 13 (PV.own 80 (List.map hdV S)).box [(0,0)] (S.length-1) 0 Tryz.prog.types[130].size=some (true,zAS (S.getD (S.length-1) []) 80)) an)<|S_a [(7,.ret (hdV (zDH n (S.getD (S.length-1) []))) [])] (ap (f101 n cs (S.getD (S.length-1) []) (by omega) (by omega)) an)<|zAd 1<|S_a [(4,.ob),(0,.ob),(0,.yes),(2,.v (PV.own 80 (List.map hdV (S++[zDH n (S.getD (S.length-1) [])]))))] (ap ((by exact zBp (by simp only [List.length_map,zzLn,zAZ]<;>omega)):(0+S.length).ble (List.map hdV S).length=true)<|ap ((by exact zBp (by simp only [List.length_map,zzLn,zAZ]<;>omega)):((List.map hdV S).length + [PV.agg (zAS (zDH n (S.getD (S.length-1) [])) 80)].length).ble zAZ=true)<|ap ((by exact zBs (by simp<;>omega)):(0+S.length).beq (List.map hdV S).length=true)<|ap ((zAM (zCh (by kernel_rfl))):PV.own 80 (List.map hdV S++[PV.agg (zAS (zDH n (S.getD (S.length-1) [])) 80)])=PV.own 80 (List.map hdV (S++[zDH n (S.getD (S.length-1) [])]))) an)<|zAd 1<|zAa ?_
   exact ⟨(j+1,S++[zDH n (S.getD (S.length-1) [])]),⟨by omega,hSS⟩,by simp only;omega,by kernel_rfl,by kernel_rfl⟩
  ·refine zAh<|zAh<|zAf<|S_a [(1,.v (PV.bor 13 [(0,0)] 80 0 S.length))] (ap ((by simp):PV.bor 13 [(0,0)] 80 0 (List.map hdV S).length=PV.bor 13 [(0,0)] 80 0 S.length) an)<|S_a [(1,.v (PV.bor 13 [(0,0)] 80 0 S.length))] (ap ((by simp):PV.bor 13 [(0,0)] 80 0 (List.map hdV S).length=PV.bor 13 [(0,0)] 80 0 S.length) an)<|zAd 1<|S_a [(1,.v (I (↑(S.length-1):Int)))] (ap ((zCV (by omega) (by omega)):I (IntKind.i64.wrap ((↑S.length:Int)-1))=I (↑(S.length-1):Int)) an)<|zAd 2<|S_a [(2,.ob),(1,.n (S.length-1))] (ap ((by exact zAq (by omega)):decide (S.length-1<S.length)=true)<|ap ((by simp):some (0+(S.length-1))=some (S.length-1)) an)<|S_a [(0,.ob),(1,.ob)] (ap ((by exact zAq (by omega)):decide (0≤h)=true)<|ap ((by exact zAq (by omega)):decide (h.toNat<10)=true) an)<|S_a [(0,.ob),(1,.ob)] (ap ((by exact zAq (by omega)):decide (0≤c)=true)<|ap ((by exact zAq (by omega)):decide (c.toNat<8)=true) an)<|S_a [(0,.cs true ([I ((S.getD (S.length-1) []).getD (h.toNat*8+c.toNat) 0)]))] (ap (zDM (q:=PV.own 80 (List.map hdV S)) (xs:=List.map hdV S) (x:=PV.agg (zAS (S.getD (S.length-1) []) 80)) (zMB (xs:=[PV.own 80 (List.map hdV S)]) (x:=PV.own 80 (List.map hdV S)) (y:=PV.own 80 (List.map hdV S)) rfl rfl) (zBG [] (by omega)) (zE7 (F:=S.getD (S.length-1) []) (m:=80) (j:=h.toNat*8+c.toNat) (by first | rfl | exact zBX (by kernel_rfl) | exact zBU (by kernel_rfl) | exact zDP (by kernel_rfl) (by kernel_rfl) | exact zC6 (by kernel_rfl) | exact zDU (by kernel_rfl) (by kernel_rfl) | exact zDF (by kernel_rfl) | (simp;done)) (by omega)):zAv 13 (PV.own 80 (List.map hdV S)).box [(0,0)] (S.length-1) (0+h.toNat*(fun x=>x.size) Tryz.prog.types[128]+c.toNat*(fun x=>x.size) Tryz.prog.types[3]) 1=some (true,[I ((S.getD (S.length-1) []).getD (h.toNat*8+c.toNat) 0)])) an)<|zAd 2<|zAa<|zDm ((S.getD (S.length-1) []).getD (h.toNat*8+c.toNat) 0=x) (by omega)<|zAj<|zAi 2<|zAh<|zAh<|zAf<|S_a [(1,.v (PV.bor 13 [(0,0)] 80 0 S.length))] (ap ((by simp):PV.bor 13 [(0,0)] 80 0 (List.map hdV S).length=PV.bor 13 [(0,0)] 80 0 S.length) an)<|zAd 2<|zAa<|zAU ((↑S.length:Int)>12) (by omega)<|zAc 2<|zAa<|zAm<|E_a [] an (PV.tup [PV.own 1 [],I 6]) [] rfl rfl
end Go.Eng
set_option maxRecDepth 100000
set_option maxHeartbeats 4000000
namespace Go.Eng
open Go Go.Proofs
theorem zUK:FG 83 [] (.tup [nwO zDT,.own 2 (zFn.map prV)]):=zC4.closed 20
theorem zTs:FG 22 [nwV zDT,prs zFn,I 1] (.tup [.own 2 [.agg [I 2,I 0],.agg [I 3,I 0]],I 0]):=by
 have:=f22_1 zDT zFn 1 (zTg (by decide +kernel))
 rw [zPa] at this;exact this
theorem zNl:FG 29 [nwV zDT,prs zFn] (.tup [I 3,I 0]):=f29_1 zDT zFn 3 zJ6 (by decide) (by decide +kernel) (by decide +kernel)
theorem zTK:FG 38 [nwV zDT,prs zFn,I 2,I 0] (.tup [.own 1 [I 3,I 2],I 0]):=by
 have:=f38_1 zDT zFn 2 0 1 zJ6 (by decide) (by decide) (by decide) (by decide +kernel) (by decide +kernel)
 rw [show bkL zDT zFn ((zAl zDT).getD (0:Int).toNat 0).toNat 0 1 [2]=[3,2] from by decide +kernel] at this;exact this
theorem zWn:FG 38 [nwV zDT,prs zFn,I 1,I 0] (.tup [.own 1 [],I 6]):=f38_2 zDT zFn 1 0 zJ6 (by decide) (by decide) (by decide +kernel)
theorem zSe:FG 31 [nwV zDT,prs zFn] (.tup [I 3,I 0]):=by
 have:=f31_1 zDT zFn zJ6
 rw [if_pos (show zBS zDT (zBl zDT zFn 12)=[] from by decide +kernel),if_pos (show zBS zDT (zBl zDT zFn 12)=[] from by decide +kernel),show zVf zDT zFn 12=3 from by decide +kernel] at this;exact this
theorem zPj:FG 26 [nwV zDT,prs zFn,I 0] (.tup [.own 1 [I 3],I 0]):=by
 have:=f26_1 zDT zFn 0 (zTg (by decide +kernel))
 rw [show zEy (msl zDT (zBS zDT (zBl zDT zFn (0:Int).toNat)))=[3] from by decide +kernel] at this;exact this
theorem zR7:FG 86 [nwV zDT] (.tup [.own 1 [],I 0]):=by
 have:=f86_1 zDT zUf
 rw [show zB3 (zTz zDT) zDT.n.length=[] from by decide +kernel] at this;exact this
theorem f17:FG 17 [] (.bool true):=by
 have h1:=zUK
 have h2:=zTs
 have h3:=zNl
 have h4:=zTK
 have h5:=zWn
 have h6:=zP4
 have h7:=zSe
 have h8:=zPj
 have h9:=zR7
 have l1:FG 78 [.sl [.agg [I 2,I 0],.agg [I 3,I 0]],.sl [.agg [I 2,I 0],.agg [I 3,I 0]]] (.bool true):=f78 [(2,0),(3,0)] [(2,0),(3,0)] (by decide)
 have l2:FG 28 [.sl [I 3,I 2],.sl [I 3,I 2]] (.bool true):=f28 [3,2] [3,2] (by decide)
 have l3:FG 34 [.sl [.agg [I 1,I 1]],.sl [.agg [I 1,I 1]]] (.bool true):=f34 [(1,1)] [(1,1)] (by decide)
 have l4:FG 28 [.sl [I 3],.sl [I 3]] (.bool true):=f28 [3] [3] (by decide)
 refine zAe Tryz.f17 ?_
 refine zAc 1<|zAa<|zAh<|zAf<|S_a [(4,.ret (PV.tup [nwO zDT,PV.own 2 (List.map prV zFn)]) [])] (ap h1 an)<|zAd 6<|zAa<|zAc 2<|S_a [(21,.ret (PV.tup [PV.own 2 [PV.agg [I 2,I 0],PV.agg [I 3,I 0]],I 0]) [])] (ap h2 an)<|zAd 5<|zAa<|zAc 2<|S_a [(19,.ret (PV.tup [I 3,I 0]) [])] (ap h3 an)<|zAd 5<|zAa<|zAc 2<|S_a [(23,.ret (PV.tup [PV.own 1 [I 3,I 2],I 0]) [])] (ap h4 an)<|zAd 5<|zAa<|zAc 2<|S_a [(23,.ret (PV.tup [PV.own 1 [],I 6]) [])] (ap h5 an)<|zAd 5<|zAa<|zAh<|zAc 19<|S_a [(10,.ret (PV.bool true) [])] (ap l1 an)<|zAd 9<|S_a [(10,.ret (PV.bool true) [])] (ap l2 an)<|zAd 2<|zAa<|zAW<|zAj<|zAc 3<|S_a [(24,.ret (PV.tup [PV.own 2 [PV.agg [I 1,I 1]],I 0]) [])] (ap h6 an)<|zAd 5<|zAa<|zAc 2<|S_a [(19,.ret (PV.tup [I 3,I 0]) [])] (ap h7 an)<|zAd 5<|zAa<|zAc 2<|S_a [(21,.ret (PV.tup [PV.own 1 [I 3],I 0]) [])] (ap h8 an)<|zAd 5<|zAa<|zAc 1<|S_a [(16,.ret (PV.tup [PV.own 1 [],I 0]) [])] (ap h9 an)<|zAd 5<|zAa<|zAc 18<|S_a [(10,.ret (PV.bool true) [])] (ap l3 an)<|zAd 8<|S_a [(10,.ret (PV.bool true) [])] (ap l4 an)<|zAd 3<|zAd 4<|zAa<|zAm<|E_a [] an (PV.bool true) [] rfl rfl
end Go.Eng
namespace Go.Eng
open Go Go.Proofs
theorem zG2 {n:Nw} (ho:NwOk n) (j:Nat):∀ i,j<i→i≤n.n.length→(zO0 n.n i).getD j 0=(zO0 n.n (j+1)).getD j 0
 | 0,h,_=>absurd h (Nat.not_lt_zero j)
 | i + 1,h,hi=>by
  have h8:=ho.nl.2
  by_cases hj:j=i
  ·subst hj;rfl
  ·rw [zO0,zI5 (zHl i) (by omega) (ho.na i (by omega)),if_neg hj]
   exact zG2 ho j i (by omega) (by omega)
theorem zMW {n:Nw} (ho:NwOk n) {i:Nat} (hi:i<n.n.length):(zAl n).getD i 0=if (n.n.getD i default).1 = -1 then (i:Int) else (zAl n).getD (n.n.getD i default).1.toNat 0:=by
 have h8:=ho.nl.2
 have ha:=ho.na i hi
 unfold zAl
 rw [zG2 ho i n.n.length hi (Nat.le_refl _),zO0,zI5 (zHl i) (by omega) ha,if_pos rfl]
 split
 ·rfl
 ·rename_i hI
  rw [zG2 ho (n.n.getD i default).1.toNat i (by omega) (by omega),zG2 ho (n.n.getD i default).1.toNat n.n.length (by omega) (Nat.le_refl _)]
def chn (n:Nw) (i j:Nat):Prop:=(zAl n).getD i 0=(zAl n).getD j 0
theorem zOf {n:Nw} (ho:NwOk n):∀ (j i:Nat),i<j→j<n.n.length→chn n i j→∃ k,i<k∧k≤j∧k<n.n.length∧(n.n.getD k default).1=i∧chn n k j:=by
 intro j
 induction j using Nat.strongRecOn with
 | ind j ih =>
  intro i qH hj hc
  have ha:=ho.na j hj
  have hr:=zMW ho hj
  have uS:=zB4 ho i (by omega)
  by_cases h:(n.n.getD j default).1 = -1
  ·rw [if_pos h] at hr
   unfold chn at hc
   omega
  ·rw [if_neg h] at hr
   by_cases he:(n.n.getD j default).1=(i:Int)
   ·exact ⟨j,qH,Nat.le_refl _,hj,he,rfl⟩
   ·by_cases yD:(i:Int)<(n.n.getD j default).1
    ·obtain ⟨k,h1,h2,h3,h4,h5⟩:=ih (n.n.getD j default).1.toNat (by omega) i (by omega) (by omega) (by unfold chn at hc ⊢;rw [hc,hr])
     exact ⟨k,h1,by omega,h3,h4,by unfold chn at h5 ⊢;rw [h5,hr]⟩
    ·
     exfalso
     obtain ⟨k,h1,h2,h3,h4,_⟩:=ih i qH (n.n.getD j default).1.toNat (by omega) (by omega) (by unfold chn at hc ⊢;rw [← hr,hc])
     exact ho.nd j k (by omega) hj h (by rw [h4];omega)
end Go.Eng
set_option maxRecDepth 10000
set_option maxHeartbeats 4000000
namespace Go.Eng
open Go Go.Proofs
def zNh (n:Nw) (x:Int):Int:=zER (fun y=>decide (y.1=x)) n.n
theorem f143 (n:Nw) (x:Int) (hl:n.n.length<1000000):FG 143 [nwV n,I x] (I (zNh n x)):=by
 refine zAe Tryz.f143 ?_
 refine zAc 2<|zAa<|zAh<|zAc 1<|zAa<|zAi 0 ?_
 refine zAp (fun i=>i≤n.n.length∧∀ j,j<i→decide ((n.n.getD j default).1=x)=false) (fun (i:Nat)=>[(5,I (i:Nat))]) (fun i=>n.n.length-i) (0:Nat) ⟨by omega,fun j hj=>absurd hj (Nat.not_lt_zero j)⟩ fun i ⟨hi,ha⟩=>?_
 refine zAh<|zAc 3<|S_a [(0,.n n.n.length)] (ap (lnS ntV n.n) an)<|zAd 1<|zAa<|zCb ((↑i:Int)<(↑n.n.length:Int)) (fun k0=>(zAj<|zAh<|zAi 1<|zAc 3<|S_a [(2,.v (PV.agg [I (n.n.getD i default).fst,PV.bool (n.n.getD i default).snd]))] (ap (zBG default (by omega):(List.map ntV n.n)[i]? = some (PV.agg [I (n.n.getD i default).fst,PV.bool (n.n.getD i default).snd])) an)<|zAd 4<|zAa<|zCb ((n.n.getD i default).fst=x) (fun k1=>(zAc 2<|zAa<|zAm<|E_a [] an (I (↑i:Int)) [] ?_ rfl)) (fun k1=>(zAj<|zAf<|zAd 1<|S_a [(1,.v (I (↑(i+1):Int)))] (ap (wrN i) an)<|zAd 1<|zAa ?_)))) (fun k0=>(zAz 0<|zAc 1<|zAa<|zAm<|E_a [] an (I (-1)) [] ?_ rfl))
 ·rw [zNh,zBW (i:=i) (by omega) (fun j hj=>by rw [← zAs (d:=default)];exact ha j hj) (by rw [← zAs (d:=default)];exact decide_eq_true (by assumption))]
 ·refine ⟨i+1,⟨by omega,fun j hj=>?_⟩,by omega,by kernel_rfl,by kernel_rfl⟩
  rcases Nat.lt_succ_iff_lt_or_eq.1 hj with h | rfl
  ·exact ha j h
  ·exact decide_eq_false (by assumption)
 ·rw [zNh,zCl fun j hj=>by rw [← zAs (d:=default)];exact ha j (by omega)]
def zUd (a b:Int) (x:Int×Int):Bool:=decide (x.1=a∧x.2=b∨x.1=b∧x.2=a)
def zSh (n:Nw) (a b:Int):Bool:=n.l.any (zUd a b)
theorem zOt {a b:Int} {x:Int×Int}:pr2 x=pr2 (a,b)↔x.1=a∧x.2=b∨x.1=b∧x.2=a:=by
 obtain ⟨c,d⟩:=x
 simp only [pr2,Prod.mk.injEq]
 constructor
 ·rintro ⟨h1,h2⟩
  repeat' split at h1
  all_goals (repeat' split at h2)
  all_goals omega
 ·intro h
  constructor
  ·repeat' split
   all_goals omega
  ·repeat' split
   all_goals omega
theorem zVc {n:Nw} {a b:Int}:zSh n a b=zGd n a b:=by
 rw [Bool.eq_iff_iff]
 simp only [zSh,zGd,List.any_eq_true,zUd,decide_eq_true_eq,List.mem_map]
 constructor
 ·rintro ⟨x,hx,h⟩;exact ⟨x,hx,zOt.2 h⟩
 ·rintro ⟨x,hx,h⟩;exact ⟨x,hx,zOt.1 h⟩
theorem f114 (n:Nw) (a b:Int) (hl:n.l.length<1000000):FG 114 [nwV n,I a,I b] (.bool (zGd n a b)):=by
 rw [← zVc]
 refine zAe Tryz.f114 ?_
 refine zAc 2<|zAa<|zAh<|zAc 1<|zAa<|zAi 0 ?_
 refine zAp (fun i=>i≤n.l.length∧∀ j,j<i→zUd a b (n.l.getD j default)=false) (fun (i:Nat)=>[(7,I (i:Nat))]) (fun i=>n.l.length-i) (0:Nat) ⟨by omega,fun j hj=>absurd hj (Nat.not_lt_zero j)⟩ fun i ⟨hi,ha⟩=>?_
 by_cases yG:i<n.l.length
 ·have yK:zUd a b (n.l.getD i default)=false→∀ j,j<i+1→zUd a b (n.l.getD j default)=false:=fun h j hj=>by
   rcases Nat.lt_succ_iff_lt_or_eq.1 hj with h2 | rfl
   ·exact ha j h2
   ·exact h
  have wP:zUd a b (n.l.getD i default)=true→zSh n a b=true:=fun h=>by
   rw [zAs yG] at h
   exact List.any_eq_true.2 ⟨_,List.getElem_mem yG,h⟩
  clear ha
  refine zAh<|zAc 3<|S_a [(0,.n n.l.length)] (ap (lnS prV n.l) an)<|zAd 1<|zAa<|zAU ((↑i:Int)<(↑n.l.length:Int)) (by omega)<|zAj<|zAh<|zAi 1<|zAc 3<|S_a [(2,.v (PV.agg [I (n.l.getD i default).fst,I (n.l.getD i default).snd]))] (ap (zBG default (by omega):(List.map prV n.l)[i]? = some (PV.agg [I (n.l.getD i default).fst,I (n.l.getD i default).snd])) an)<|zAd 3<|zAa<|zAc 1<|zAd 4<|zET 25 ((n.l.getD i default).fst=a) (fun k0=>(zAd 1<|zAd 5<|zET 31 ((n.l.getD i default).snd=b) (fun k1=>(zAd 11<|zAa<|zBR<|zAc 1<|zAa<|zAm<|E_a [] an (PV.bool true) [] ?_ rfl)) (fun k1=>(zAd 1<|zAd 4<|zET 36 ((n.l.getD i default).fst=b) (fun k2=>(zAd 1<|zAd 5<|zAa<|zAT ((n.l.getD i default).snd=a) (by omega)<|zAj<|zAf<|zAd 1<|S_a [(1,.v (I (↑(i+1):Int)))] (ap (wrN i) an)<|zAd 1<|zAa ?_)) (fun k2=>(zAd 6<|zAa<|zAW<|zAj<|zAf<|zAd 1<|S_a [(1,.v (I (↑(i+1):Int)))] (ap (wrN i) an)<|zAd 1<|zAa ?_)))))) (fun k0=>(zAd 6<|zAd 1<|zAd 4<|zET 36 ((n.l.getD i default).fst=b) (fun k3=>(zAd 1<|zAd 5<|zAa<|zCb ((n.l.getD i default).snd=a) (fun k4=>(zAc 1<|zAa<|zAm<|E_a [] an (PV.bool true) [] ?_ rfl)) (fun k4=>(zAj<|zAf<|zAd 1<|S_a [(1,.v (I (↑(i+1):Int)))] (ap (wrN i) an)<|zAd 1<|zAa ?_)))) (fun k3=>(zAd 6<|zAa<|zAW<|zAj<|zAf<|zAd 1<|S_a [(1,.v (I (↑(i+1):Int)))] (ap (wrN i) an)<|zAd 1<|zAa ?_))))
  all_goals first | (rw [wP (by simp only [zUd,decide_eq_true_eq];omega)];done) | exact ⟨i+1,⟨by omega,yK (by simp only [zUd,decide_eq_false_iff_not];omega)⟩,by omega,by kernel_rfl,by kernel_rfl⟩
 ·refine zAh<|zAc 3<|S_a [(0,.n n.l.length)] (ap (lnS prV n.l) an)<|zAd 1<|zAa<|zAT ((↑i:Int)<(↑n.l.length:Int)) (by omega)<|zAz 0<|zAc 1<|zAa<|zAm<|E_a [] an (PV.bool false) [] ?_ rfl
  have:zSh n a b=false:=by
   simp only [zSh,List.any_eq_false,Bool.not_eq_true]
   intro x hx
   obtain ⟨j,hj,rfl⟩:=List.getElem_of_mem hx
   have:=ha j (by omega)
   rwa [zAs hj] at this
  rw [this]
end Go.Eng
set_option maxRecDepth 10000
set_option maxHeartbeats 4000000
namespace Go.Eng
open Go Go.Proofs
abbrev bls (l:List Bool):PV := .sl (l.map PV.bool)
abbrev knV (K:List (List Bool)):PV := .sl (K.map bls)
def kn (K:List (List Bool)) (h i:Nat):Bool:=(K.getD h []).getD i false
structure RelK (n:Nw) (K:List (List Bool)) (w:List Int):Prop where
 len:K.length=n.h.toNat
 row:∀ r∈K,r.length=n.n.length
 wl:w.length=80
 top:∀ h i,h<n.h.toNat→i<n.n.length→kn K h i=true→(i:Int)≤w.getD (h*8+((zAl n).getD i 0).toNat) 0
 at_:∀ h c,h<n.h.toNat→c<8→w.getD (h*8+c) 0 = -1∨∃ i,i<n.n.length∧(zAl n).getD i 0=c∧w.getD (h*8+c) 0=i∧kn K h i=true
def hld (n:Nw) (w:List Int) (h i:Nat):Bool:=decide (w.getD (h*8+((zAl n).getD i 0).toNat) 0=i)
theorem zSw {n:Nw} {x:Int} (h:zNh n x≠-1):∃ k:Nat,zNh n x=k∧k<n.n.length∧(n.n.getD k default).1=x:=by
 unfold zNh zER at h ⊢
 split
 ·rename_i yD
  have hp:=List.findIdx_getElem (w:=yD)
  exact ⟨_,rfl,yD,by rw [zAs yD];simpa using hp⟩
 ·rename_i hn;rw [if_neg hn] at h;exact absurd rfl h
theorem zTZ {n:Nw} {x:Int} (h:zNh n x = -1) (k:Nat) (hk:k<n.n.length):(n.n.getD k default).1≠x:=by
 have h2:=zD7 (fun y:Int×Bool=>decide (y.1=x)) n.n
 unfold zNh at h
 rw [h] at h2
 intro he
 have:(n.n.any fun y=>decide (y.1=x))=true:=List.any_eq_true.2 ⟨_,List.getElem_mem hk,by rw [zAs hk] at he;simpa using he⟩
 rw [this] at h2;cases h2
theorem zVJ {n:Nw} (ho:NwOk n) {i k:Nat} (hk:k<n.n.length) (h:(n.n.getD k default).1=i):i<k∧chn n k i:=by
 have ha:=ho.na k hk
 have hr:=zMW ho hk
 refine ⟨by omega,?_⟩
 rw [if_neg (by omega),h,Int.toNat_natCast] at hr
 exact hr
theorem zSD {n:Nw} (ho:NwOk n) {a b:Nat} {x:Int} (hx:0≤x) (ha:a<n.n.length) (hb:b<n.n.length) (h1:(n.n.getD a default).1=x) (h2:(n.n.getD b default).1=x):a=b:=by
 by_cases h:a=b
 ·exact h
 ·exfalso
  by_cases yD:a<b
  ·exact ho.nd b a yD hb (by omega) (by rw [h1,h2])
  ·exact ho.nd a b (by omega) ha (by omega) (by rw [h1,h2])
theorem zN4 {n:Nw} (ho:NwOk n) {i:Nat} (hi:i<n.n.length):(zNh n i = -1∧∀ k,k<n.n.length→chn n k i→¬ i<k)∨∃ m:Nat,zNh n i=m∧i<m∧m<n.n.length∧chn n m i∧∀ k,k<n.n.length→chn n k i→i<k→m≤k:=by
 by_cases h:zNh n i = -1
 ·left
  refine ⟨h,fun k hk hc wQ=>?_⟩
  obtain ⟨j,_,_,h3,h4,_⟩:=zOf ho k i wQ hk hc.symm
  exact zTZ h j h3 h4
 ·right
  obtain ⟨m,h1,h2,h3⟩:=zSw h
  obtain ⟨h4,h5⟩:=zVJ ho h2 h3
  refine ⟨m,h1,h4,h2,h5,fun k hk hc wQ=>?_⟩
  obtain ⟨j,g1,g2,g3,g4,_⟩:=zOf ho k i wQ hk hc.symm
  have:=zSD ho (by omega) h2 g3 h3 g4
  omega
theorem zXg {n:Nw} {K:List (List Bool)} {w:List Int} {h i:Nat} (ho:NwOk n) (hr:RelK n K w) (hh:h<n.h.toNat) (hi:i<n.n.length) (h1:kn K h i=true) (h2:∀ k,k<n.n.length→chn n k i→i<k→kn K h k=false):hld n w h i=true:=by
 have hfb:=zB4 ho i hi
 have uH:=ho.nl.2
 have ht:=hr.top h i hh hi h1
 rcases hr.at_ h ((zAl n).getD i 0).toNat hh (by omega) with h3 | ⟨j,g1,g2,g3,g4⟩
 ·omega
 ·by_cases hj:j=i
  ·subst hj;simpa only [hld,decide_eq_true_eq] using g3
  ·have:=h2 j g1 (by unfold chn;omega) (by omega)
   rw [this] at g4;cases g4
theorem zTL {n:Nw} {K:List (List Bool)} {w:List Int} {h i:Nat} (ho:NwOk n) (hr:RelK n K w) (hh:h<n.h.toNat) (hi:i<n.n.length) (h1:kn K h i=false∨∃ k,k<n.n.length∧chn n k i∧i<k∧kn K h k=true):hld n w h i=false:=by
 have hfb:=zB4 ho i hi
 have uH:=ho.nl.2
 simp only [hld,decide_eq_false_iff_not]
 intro he
 rcases h1 with h1 | ⟨k,g1,g2,g3,g4⟩
 ·rcases hr.at_ h ((zAl n).getD i 0).toNat hh (by omega) with h3 | ⟨j,g1,g2,g3,g4⟩
  ·omega
  ·have:j=i:=by omega
   subst this;rw [h1] at g4;cases g4
 ·have:=hr.top h k hh g1 g4
  unfold chn at g2
  rw [g2] at this;omega
theorem zYC (n:Nw) (K:List (List Bool)) (w:List Int) (h i:Nat) (ho:NwOk n) (hr:RelK n K w) (hh:h<n.h.toNat) (hi:i<n.n.length):FG 113 [nwV n,knV K,I h,I i] (.bool (hld n w h i)):=by
 have uH:=ho.nl.2
 have uP:=hr.len
 have yC:(K.getD h []).length=n.n.length:=zBA (d:=[]) hr.row h (by omega)
 refine zAe Tryz.f113 ?_
 have jp:=zN4 ho hi
 refine zAc 2<|zAa<|zAh<|zAc 2<|S_a [(2,.v (PV.sl (List.map PV.bool (K.getD h []))))] (ap (zBG [] (by omega):(List.map bls K)[h]? = some (PV.sl (List.map PV.bool (K.getD h [])))) an)<|zAd 2<|S_a [(2,.v (PV.bool ((K.getD h []).getD i false)))] (ap (zBG false (by omega):(List.map PV.bool (K.getD h []))[i]? = some (PV.bool ((K.getD h []).getD i false))) an)<|zAd 2<|zAa<|zDr (!(K.getD h []).getD i false) (fun k0=>(zAc 1<|zAa<|zAm<|E_a [] an (PV.bool false) [] ?_ rfl)) (fun k0=>(zAj<|zAh<|zAc 2<|S_a [(8,.ret (I (zNh n (↑i:Int))) [])] (ap (f143 n ((↑i:Int)) (by first | omega | (simp<;>omega))) an)<|zAd 1<|zAa<|zAi 0 ?_))
 ·rw [Bool.not_eq_true'] at k0
  rw [zTL ho hr hh hi (.inl k0)]
 ·refine zAp (fun (m:Int)=>(m = -1∨∃ k:Nat,m=k∧i<k∧k<n.n.length∧chn n k i)∧∀ k,k<n.n.length→chn n k i→i<k→(m = -1∨(k:Int)<m)→kn K h k=false) (fun m=>[(3,I m)]) (fun m=>(if m = -1 then 0 else n.n.length+1-m.toNat)) (zNh n i) ?_ fun m ⟨hm,ha⟩=>?_
  ·rcases jp with ⟨g1,g2⟩ | ⟨m,g1,g2,g3,g4,g5⟩
   ·exact ⟨.inl g1,fun k hk hc wQ _=>absurd wQ (g2 k hk hc)⟩
   ·exact ⟨.inr ⟨m,g1,g2,g3,g4⟩,fun k hk hc wQ hx=>by have:=g5 k hk hc wQ;omega⟩
  ·rw [Bool.not_eq_false'] at k0
   rcases hm with rfl | ⟨k,rfl,h1,h2,h3⟩
   ·have:=zXg ho hr hh hi k0 fun k hk hc wQ=>ha k hk hc wQ (.inl rfl)
    rw [this]
    clear ha jp
    refine zAh<|zAc 2<|zAa<|zAW<|zAz 0<|zAc 1<|zAa<|zAm<|E_a [] an (PV.bool true) [] rfl rfl
   ·have qT:=zN4 ho h2
    clear jp
    refine zAh<|zAc 2<|zAa<|zBR<|zAj<|zAh<|zAi 1<|zAc 2<|S_a [(2,.v (PV.sl (List.map PV.bool (K.getD h []))))] (ap (zBG [] (by omega):(List.map bls K)[h]? = some (PV.sl (List.map PV.bool (K.getD h [])))) an)<|zAd 2<|S_a [(2,.v (PV.bool ((K.getD h []).getD k false)))] (ap (zBG false (by omega):(List.map PV.bool (K.getD h []))[k]? = some (PV.bool ((K.getD h []).getD k false))) an)<|zAd 1<|zAa<|zDr ((K.getD h []).getD k false) (fun k2=>(zAc 1<|zAa<|zAm<|E_a [] an (PV.bool false) [] ?_ rfl)) (fun k2=>(zAj<|zAf<|zAd 2<|S_a [(8,.ret (I (zNh n (↑k:Int))) [])] (ap (f143 n ((↑k:Int)) (by first | omega | (simp<;>omega))) an)<|zAd 1<|zAa ?_))
    ·rw [zTL ho hr hh hi (.inr ⟨k,h2,h3,h1,by assumption⟩)]
    ·have uh:kn K h k=false:=by assumption
     refine ⟨zNh n k,?_,?_,by kernel_rfl,by kernel_rfl⟩
     ·rcases qT with ⟨g1,g2⟩ | ⟨m,g1,g2,g3,g4,g5⟩
      ·refine ⟨.inl g1,fun j hj hc qH _=>?_⟩
       by_cases qm:j=k
       ·subst qm;exact uh
       ·by_cases yD:j<k
        ·exact ha j hj hc qH (.inr (by omega))
        ·exact absurd (by omega:k<j) (g2 j hj (by unfold chn at *;omega))
      ·refine ⟨.inr ⟨m,g1,by omega,g3,by unfold chn at *;omega⟩,fun j hj hc qH hx=>?_⟩
       by_cases qm:j=k
       ·subst qm;exact uh
       ·by_cases yD:j<k
        ·exact ha j hj hc qH (.inr (by omega))
        ·have:=g5 j hj (by unfold chn at *;omega) (by omega)
         omega
     ·rcases qT with ⟨g1,_⟩ | ⟨m,g1,g2,g3,_⟩
      ·rw [g1,if_pos rfl,if_neg (by omega)];omega
      ·rw [g1,if_neg (by omega),if_neg (by omega)];omega
end Go.Eng
set_option maxRecDepth 10000
set_option maxHeartbeats 4000000
namespace Go.Eng
open Go Go.Proofs
def hrB (n:Nw) (h i:Int) (c:Int×Int):Bool:=decide (c.1=i)&&has (n.s.getD c.2.toNat []) h
def zDR (n:Nw) (cs:List (Int×Int)) (h i:Int):Bool:=cs.any (hrB n h i)
theorem f141 (n:Nw) (cs:List (Int×Int)) (h i:Int) (ho:CrW n cs):FG 141 [nwV n,prs cs,I h,I i] (.bool (zDR n cs h i)):=by
 have hn:=ho.nw
 have yN:=ho.len
 have jS:=hn.sl.2
 refine zAe Tryz.f141 ?_
 refine zAc 2<|zAa<|zAh<|zAc 1<|zAa<|zAi 0 ?_
 refine zAp (fun j=>j≤cs.length∧∀ k,k<j→hrB n h i (cs.getD k default)=false) (fun (j:Nat)=>[(9,I (j:Nat))]) (fun j=>cs.length-j) (0:Nat) ⟨by omega,fun j hj=>absurd hj (Nat.not_lt_zero j)⟩ fun j ⟨hj,ha⟩=>?_
 by_cases jf:j<cs.length
 ·obtain ⟨jX,jA⟩:=zBA (d:=default) ho.cs j jf
  have vV:=zBA (d:=[]) hn.rows (cs.getD j default).2.toNat (by omega)
  have yK:hrB n h i (cs.getD j default)=false→∀ k,k<j+1→hrB n h i (cs.getD k default)=false:=fun h k hk=>by
   rcases Nat.lt_succ_iff_lt_or_eq.1 hk with h2 | rfl
   ·exact ha k h2
   ·exact h
  have wP:hrB n h i (cs.getD j default)=true→zDR n cs h i=true:=fun h=>by
   rw [zAs jf] at h
   exact List.any_eq_true.2 ⟨_,List.getElem_mem jf,h⟩
  clear ha
  refine zAh<|zAc 2<|S_a [(0,.n cs.length)] (ap (lnS prV cs) an)<|zAd 1<|zAa<|zAU ((↑j:Int)<(↑cs.length:Int)) (by omega)<|zAj<|zAh<|zAi 1<|zAh<|zAc 2<|S_a [(2,.v (PV.agg [I (cs.getD j default).fst,I (cs.getD j default).snd]))] (ap (zBG default (by omega):(List.map prV cs)[j]? = some (PV.agg [I (cs.getD j default).fst,I (cs.getD j default).snd])) an)<|zAd 4<|zAa<|zDb ((cs.getD j default).fst=i) (fun k0=>(zAz 1<|zAf<|zAd 1<|S_a [(1,.v (I (↑(j+1):Int)))] (ap (wrN j) an)<|zAd 1<|zAa ?_)) (fun k0=>(zAj<|zAc 4<|S_a [(2,.v (PV.agg [I (cs.getD j default).fst,I (cs.getD j default).snd]))] (ap (zBG default (by omega):(List.map prV cs)[j]? = some (PV.agg [I (cs.getD j default).fst,I (cs.getD j default).snd])) an)<|zAd 2<|S_a [(0,.ob),(1,.v (zAP (n.s.getD (cs.getD j default).snd.toNat [])))] (ap ((by exact zAq (by omega)):decide (0≤(cs.getD j default).snd)=true)<|ap (zBG [] (by omega):(List.map zAP n.s)[(cs.getD j default).snd.toNat]? = some (zAP (n.s.getD (cs.getD j default).snd.toNat []))) an)<|zAd 2<|zAa<|zAc 1<|zAa<|zAi 2 ?_))
  ·exact ⟨j+1,⟨by omega,yK (by simp only [hrB,decide_eq_false (by assumption),Bool.false_and])⟩,by omega,by kernel_rfl,by kernel_rfl⟩
  ·have he:(cs.getD j default).1=i:=by first | assumption | (apply Decidable.of_not_not;assumption)
   refine zAp (fun k=>k≤(n.s.getD (cs.getD j default).2.toNat []).length∧∀ r,r<k→decide (h=(n.s.getD (cs.getD j default).2.toNat []).getD r 0)=false) (fun (k:Nat)=>[(11,I (k:Nat))]) (fun k=>(n.s.getD (cs.getD j default).2.toNat []).length-k) (0:Nat) ⟨by omega,fun j hj=>absurd hj (Nat.not_lt_zero j)⟩ fun k ⟨hk,hb⟩=>?_
   generalize hL:n.s.getD (cs.getD j default).2.toNat []=L at *
   by_cases uP:k<L.length
   ·refine zAh<|zAc 2<|S_a [(0,.n L.length)] (ap (lnS I L) an)<|zAd 1<|zAa<|zAU ((↑k:Int)<(↑L.length:Int)) (by omega)<|zAj<|zAh<|zAi 3<|zAc 2<|S_a [(2,.v (I (L.getD k 0)))] (ap (zBG (0) (by omega):(List.map I L)[k]? = some (I (L.getD k 0))) an)<|zAd 3<|zAa<|zCb (L.getD k 0=h) (fun k2=>(zAc 1<|zAa<|zAm<|E_a [] an (PV.bool true) [] ?_ rfl)) (fun k2=>(zAj<|zAf<|zAd 1<|S_a [(1,.v (I (↑(k+1):Int)))] (ap (wrN k) an)<|zAd 1<|zAa ?_))
    ·have h3:L.getD k 0=h:=by assumption
     have:has L h=true:=by
      rw [zNu,decide_eq_true_eq,← h3,zAs uP];exact List.getElem_mem uP
     rw [wP (by simp only [hrB,decide_eq_true he,hL,this];rfl)]
    ·refine ⟨k+1,⟨by omega,fun r hr=>?_⟩,by omega,by kernel_rfl,by kernel_rfl⟩
     rcases Nat.lt_succ_iff_lt_or_eq.1 hr with h2 | rfl
     ·exact hb r h2
     ·exact decide_eq_false fun h=>absurd h.symm (by assumption)
   ·have:has L h=false:=by
     rw [zNu,decide_eq_false_iff_not]
     intro hm
     obtain ⟨r,hr,rfl⟩:=List.getElem_of_mem hm
     have:=hb r (by omega)
     rw [zAs hr] at this
     simp at this
    have kH:=yK (by simp only [hrB,hL,this,Bool.and_false])
    clear hb
    refine zAh<|zAc 2<|S_a [(0,.n L.length)] (ap (lnS I L) an)<|zAd 1<|zAa<|zAT ((↑k:Int)<(↑L.length:Int)) (by omega)<|zAz 2<|zAf<|zAd 1<|S_a [(1,.v (I (↑(j+1):Int)))] (ap (wrN j) an)<|zAd 1<|zAa ?_
    exact ⟨j+1,⟨by omega,kH⟩,by omega,by kernel_rfl,by kernel_rfl⟩
 ·refine zAh<|zAc 2<|S_a [(0,.n cs.length)] (ap (lnS prV cs) an)<|zAd 1<|zAa<|zAT ((↑j:Int)<(↑cs.length:Int)) (by omega)<|zAz 0<|zAc 1<|zAa<|zAm<|E_a [] an (PV.bool false) [] ?_ rfl
  have:zDR n cs h i=false:=by
   simp only [zDR,List.any_eq_false,Bool.not_eq_true]
   intro x hx
   obtain ⟨j,hj,rfl⟩:=List.getElem_of_mem hx
   have:=ha j (by omega)
   rwa [zAs hj] at this
  rw [this]
end Go.Eng
set_option maxRecDepth 10000
set_option maxHeartbeats 4000000
namespace Go.Eng
open Go Go.Proofs
abbrev lsB (l:List Bool):PV := .own 1 (l.map PV.bool)
instance:FrzOf lsB bls:=⟨fun x=>by simp only [zAR,zE5]⟩
def zOk (n:Nw) (cs:List (Int×Int)) (h k:Nat):List Bool:=(List.range k).map fun (i:Nat)=>zDR n cs h i
def zPx (n:Nw) (cs:List (Int×Int)) (k:Nat):List (List Bool):=(List.range k).map fun h=>zOk n cs h n.n.length
theorem zQM {n:Nw} {cs:List (Int×Int)} {h k:Nat}:zOk n cs h (k+1)=zOk n cs h k++[zDR n cs h k]:=by
 simp only [zOk,List.range_succ,List.map_append,List.map_cons,List.map_nil]
theorem zQj {n:Nw} {cs:List (Int×Int)} {k:Nat}:zPx n cs (k+1)=zPx n cs k++[zOk n cs k n.n.length]:=by
 simp only [zPx,List.range_succ,List.map_append,List.map_cons,List.map_nil]
theorem f112 (n:Nw) (cs:List (Int×Int)) (ho:CrW n cs):FG 112 [nwV n,prs cs] (.own 1 ((zPx n cs n.h.toNat).map lsB)):=by
 have hn:=ho.nw
 have hb:=hn.h
 have uH:=hn.nl
 refine zAe Tryz.f112 ?_
 refine zAc 2<|zAa<|zAc 1<|zAa<|zAh<|zAc 1<|zAa<|zAi 0 ?_
 refine zAp (fun (h,K)=>h≤n.h.toNat∧K=zPx n cs h) (fun (h,K)=>[(5,.own 1 (K.map lsB)),(6,I (h:Nat))]) (fun (h,_)=>n.h.toNat-h) ((0:Nat),([]:List (List Bool))) ⟨by omega,rfl⟩ fun (h,K) ⟨hh,hK⟩=>?_
 have hKl:K.length=h:=by rw [hK];simp [zPx]
 by_cases hhl:(h:Int)<n.h
 ·have yq:=zQj (n:=n) (cs:=cs) (k:=h)
  rw [← hK] at yq
  clear hK
  refine zAh<|zAc 4<|zAa<|zAU ((↑h:Int)<n.h) (by omega)<|zAj<|zAh<|zAi 1<|zAc 2<|S_a [(0,.n n.n.length)] (ap (lnS ntV n.n) an)<|S_a [(4,.ob),(0,.ob),(1,.v (PV.own 1 (List.map PV.bool (List.replicate n.n.length false))))] (ap ((by exact zAq (by omega)):decide (n.n.length≤n.n.length)=true)<|ap ((by exact zAq (by simp [zAZ]<;>omega)):decide (n.n.length≤zAZ)=true)<|ap ((by simp):PV.own 1 (List.replicate n.n.length (PV.bool false))=PV.own 1 (List.map PV.bool (List.replicate n.n.length false))) an)<|zAd 1<|zAa<|zAh<|zAc 1<|zAa<|zAi 2 ?_
  refine zAp (fun (i,r)=>i≤n.n.length∧r=zOk n cs h i++List.replicate (n.n.length-i) false) (fun (i,r)=>[(7,.own 1 (r.map PV.bool)),(8,I (i:Nat))]) (fun (i,_)=>n.n.length-i) ((0:Nat),List.replicate n.n.length false) ⟨by omega,by simp [zOk]⟩ fun (i,r) ⟨hi,hr⟩=>?_
  have vV:r.length=n.n.length:=by rw [hr];simp [zOk];omega
  by_cases yG:i<n.n.length
  ·refine zAh<|zAc 2<|S_a [(0,.n r.length)] (ap (lnS PV.bool r) an)<|zAd 1<|zAa<|zAU ((↑i:Int)<(↑r.length:Int)) (by omega)<|zAj<|zAh<|zAi 3<|zAf<|zAd 6<|S_a [(12,.ret (PV.bool (zDR n cs (↑h:Int) (↑i:Int))) [])] (ap (f141 n cs ((↑h:Int)) ((↑i:Int)) (by omega)) an)<|S_a [(2,.ob),(1,.n i)] (ap ((by exact zAq (by simp only [List.length_map,zzLn]<;>omega)):decide (i<(List.map PV.bool r).length)=true)<|ap ((by simp):some (0+i)=some i) an)<|S_a [(8,.root (PV.own 1 (List.map PV.bool (r.set i (zDR n cs (↑h:Int) (↑i:Int))))) true)] (ap (zPJ (zBG false (by omega)) zFT:zBw (PV.own 1 (List.map PV.bool r)) [] i 0 (PV.bool (zDR n cs (↑h:Int) (↑i:Int))).cells=some (PV.own 1 (List.map PV.bool (r.set i (zDR n cs (↑h:Int) (↑i:Int)))))∧zAE (PV.own 1 (List.map PV.bool r)) (PV.own 1 (List.map PV.bool (r.set i (zDR n cs (↑h:Int) (↑i:Int))))) []=true) an)<|zAa<|zAf<|zAd 1<|S_a [(1,.v (I (↑(i+1):Int)))] (ap (wrN i) an)<|zAd 1<|zAa ?_
   refine ⟨(i+1,r.set i (zDR n cs h i)),⟨by omega,?_⟩,by simp only;omega,by kernel_rfl,by kernel_rfl⟩
   obtain ⟨k,hk⟩:∃ k,n.n.length-i=k+1:=⟨n.n.length-i-1,by omega⟩
   rw [hr,hk,show n.n.length-(i+1)=k by omega,List.replicate_succ,List.set_append_right _ _ (by simp [zOk]),zQM]
   try simp [zOk]
  ·have hrr:r=zOk n cs h n.n.length:=by rw [hr,show i=n.n.length by omega];simp
   rw [← hrr] at yq
   clear hr hrr
   refine zAh<|zAc 2<|S_a [(0,.n r.length)] (ap (lnS PV.bool r) an)<|zAd 1<|zAa<|zAT ((↑i:Int)<(↑r.length:Int)) (by omega)<|zAz 2<|zAf<|zAd 2<|S_a [(2,.yes)] (ap ((by exact zBs (by simp<;>omega)):(Nat.beq 0 0&&(List.map PV.bool r).length.beq (List.map PV.bool r).length)=true) an)<|S_a [(4,.ob),(0,.ob),(0,.yes),(2,.v (PV.own 1 (List.map lsB (K++[r]))))] (ap (blz (List.map lsB K))<|ap ((by exact zBp (by simp only [List.length_map,zzLn,zAZ]<;>omega)):((List.map lsB K).length + [PV.own 1 (List.map PV.bool r)].length).ble zAZ=true)<|ap ((by exact zBs (by simp<;>omega)):(0+(List.map lsB K).length).beq (List.map lsB K).length=true)<|ap ((zAM (zCh (by kernel_rfl))):PV.own 1 (List.map lsB K++[PV.own 1 (List.map PV.bool r)])=PV.own 1 (List.map lsB (K++[r]))) an)<|zAd 1<|zAa<|zAf<|zAd 1<|S_a [(1,.v (I (↑(h+1):Int)))] (ap (wrN h) an)<|zAd 1<|zAa ?_
   exact ⟨(h+1,K++[r]),⟨by omega,yq.symm⟩,by simp only;omega,by kernel_rfl,by kernel_rfl⟩
 ·have e:h=n.h.toNat:=by omega
  subst e
  refine zAh<|zAc 4<|zAa<|zAT ((↑n.h.toNat:Int)<n.h) (by omega)<|zAz 0<|zAc 1<|S_a [(2,.yes)] (ap ((by exact zBs (by simp<;>omega)):(Nat.beq 0 0&&(List.map lsB K).length.beq (List.map lsB K).length)=true) an)<|zAa<|zAm<|E_a [(1,.yes),(1,.v (PV.own 1 (List.map lsB K)))] (ap (blz (List.map lsB K))<|ap ((zAM zAG):PV.own 1 (List.take (List.map lsB K).length (List.drop 0 (List.map lsB K)))=PV.own 1 (List.map lsB K)) an) (PV.own 1 (List.map lsB K)) [] (by simp [*]) rfl
end Go.Eng
namespace Go.Eng
open Go Go.Proofs
structure Tr (n:Nw) (w:List Int) (S:Nat→Nat→Prop):Prop where
 wl:w.length=80
 at_:∀ h c,h<n.h.toNat→c<8→w.getD (h*8+c) 0 = -1∨∃ i,i<n.n.length∧(zAl n).getD i 0=(c:Int)∧w.getD (h*8+c) 0=i∧S h i
 top:∀ h i,h<n.h.toNat→i<n.n.length→S h i→(i:Int)≤w.getD (h*8+((zAl n).getD i 0).toNat) 0
theorem zLb {w:List Int} {i j:Nat} {x:Int} (hi:i<w.length):(zQg w i x).getD j 0=if i=j then max (w.getD j 0) x else w.getD j 0:=by
 unfold zQg
 rw [zDB]
 by_cases h:i=j
 ·subst h;rw [if_pos ⟨rfl,hi⟩,if_pos rfl]
 ·rw [if_neg (fun h2=>h h2.1),if_neg h]
theorem Tr.upd {n:Nw} {w:List Int} {S:Nat→Nat→Prop} (ho:NwOk n) (ht:Tr n w S) {h0 i0:Nat} (hh:h0<n.h.toNat) (hi:i0<n.n.length):Tr n (zQg w (h0*8+((zAl n).getD i0 0).toNat) i0) (fun h i=>S h i∨h=h0∧i=i0):=by
 have uH:=ho.nl.2
 have hH:=ho.h.2
 have hf0:=zB4 ho i0 hi
 have yD:h0*8+((zAl n).getD i0 0).toNat<w.length:=by rw [ht.wl];omega
 refine ⟨by rw [zIs];exact ht.wl,fun h c gq hc=>?_,fun h i gq hi1 hS=>?_⟩
 ·rw [zLb yD]
  split
  ·rename_i he
   have e1:h=h0:=by omega
   have e2:((zAl n).getD i0 0).toNat=c:=by omega
   have e3:(zAl n).getD i0 0=(c:Int):=by omega
   subst e1
   have hw:=ht.at_ h c gq hc
   by_cases hm:w.getD (h*8+c) 0≤(i0:Int)
   ·right
    exact ⟨i0,hi,e3,by rw [Int.max_eq_right hm],.inr ⟨rfl,rfl⟩⟩
   ·rcases hw with hw | ⟨i,g1,g2,g3,g4⟩
    ·omega
    ·right;exact ⟨i,g1,g2,by rw [Int.max_eq_left (by omega)];exact g3,.inl g4⟩
  ·rcases ht.at_ h c gq hc with hw | ⟨i,g1,g2,g3,g4⟩
   ·exact .inl hw
   ·exact .inr ⟨i,g1,g2,g3,.inl g4⟩
 ·rw [zLb yD]
  have gy:=zB4 ho i hi1
  rcases hS with hS | ⟨rfl,rfl⟩
  ·have:=ht.top h i gq hi1 hS
   split<;>omega
  ·rw [if_pos rfl];omega
theorem Tr.same {n:Nw} {w:List Int} {S S':Nat→Nat→Prop} (ht:Tr n w S) (h:∀ a i,a<n.h.toNat→i<n.n.length→(S a i↔S' a i)):Tr n w S' :=
 ⟨ht.wl,fun a c ha hc=>by
  rcases ht.at_ a c ha hc with h1 | ⟨i,g1,g2,g3,g4⟩
  ·exact .inl h1
  ·exact .inr ⟨i,g1,g2,g3,(h a i ha g1).1 g4⟩,fun a i ha hi hs=>ht.top a i ha hi ((h a i ha hi).2 hs)⟩
theorem Tr.none (n:Nw) (ho:NwOk n):Tr n (List.replicate 80 (-1)) (fun _ _=>False):=by
 have hH:=ho.h.2
 refine ⟨by simp,fun h c hh hc => .inl ?_,fun _ _ _ _ h=>h.elim⟩
 rw [zAs (by rw [List.length_replicate];omega),List.getElem_replicate]
end Go.Eng
namespace Go.Eng
open Go Go.Proofs
theorem Tr.begC {n:Nw} {w:List Int} {S:Nat→Nat→Prop} (ho:NwOk n) (ht:Tr n w S) {h:Nat} (hh:h<n.h.toNat) {c:Int×Int} (hc:0≤c.1∧c.1<n.n.length):Tr n (begC n h w c) (fun a i=>S a i∨a=h∧hrB n h i c=true):=by
 unfold Go.Eng.begC
 split
 ·rename_i hs
  have:=ht.upd ho hh (i0:=c.1.toNat) (by omega)
  rw [Int.toNat_of_nonneg hc.1] at this
  refine this.same fun a i _ _=>?_
  simp only [hrB,hs,Bool.and_true,decide_eq_true_eq]
  refine or_congr Iff.rfl (and_congr Iff.rfl ⟨fun e=>by omega,fun e=>by omega⟩)
 ·rename_i hs
  refine ht.same fun a i _ _=>?_
  have h2:has (n.s.getD c.2.toNat []) h=false:=by
   cases hx:has (n.s.getD c.2.toNat []) h
   ·rfl
   ·exact absurd hx hs
  simp only [hrB,h2,Bool.and_false,Bool.false_eq_true,and_false,or_false]
theorem Tr.begH {n:Nw} (ho:NwOk n) {h:Nat} (hh:h<n.h.toNat):∀ (cs:List (Int×Int)) {w:List Int} {S:Nat→Nat→Prop},Tr n w S→(∀ c∈cs,0≤c.1∧c.1<n.n.length)→Tr n (begH n h w cs) (fun a i=>S a i∨a=h∧zDR n cs h i=true)
 | [],w,S,ht,_=>ht.same fun a i _ _=>by simp [zDR]
 | c::cs,w,S,ht,hc=>by
  have h1:=Tr.begH ho hh cs (ht.begC ho hh (hc c List.mem_cons_self)) fun d hd=>hc d (List.mem_cons_of_mem _ hd)
  refine Tr.same (w:=Go.Eng.begH n h w (c::cs)) h1 fun a i _ _=>?_
  simp only [zDR,List.any_cons,Bool.or_eq_true,or_assoc,and_or_left]
theorem Tr.begN {n:Nw} {cs:List (Int×Int)} (ho:CrW n cs):∀ k,k≤n.h.toNat→Tr n (begN n cs k) (fun a i=>a<k∧zDR n cs a i=true)
 | 0,_=>(Tr.none n ho.nw).same fun a i _ _=>by simp
 | k + 1,hk=>by
  rw [zIU]
  refine (Tr.begH ho.nw (by omega) cs (Tr.begN ho k (by omega)) fun c hc=>(ho.cs c hc).1).same fun a i _ _=>?_
  constructor
  ·rintro (⟨h1,h2⟩ | ⟨rfl,h2⟩)
   ·exact ⟨by omega,h2⟩
   ·exact ⟨by omega,h2⟩
  ·rintro ⟨h1,h2⟩
   by_cases e:a=k
   ·subst e;exact .inr ⟨rfl,h2⟩
   ·exact .inl ⟨by omega,h2⟩
theorem RelK.of_tr {n:Nw} {K:List (List Bool)} {w:List Int} (h1:K.length=n.h.toNat) (h2:∀ r∈K,r.length=n.n.length) (ht:Tr n w fun a i=>kn K a i=true):RelK n K w :=
 ⟨h1,h2,ht.wl,ht.top,ht.at_⟩
theorem RelK.tr {n:Nw} {K:List (List Bool)} {w:List Int} (h:RelK n K w):Tr n w fun a i=>kn K a i=true:=⟨h.wl,h.at_,h.top⟩
theorem zW1 {n:Nw} {cs:List (Int×Int)} {a i:Nat} (ha:a<n.h.toNat) (hi:i<n.n.length):kn (zPx n cs n.h.toNat) a i=zDR n cs a i:=by
 unfold kn zPx
 rw [zAs (l:=(List.range n.h.toNat).map fun h=>zOk n cs h n.n.length) (by rw [List.length_map,List.length_range];exact ha)]
 simp only [List.getElem_map,List.getElem_range]
 unfold zOk
 rw [zAs (by rw [List.length_map,List.length_range];exact hi)]
 simp only [List.getElem_map,List.getElem_range]
theorem zVE {n:Nw} {cs:List (Int×Int)} (ho:CrW n cs):RelK n (zPx n cs n.h.toNat) (zPf n cs):=by
 refine RelK.of_tr (by simp [zPx]) (fun r hr=>?_) ?_
 ·obtain ⟨h,_,rfl⟩:=List.mem_map.1 hr
  simp [zOk]
 ·refine (Tr.begN ho n.h.toNat (Nat.le_refl _)).same fun a i ha hi=>?_
  rw [zW1 ha hi]
  exact ⟨fun h=>h.2,fun h=>⟨ha,h⟩⟩
end Go.Eng
namespace Go.Eng
open Go Go.Proofs
def nxB (n:Nw) (K:List (List Bool)) (w:List Int) (h i:Nat):Bool:=kn K h i||(zHQ n h n.h.toNat).any fun o=>hld n w o i
def zGh (n:Nw) (K:List (List Bool)) (w:List Int) (h:Nat):List Bool:=(List.range n.n.length).map fun i=>nxB n K w h i
def zMw (n:Nw) (K:List (List Bool)) (w:List Int):List (List Bool):=(List.range n.h.toNat).map fun h=>zGh n K w h
theorem zVn {n:Nw} {K:List (List Bool)} {w:List Int} {a i:Nat} (ha:a<n.h.toNat) (hi:i<n.n.length):kn (zMw n K w) a i=nxB n K w a i:=by
 unfold kn zMw
 rw [zAs (l:=(List.range n.h.toNat).map fun h=>zGh n K w h) (by rw [List.length_map,List.length_range];exact ha)]
 simp only [List.getElem_map,List.getElem_range]
 unfold zGh
 rw [zAs (by rw [List.length_map,List.length_range];exact hi)]
 simp only [List.getElem_map,List.getElem_range]
theorem Tr.skip {n:Nw} {w:List Int} {S:Nat→Nat→Prop} (ho:NwOk n) (ht:Tr n w S) {h0 c0:Nat} (hh:h0<n.h.toNat) (hc:c0<8):Tr n (zQg w (h0*8+c0) (-1)) S:=by
 have hH:=ho.h.2
 have yD:h0*8+c0<w.length:=by rw [ht.wl];omega
 have hge : -1≤w.getD (h0*8+c0) 0:=by
  rcases ht.at_ h0 c0 hh hc with h | ⟨i,_,_,h,_⟩<;>omega
 have he:∀ j,(zQg w (h0*8+c0) (-1)).getD j 0=w.getD j 0:=fun j=>by
  rw [zLb yD]
  split
  ·rename_i e;subst e;exact Int.max_eq_left hge
  ·rfl
 exact ⟨by rw [zIs];exact ht.wl,fun h c h1 h2=>by rw [he];exact ht.at_ h c h1 h2,fun h i h1 h2 h3=>by rw [he];exact ht.top h i h1 h2 h3⟩
theorem Tr.nxtR {n:Nw} {now:List Int} {S0:Nat→Nat→Prop} (ho:NwOk n) (h0:Tr n now S0) {h o:Nat} (hh:h<n.h.toNat) (hoo:o<n.h.toNat) {w:List Int} {S:Nat→Nat→Prop} (ht:Tr n w S):∀ k,k≤8→Tr n (nxtR now h o w k) (fun a i=>S a i∨a=h∧(zAl n).getD i 0<(k:Int)∧hld n now o i=true)
 | 0,_=>Tr.same (w:=Go.Eng.nxtR now h o w 0) ht fun a i _ hi=>by
  have:=zB4 ho i hi
  exact ⟨.inl,fun h=>h.elim id fun h=>by have:=h.2.1;omega⟩
 | k + 1,hk=>by
  have ih:=Tr.nxtR ho h0 hh hoo ht k (by omega)
  have e:Go.Eng.nxtR now h o w (k+1)=zQg (Go.Eng.nxtR now h o w k) (h*8+k) (now.getD (o*8+k) 0):=by
   simp only [Go.Eng.nxtR,List.range_succ,List.foldl_append,List.foldl_cons,List.foldl_nil]
  rw [e]
  rcases h0.at_ o k hoo (by omega) with hm | ⟨j,g1,g2,g3,_⟩
  ·rw [hm]
   refine (ih.skip ho hh (by omega)).same fun a i _ hi=>or_congr Iff.rfl (and_congr Iff.rfl ⟨fun ⟨x,y⟩=>⟨by omega,y⟩,fun ⟨x,y⟩=>⟨?_,y⟩⟩)
   have hf:=zB4 ho i hi
   by_cases ek:(zAl n).getD i 0=(k:Int)
   ·simp only [hld,decide_eq_true_eq,ek,Int.toNat_natCast,hm] at y
    omega
   ·omega
  ·have:=ih.upd ho hh g1
   rw [g2,Int.toNat_natCast] at this
   rw [g3]
   refine this.same fun a i _ hi=>?_
   have hf:=zB4 ho i hi
   constructor
   ·rintro ((x | ⟨x,y,z⟩) | ⟨rfl,rfl⟩)
    ·exact .inl x
    ·exact .inr ⟨x,by omega,z⟩
    ·refine .inr ⟨rfl,by omega,?_⟩
     simp only [hld,decide_eq_true_eq,g2,Int.toNat_natCast,g3]
   ·rintro (x | ⟨rfl,y,z⟩)
    ·exact .inl (.inl x)
    ·by_cases ek:(zAl n).getD i 0=(k:Int)
     ·simp only [hld,decide_eq_true_eq,ek,Int.toNat_natCast,g3] at z
      exact .inr ⟨rfl,by omega⟩
     ·exact .inl (.inr ⟨rfl,by omega,z⟩)
theorem Tr.nxtH {n:Nw} {now:List Int} {S0:Nat→Nat→Prop} (ho:NwOk n) (h0:Tr n now S0) {h:Nat} (hh:h<n.h.toNat):∀ (l:List Nat),(∀ o∈l,o<n.h.toNat)→∀ {w:List Int} {S:Nat→Nat→Prop},Tr n w S→Tr n (nxtH now h w l) (fun a i=>S a i∨a=h∧(l.any fun o=>hld n now o i)=true)
 | [],_,w,S,ht=>Tr.same (w:=Go.Eng.nxtH now h w []) ht fun a i _ _=>by simp
 | o::l,hl,w,S,ht=>by
  have h1:=Tr.nxtH ho h0 hh l (fun x hx=>hl x (List.mem_cons_of_mem _ hx)) (Tr.nxtR ho h0 hh (hl o List.mem_cons_self) ht 8 (Nat.le_refl _))
  refine Tr.same (w:=Go.Eng.nxtH now h w (o::l)) h1 fun a i _ hi=>?_
  have hf:=zB4 ho i hi
  have uH:=ho.nl.2
  simp only [List.any_cons,Bool.or_eq_true,and_or_left,or_assoc]
  refine or_congr Iff.rfl (or_congr (and_congr Iff.rfl ⟨fun x=>x.2,fun x=>⟨by omega,x⟩⟩) Iff.rfl)
theorem Tr.nxtN {n:Nw} {now:List Int} {S0:Nat→Nat→Prop} (ho:NwOk n) (h0:Tr n now S0):∀ k,k≤n.h.toNat→Tr n (nxtN n now k) (fun a i=>S0 a i∨a<k∧((zHQ n a n.h.toNat).any fun o=>hld n now o i)=true)
 | 0,_=>Tr.same (w:=Go.Eng.nxtN n now 0) h0 fun a i _ _=>by simp
 | k + 1,hk=>by
  have ih:=Tr.nxtN ho h0 k (by omega)
  have e:Go.Eng.nxtN n now (k+1)=Go.Eng.nxtH now k (Go.Eng.nxtN n now k) (zHQ n k n.h.toNat):=by
   simp only [Go.Eng.nxtN,List.range_succ,List.foldl_append,List.foldl_cons,List.foldl_nil]
  rw [e]
  refine (Tr.nxtH ho h0 (by omega) _ (fun o hm=>List.mem_range.1 (List.mem_filter.1 hm).1) ih).same fun a i _ _=>?_
  constructor
  ·rintro ((x | ⟨x,y⟩) | ⟨rfl,y⟩)
   ·exact .inl x
   ·exact .inr ⟨by omega,y⟩
   ·exact .inr ⟨by omega,y⟩
  ·rintro (x | ⟨x,y⟩)
   ·exact .inl (.inl x)
   ·by_cases ea:a=k
    ·subst ea;exact .inr ⟨rfl,y⟩
    ·exact .inl (.inr ⟨by omega,y⟩)
theorem zSN {n:Nw} (ho:NwOk n) {K:List (List Bool)} {w:List Int} (h:RelK n K w):RelK n (zMw n K w) (zDH n w):=by
 refine RelK.of_tr (by simp [zMw]) (fun r hr=>?_) ?_
 ·obtain ⟨h,_,rfl⟩:=List.mem_map.1 hr
  simp [zGh]
 ·refine (Tr.nxtN ho h.tr n.h.toNat (Nat.le_refl _)).same fun a i ha hi=>?_
  rw [zVn ha hi,nxB,Bool.or_eq_true]
  exact or_congr Iff.rfl ⟨fun x=>x.2,fun x=>⟨ha,x⟩⟩
end Go.Eng
set_option maxRecDepth 10000
set_option maxHeartbeats 4000000
namespace Go.Eng
open Go Go.Proofs
instance (n:Nw) (i j:Nat):Decidable (chn n i j):=inferInstanceAs (Decidable ((zAl n).getD i 0=(zAl n).getD j 0))
def zH7 (n:Nw) (K:List (List Bool)) (h i:Nat):Bool:=kn K h i && !((List.range n.n.length).any fun k=>decide (i<k)&&(decide (chn n k i)&&kn K h k))
theorem zTO {n:Nw} {K:List (List Bool)} {w:List Int} {h i:Nat} (ho:NwOk n) (hr:RelK n K w) (hh:h<n.h.toNat) (hi:i<n.n.length):zH7 n K h i=hld n w h i:=by
 unfold zH7
 cases h1:kn K h i
 ·rw [zTL ho hr hh hi (.inl h1)];rfl
 ·cases h2:(List.range n.n.length).any fun k=>decide (i<k)&&(decide (chn n k i)&&kn K h k)
  ·rw [zXg ho hr hh hi h1 fun k hk hc wQ=>?_]
   ·rfl
   ·have h3:=(List.any_eq_false.1 h2) k (List.mem_range.2 hk)
    simpa [wQ,hc] using h3
  ·obtain ⟨k,hk,h3⟩:=List.any_eq_true.1 h2
   simp only [Bool.and_eq_true,decide_eq_true_eq] at h3
   rw [zTL ho hr hh hi (.inr ⟨k,List.mem_range.1 hk,h3.2.1,h3.1,h3.2.2⟩)];rfl
theorem f113 (n:Nw) (K:List (List Bool)) (h i:Nat) (ho:NwOk n) (hr:∃ w,RelK n K w) (hh:h<n.h.toNat) (hi:i<n.n.length):FG 113 [nwV n,knV K,I h,I i] (.bool (zH7 n K h i)):=by
 obtain ⟨w,hr⟩:=hr
 rw [zTO ho hr hh hi]
 exact zYC n K w h i ho hr hh hi
def nxP (n:Nw) (K:List (List Bool)) (w:List Int) (h o j:Nat):Bool:=kn K h j||(zHQ n h o).any fun o=>hld n w o j
theorem zTo {n:Nw} {K:List (List Bool)} {w:List Int} {h o j:Nat}:nxP n K w h (o+1) j=(nxP n K w h o j||zGd n h o&&hld n w o j):=by
 unfold nxP;rw [zJL]
 cases zGd n h o<;>simp [Bool.or_assoc]
theorem zXt {P H:Nat→Bool} {a:Bool} {q:List Bool} {m i:Nat} (hq:∀ j,j<m→q.getD j false=(P j||(a&&(decide (j<i)&&H j)))) (hi:i<m):q.getD i false=P i:=by
 rw [hq i hi,decide_eq_false (Nat.lt_irrefl i)];cases a<;>simp
theorem zUy {P H:Nat→Bool} {a:Bool} {q:List Bool} {m i:Nat} {x:Bool} (hq:∀ j,j<m→q.getD j false=(P j||(a&&(decide (j<i)&&H j)))) (hl:q.length=m) (hi:i<m) (ha:a=true) (hx:x=(P i||H i)) (j:Nat) (hj:j<m):(q.set i x).getD j false=(P j||(a&&(decide (j<i+1)&&H j))):=by
 subst ha
 by_cases e:i=j
 ·subst e
  rw [zAs (by rw [List.length_set];omega),List.getElem_set_self,hx,decide_eq_true (Nat.lt_succ_self i),Bool.true_and,Bool.true_and]
 ·rw [zAs (by rw [List.length_set];omega),List.getElem_set_ne e,← zAs (d:=false) (by omega),hq j hj]
  by_cases h:j<i
  ·rw [decide_eq_true h,decide_eq_true (by omega:j<i+1)]
  ·rw [decide_eq_false h,decide_eq_false (by omega:¬ j<i+1)]
theorem zT4 {n:Nw} {K:List (List Bool)} {w:List Int} {h o i m:Nat} {q:List Bool} (hq:∀ j,j<m→q.getD j false=(nxP n K w h o j||(zGd n h o&&(decide (j<i)&&hld n w o j)))) (hx:zGd n h o=false∨m≤i) (j:Nat) (hj:j<m):q.getD j false=nxP n K w h (o+1) j:=by
 rw [hq j hj,zTo]
 rcases hx with hx | hx
 ·rw [hx];rfl
 ·rw [decide_eq_true (by omega:j<i),Bool.true_and]
theorem zW4 {n:Nw} {K:List (List Bool)} {w:List Int} {h:Nat} {r:List Bool} (hl:r.length=n.n.length) (hr:∀ j,j<n.n.length→r.getD j false=nxP n K w h n.h.toNat j):r=zGh n K w h:=by
 refine List.ext_getElem (by simp [zGh,hl]) fun j h1 h2=>?_
 have:=hr j (by omega)
 rw [zAs h1] at this
 rw [this]
 simp [zGh,nxB,nxP]
theorem zXy (n:Nw) (K:List (List Bool)) (w:List Int) (ho:NwOk n) (hr:RelK n K w):FG 115 [nwV n,knV K] (.own 1 ((zMw n K w).map lsB)):=by
 have hb:=ho.h
 have uH:=ho.nl
 have vg:=ho.ll
 have uP:=hr.len
 have hrw:∃ w,RelK n K w:=⟨w,hr⟩
 refine zAe Tryz.f115 ?_
 refine zAc 2<|zAa<|zAc 1<|zAa<|zAh<|zAc 1<|zAa<|zAi 0 ?_
 refine zAp (fun (h,L)=>h≤n.h.toNat∧L=(List.range h).map fun h=>zGh n K w h) (fun (h,L)=>[(5,.own 1 (L.map lsB)),(6,I (h:Nat))]) (fun (h,_)=>n.h.toNat-h) ((0:Nat),([]:List (List Bool))) ⟨by omega,rfl⟩ fun (h,L) ⟨hh,hL⟩=>?_
 have hLl:L.length=h:=by rw [hL];simp
 by_cases hhl:(h:Int)<n.h
 ·have yC:(K.getD h []).length=n.n.length:=zBA (d:=[]) hr.row h (by omega)
  refine zAh<|zAc 4<|zAa<|zAU ((↑h:Int)<n.h) (by omega)<|zAj<|zAh<|zAi 1<|zAc 3<|S_a [(2,.v (PV.sl (List.map PV.bool (K.getD h []))))] (ap (zBG [] (by omega):(List.map bls K)[h]? = some (PV.sl (List.map PV.bool (K.getD h [])))) an)<|zAd 1<|S_a [(0,.ob),(0,.ob),(0,.ob),(3,.ob)] (ap ((by exact all_map _):((List.map PV.bool (K.getD h [])).all fun x=>x.plain)=true)<|ap ((by exact all_map _):((List.map PV.bool (K.getD h [])).all fun y=>y.cells.length.beq ((fun x=>x.size) Tryz.prog.types[4])&&y.cells.all fun q=>q.oneCell)=true)<|ap ((by exact List.isEmpty_iff.2 (zMo _)):(zBq (List.map PV.bool (K.getD h []))).isEmpty=true)<|ap ((by exact zBp (by simp only [List.length_map,zzLn,zAZ]<;>omega)):(0+(List.map PV.bool (K.getD h [])).length).ble zAZ=true) an)<|zAd 1<|zAa<|zAh<|zAc 1<|zAa<|zAi 2 ?_
  refine zAp (fun (o,r)=>o≤n.h.toNat∧r.length=n.n.length∧∀ j,j<n.n.length→r.getD j false=nxP n K w h o j) (fun (o,r)=>[(7,.own 1 (r.map PV.bool)),(8,I (o:Nat))]) (fun (o,_)=>n.h.toNat-o) ((0:Nat),K.getD h []) ⟨by omega,yC,fun j _=>by simp [nxP,zHQ,kn]⟩ fun (o,r) ⟨hoo,vV,jI⟩=>?_
  by_cases ql:(o:Int)<n.h
  ·refine zAh<|zAc 4<|zAa<|zAU ((↑o:Int)<n.h) (by omega)<|zAj<|zAh<|zAi 3<|zAc 1<|zAa<|zAi 4 ?_
   refine zAp (fun (i,q)=>i≤n.n.length∧q.length=n.n.length∧∀ j,j<n.n.length→q.getD j false=(nxP n K w h o j||(zGd n h o&&(decide (j<i)&&hld n w o j)))) (fun (i,q)=>[(7,.own 1 (q.map PV.bool)),(9,I (i:Nat))]) (fun (i,_)=>n.n.length-i) ((0:Nat),r) ⟨by omega,vV,fun j hj=>by rw [jI j hj,decide_eq_false (Nat.not_lt_zero j),Bool.false_and,Bool.and_false,Bool.or_false]⟩ fun (i,q) ⟨hi,ue,hqv⟩=>?_
   clear jI
   by_cases yG:(i:Int)<n.n.length
   ·have jq:=zXt hqv (by omega)
    clear hL
    refine zAh<|zAc 2<|S_a [(0,.n q.length)] (ap (lnS PV.bool q) an)<|zAd 2<|zJv 32 ((↑i:Int)<(↑q.length:Int)) (by omega) (zAd 3<|S_a [(10,.ret (PV.bool (zGd n (↑h:Int) (↑o:Int))) [])] (ap (f114 n ((↑h:Int)) ((↑o:Int)) (by first | omega | (simp<;>omega))) an)<|zAd 1<|zAa<|zDr (zGd n (↑h:Int) (↑o:Int)) (fun k0=>(zAj<|zAh<|zAi 5<|zAf<|zAd 4<|S_a [(2,.ob),(1,.n i)] (ap ((by exact zAq (by simp only [List.length_map,zzLn]<;>omega)):decide (i<(List.map PV.bool q).length)=true)<|ap ((by simp):some (0+i)=some i) an)<|S_a [(0,.cs false ([PV.bool (q.getD i false)]))] (ap (zDM (q:=PV.own 1 (List.map PV.bool q)) (xs:=List.map PV.bool q) (x:=PV.bool (q.getD i false)) rfl (zBG false (by omega)):zAv 7 (PV.own 1 (List.map PV.bool q)) [] i 0 1=some (false,[PV.bool (q.getD i false)])) an)<|zAd 1<|zEl 46 (q.getD i false) (fun k1=>(zAd 6<|S_a [(2,.ob),(1,.n i)] (ap ((by exact zAq (by simp only [List.length_map,zzLn]<;>omega)):decide (i<(List.map PV.bool q).length)=true)<|ap ((by simp):some (0+i)=some i) an)<|S_a [(8,.root (PV.own 1 (List.map PV.bool (q.set i true))) true)] (ap (zPJ (zBG false (by omega)) zFT:zBw (PV.own 1 (List.map PV.bool q)) [] i 0 (PV.bool true).cells=some (PV.own 1 (List.map PV.bool (q.set i true)))∧zAE (PV.own 1 (List.map PV.bool q)) (PV.own 1 (List.map PV.bool (q.set i true))) []=true) an)<|zAa<|zAf<|zAd 1<|S_a [(1,.v (I (↑(i+1):Int)))] (ap (wrN i) an)<|zAd 1<|zAa ?_)) (fun k1=>(zAd 4<|S_a [(12,.ret (PV.bool (zH7 n K o i)) [])] (ap (f113 n K o i (by omega) (by omega) (by first | omega | (simp<;>omega)) (by first | omega | (simp<;>omega))) an)<|zAd 1<|S_a [(2,.ob),(1,.n i)] (ap ((by exact zAq (by simp only [List.length_map,zzLn]<;>omega)):decide (i<(List.map PV.bool q).length)=true)<|ap ((by simp):some (0+i)=some i) an)<|S_a [(8,.root (PV.own 1 (List.map PV.bool (q.set i (zH7 n K o i)))) true)] (ap (zPJ (zBG false (by omega)) zFT:zBw (PV.own 1 (List.map PV.bool q)) [] i 0 (PV.bool (zH7 n K o i)).cells=some (PV.own 1 (List.map PV.bool (q.set i (zH7 n K o i))))∧zAE (PV.own 1 (List.map PV.bool q)) (PV.own 1 (List.map PV.bool (q.set i (zH7 n K o i)))) []=true) an)<|zAa<|zAf<|zAd 1<|S_a [(1,.v (I (↑(i+1):Int)))] (ap (wrN i) an)<|zAd 1<|zAa ?_)))) (fun k0=>(zAz 4<|zAf<|zAd 1<|S_a [(1,.v (I (↑(o+1):Int)))] (ap (wrN o) an)<|zAd 1<|zAa ?_)))
    ·exact ⟨(i+1,q.set i true),⟨by omega,by rw [List.length_set];exact ue,zUy hqv ue (by omega) (by assumption) (by rw [← jq,k1];rfl)⟩,by simp only;omega,by kernel_rfl,by kernel_rfl⟩
    ·exact ⟨(i+1,q.set i (zH7 n K o i)),⟨by omega,by rw [List.length_set];exact ue,zUy hqv ue (by omega) (by assumption) (by rw [← jq,k1,zTO ho hr (by omega) (by omega)];rfl)⟩,by simp only;omega,by kernel_rfl,by kernel_rfl⟩
    ·exact ⟨(o+1,q),⟨by omega,ue,zT4 hqv (.inl (by assumption))⟩,by simp only;omega,by kernel_rfl,by kernel_rfl⟩
   ·clear hL
    refine zAh<|zAc 2<|S_a [(0,.n q.length)] (ap (lnS PV.bool q) an)<|zAd 2<|zUc 32 ((↑i:Int)<(↑q.length:Int)) (by omega) (zAd 5<|zAa<|zAW<|zAz 4<|zAf<|zAd 1<|S_a [(1,.v (I (↑(o+1):Int)))] (ap (wrN o) an)<|zAd 1<|zAa ?_)
    exact ⟨(o+1,q),⟨by omega,ue,zT4 hqv (.inr (by omega))⟩,by simp only;omega,by kernel_rfl,by kernel_rfl⟩
  ·have ho2:o=n.h.toNat:=by omega
   subst ho2
   have hrr:=zW4 vV jI
   have yq:L++[r]=(List.range (h+1)).map fun h=>zGh n K w h:=by
    rw [hL,hrr,List.range_succ,List.map_append,List.map_cons,List.map_nil]
   clear hL hrr jI
   refine zAh<|zAc 4<|zAa<|zAT ((↑n.h.toNat:Int)<n.h) (by omega)<|zAz 2<|zAf<|zAd 2<|S_a [(2,.yes)] (ap ((by exact zBs (by simp<;>omega)):(Nat.beq 0 0&&(List.map PV.bool r).length.beq (List.map PV.bool r).length)=true) an)<|S_a [(4,.ob),(0,.ob),(0,.yes),(2,.v (PV.own 1 (List.map lsB (L++[r]))))] (ap (blz (List.map lsB L))<|ap ((by exact zBp (by simp only [List.length_map,zzLn,zAZ]<;>omega)):((List.map lsB L).length + [PV.own 1 (List.map PV.bool r)].length).ble zAZ=true)<|ap ((by exact zBs (by simp<;>omega)):(0+(List.map lsB L).length).beq (List.map lsB L).length=true)<|ap ((zAM (zCh (by kernel_rfl))):PV.own 1 (List.map lsB L++[PV.own 1 (List.map PV.bool r)])=PV.own 1 (List.map lsB (L++[r]))) an)<|zAd 1<|zAa<|zAf<|zAd 1<|S_a [(1,.v (I (↑(h+1):Int)))] (ap (wrN h) an)<|zAd 1<|zAa ?_
   exact ⟨(h+1,L++[r]),⟨by omega,yq⟩,by simp only;omega,by kernel_rfl,by kernel_rfl⟩
 ·have e:h=n.h.toNat:=by omega
  subst e
  have hLe:L=zMw n K w:=hL
  clear hL
  refine zAh<|zAc 4<|zAa<|zAT ((↑n.h.toNat:Int)<n.h) (by omega)<|zAz 0<|zAc 1<|S_a [(2,.yes)] (ap ((by exact zBs (by simp<;>omega)):(Nat.beq 0 0&&(List.map lsB L).length.beq (List.map lsB L).length)=true) an)<|zAa<|zAm<|E_a [(1,.yes),(1,.v (PV.own 1 (List.map lsB L)))] (ap (blz (List.map lsB L))<|ap ((zAM zAG):PV.own 1 (List.take (List.map lsB L).length (List.drop 0 (List.map lsB L)))=PV.own 1 (List.map lsB L)) an) (PV.own 1 (List.map lsB L)) [] ?_ rfl
  rw [hLe]
end Go.Eng
set_option maxRecDepth 10000
set_option maxHeartbeats 4000000
namespace Go.Eng
open Go Go.Proofs
def zK2 (n:Nw) (K:List (List Bool)):List (List Bool):=(List.range n.h.toNat).map fun h=>(List.range n.n.length).map fun i=>kn K h i||(zHQ n h n.h.toNat).any fun o=>zH7 n K o i
theorem zO4 {n:Nw} {K:List (List Bool)} {w:List Int} (ho:NwOk n) (hr:RelK n K w):zK2 n K=zMw n K w:=by
 unfold zK2 zMw zGh nxB
 refine List.map_congr_left fun h _=>List.map_congr_left fun i hi=>?_
 congr 1
 rw [Bool.eq_iff_iff,List.any_eq_true,List.any_eq_true]
 refine exists_congr fun o=>and_congr_right fun hm=>?_
 rw [zTO ho hr (List.mem_range.1 (List.mem_filter.1 hm).1) (List.mem_range.1 hi)]
theorem f115 (n:Nw) (K:List (List Bool)) (ho:NwOk n) (hr:∃ w,RelK n K w):FG 115 [nwV n,knV K] (.own 1 ((zK2 n K).map lsB)):=by
 obtain ⟨w,hr⟩:=hr
 rw [zO4 ho hr]
 exact zXy n K w ho hr
def zGH (n:Nw) (cs:List (Int×Int)):Nat→List (List Bool)
 | 0=>zPx n cs n.h.toNat
 | k+1=>zK2 n (zGH n cs k)
theorem zIG {n:Nw} {cs:List (Int×Int)} (ho:CrW n cs):∀ k,RelK n (zGH n cs k) (zBl n cs k)
 | 0=>zVE ho
 | k+1=>by
  have ih:=zIG ho k
  show RelK n (zK2 n (zGH n cs k)) (zDH n (zBl n cs k))
  rw [zO4 ho.nw ih]
  exact zSN ho.nw ih
end Go.Eng
set_option maxRecDepth 10000
set_option maxHeartbeats 4000000
namespace Go.Eng
open Go Go.Proofs
theorem zHG {α:Type} {g:α→PV} (h:∀ x,(g x).free=true):∀ l:List α,zEE (l.map g)=true
 | []=>by simp [zEE]
 | a::l=>by simp [zEE,h a,zHG h l]
theorem zPy (K:List (List Bool)):(PV.own 1 (K.map lsB)).free=true:=by
 simp only [PV.free]
 exact zHG (fun r=>by simp only [PV.free];exact zHG (fun b=>by simp [PV.free]) r) K
theorem f95 (n:Nw) (cs:List (Int×Int)) (e:Int) (ho:CrW n cs) (he:0≤e∧e≤1000):FG 95 [nwV n,prs cs,I e] (.own 1 ((zGH n cs e.toNat).map lsB)):=by
 have hn:=ho.nw
 have hb:=hn.h
 refine zAe Tryz.f95 ?_
 refine zAc 2<|zAa<|zAc 2<|S_a [(8,.ret (PV.own 1 (List.map lsB (zPx n cs n.h.toNat))) [])] (ap (f112 n cs (by omega)) an)<|zAd 1<|zAa<|zAh<|zAc 1<|zAa<|zAi 0 ?_
 refine zAp (fun (K,i)=>i≤e.toNat∧K=zGH n cs i) (fun (K,i)=>[(7,.own 1 (K.map lsB)),(8,I (i:Nat))]) (fun (_,i)=>e.toNat-i) (zPx n cs n.h.toNat,(0:Nat)) ⟨by omega,rfl⟩ fun (K,i) ⟨hi,hK⟩=>?_
 have vV:∃ w,RelK n K w:=⟨_,hK▸zIG ho i⟩
 have uP:K.length=n.h.toNat:=by obtain ⟨_,h⟩:=vV;exact h.len
 by_cases yG:(i:Int)<e
 ·have yq:zK2 n K=zGH n cs (i+1):=by rw [hK];rfl
  clear hK
  refine zAh<|zAc 3<|zAa<|zAU ((↑i:Int)<e) (by omega)<|zAj<|zAh<|zAi 1<|zAf<|zAd 2<|S_a [(5,.ob),(0,.v (PV.sl (List.map bls K))),(2,.ret (PV.own 1 (List.map lsB (zK2 n K))) []),(1,.yes)] (ap (blz (List.map lsB K))<|ap (frC lsB bls K)<|ap (f115 n K (by omega) (by omega))<|ap (?_:(PV.own 1 (List.map lsB (zK2 n K))).free=true) an)<|zAd 1<|zAa<|zAf<|zAd 1<|S_a [(1,.v (I (↑(i+1):Int)))] (ap (wrN i) an)<|zAd 1<|zAa ?_
  ·exact zPy _
  exact ⟨(zK2 n K,i+1),⟨by omega,yq⟩,by simp only;omega,by kernel_rfl,by kernel_rfl⟩
 ·have e2:i=e.toNat:=by omega
  subst e2
  clear hi
  rw [hK]
  refine zAh<|zAc 3<|zAa<|zAT ((↑e.toNat:Int)<e) (by omega)<|zAz 0<|zAc 1<|S_a [(2,.yes)] (ap ((by exact zBs (by simp<;>omega)):(Nat.beq 0 0&&(List.map lsB (zGH n cs e.toNat)).length.beq (List.map lsB (zGH n cs e.toNat)).length)=true) an)<|zAa<|zAm<|E_a [(1,.yes),(1,.v (PV.own 1 (List.map lsB (zGH n cs e.toNat))))] (ap (blz (List.map lsB (zGH n cs e.toNat)))<|ap ((zAM zAG):PV.own 1 (List.take (List.map lsB (zGH n cs e.toNat)).length (List.drop 0 (List.map lsB (zGH n cs e.toNat))))=PV.own 1 (List.map lsB (zGH n cs e.toNat))) an) (PV.own 1 (List.map lsB (zGH n cs e.toNat))) [] rfl rfl
end Go.Eng
set_option maxRecDepth 10000
set_option maxHeartbeats 4000000
namespace Go.Eng
open Go Go.Proofs
end Go.Eng
namespace Go.Eng
open Go Go.Proofs
end Go.Eng
namespace Go.Eng
open Go Go.Proofs
end Go.Eng
namespace Go.Eng
open Go Go.Proofs
theorem zNB {p q:Nat→Bool} {k:Nat} (h:∀ i,i<k→p i=q i):zB3 p k=zB3 q k:=by
 unfold zB3
 rw [List.filter_congr fun i hi=>h i (List.mem_range.1 hi)]
end Go.Eng
namespace Go.Eng
open Go Go.Proofs
def zDL (n:Nw):Int:=if zBt n.h n.l=0 then if zCy n.n=0 then if (!n.s.all fun x=>zIv n.h x)=true then 1 else if (!n.s.all fun x=>zDc x)=true then 4 else 0 else zCy n.n else zBt n.h n.l
theorem zVL {n:Nw} (h1:(!inB n.h 1 10)=false) (h2:¬ (n.l.length:Int)>15) (h3:(!inB n.n.length 1 8)=false) (h4:(!inB n.s.length 1 6)=false):zCT n=zDL n:=by
 simp only [zCT,h1,h2,h3,h4,if_false];rfl
theorem zJk {α:Type} {p:α→Bool} {l:List α} {i:Nat} {d:α} (h:i<l.length) (hx:p (l.getD i d)=false):(l.all p)=false:=by
 rw [zAs h] at hx
 simp only [List.all_eq_false]
 exact ⟨_,List.getElem_mem h,by simp [hx]⟩
theorem zKc {α:Type} {p:α→Bool} {l:List α} {d:α} (h:∀ i,i<l.length→p (l.getD i d)=true):(l.all p)=true:=by
 simp only [List.all_eq_true]
 intro x hx
 obtain ⟨i,hi,rfl⟩:=List.getElem_of_mem hx
 have:=h i hi
 rwa [zAs hi] at this
theorem zOl {n:Nw} {i:Nat} (hi:i<n.l.length) (h:zGK n.h (n.l.getD i default)=false):zDL n=1:=by
 have:zBt n.h n.l=1:=by simp only [zBt,zJk hi h];rfl
 simp only [zDL,this];rfl
theorem zVF {n:Nw} {i:Nat} (ha:(n.l.all fun x=>zGK n.h x)=true) (hi:i<n.l.length) (h:zHo (n.l.getD i default)=false):zDL n=8:=by
 have:zBt n.h n.l=8:=by simp only [zBt,ha,zJk hi h];rfl
 simp only [zDL,this];rfl
theorem zVh {n:Nw} {i k:Nat} (ha:(n.l.all fun x=>zGK n.h x)=true) (hb:(n.l.all fun x=>zHo x)=true) (kG:k<i) (hi:i<n.l.length) (h:pr2 (n.l.getD i default)=pr2 (n.l.getD k default)):zDL n=5:=by
 have hn:¬ (n.l.map pr2).Nodup:=fun yU=>by
  have:=(List.pairwise_iff_getElem.1 yU) k i (by simp;omega) (by simp;omega) kG
  rw [List.getElem_map,List.getElem_map] at this
  rw [zAs hi,zAs (by omega)] at h
  exact this h.symm
 have:zBt n.h n.l=5:=by simp only [zBt,ha,hb,hn,if_true,if_false]
 simp only [zDL,this];rfl
theorem zUP {n:Nw} (ha:(n.l.all fun x=>zGK n.h x)=true) (hb:(n.l.all fun x=>zHo x)=true) (h:∀ i,i<n.l.length→∀ k,k<i→pr2 (n.l.getD i default)≠pr2 (n.l.getD k default)):zBt n.h n.l=0:=by
 have hn:(n.l.map pr2).Nodup:=by
  refine List.pairwise_iff_getElem.2 fun k i h1 h2 kG=>?_
  simp only [List.length_map] at h1 h2
  have:=h i h2 k kG
  rw [zAs h2,zAs h1] at this
  simp only [List.getElem_map]
  exact fun e=>this e.symm
 simp only [zBt,ha,hb,hn,if_true]
theorem zUX {n:Nw} (hl:zBt n.h n.l=0) {i:Nat} (hi:i<n.n.length) (h:inB (n.n.getD i default).1 (-1) ((i:Int)-1)=false):zDL n=1:=by
 have:zNH n.n=false:=by
  simp only [zNH,List.all_eq_false]
  exact ⟨i,List.mem_range.2 hi,by rw [h];simp⟩
 have:zCy n.n=1:=by simp only [zCy,this];rfl
 simp only [zDL,hl,this];rfl
theorem zXV {n:Nw} (h:∀ i,i<n.n.length→inB (n.n.getD i default).1 (-1) ((i:Int)-1)=true):zNH n.n=true:=by
 simp only [zNH,List.all_eq_true,List.mem_range];exact h
theorem zUz {l:List (Int×Bool)} {i:Nat} (hi:i<l.length) (hr:inB (l.getD i default).1 (-1) ((i:Int)-1)=true):zLD l i=true↔∃ k,k<i∧0≤(l.getD i default).1∧(l.getD i default).1=(l.getD k default).1:=by
 have hr:=zEc hr
 simp only [zLD,Bool.and_eq_true,decide_eq_true_eq,List.any_eq_true]
 constructor
 ·rintro ⟨h1,x,h2,h3⟩
  obtain ⟨k,hk,rfl⟩:=List.getElem_of_mem h2
  rw [List.length_take] at hk
  refine ⟨k,by omega,by omega,?_⟩
  rw [zAs (l:=l) (i:=k) (by omega)]
  rw [List.getElem_take] at h3
  exact h3.symm
 ·rintro ⟨k,h1,h2,h3⟩
  refine ⟨by omega, (l.take i)[k]'(by rw [List.length_take]; omega), List.getElem_mem _, ?_⟩
  rw [List.getElem_take,h3,zAs (l:=l) (i:=k) (by omega)]
theorem zVo {n:Nw} (hl:zBt n.h n.l=0) (hn:zNH n.n=true) {i k:Nat} (kG:k<i) (hi:i<n.n.length) (h1:(n.n.getD i default).1≥0) (h2:(n.n.getD i default).1=(n.n.getD k default).1):zDL n=5:=by
 have hr:inB (n.n.getD i default).1 (-1) ((i:Int)-1)=true:=by
  simp only [zNH,List.all_eq_true,List.mem_range] at hn;exact hn i hi
 have:(List.range n.n.length).any (zLD n.n)=true:=List.any_eq_true.2 ⟨i,List.mem_range.2 hi,(zUz hi hr).2 ⟨k,kG,h1,h2⟩⟩
 have:zCy n.n=5:=by simp only [zCy,hn,this,if_true]
 simp only [zDL,hl,this];rfl
theorem zWB {n:Nw} (hn:zNH n.n=true) (h:∀ i,i<n.n.length→∀ k,k<i→¬ ((n.n.getD i default).1≥0∧(n.n.getD i default).1=(n.n.getD k default).1)):zCy n.n=0:=by
 have:(List.range n.n.length).any (zLD n.n)=false:=by
  simp only [List.any_eq_false,List.mem_range]
  intro i hi ht
  have hr:inB (n.n.getD i default).1 (-1) ((i:Int)-1)=true:=by
   simp only [zNH,List.all_eq_true,List.mem_range] at hn;exact hn i hi
  obtain ⟨k,h1,h2,h3⟩:=(zUz hi hr).1 ht
  exact h i hi k h1 ⟨h2,h3⟩
 simp only [zCy,hn,this,if_true];rfl
theorem zU1 {n:Nw} (hl:zBt n.h n.l=0) (hn:zCy n.n=0) {s i:Nat} (hs:s<n.s.length) (hi:i<(n.s.getD s []).length) (h:inB ((n.s.getD s []).getD i 0) 0 (n.h-1)=false):zDL n=1:=by
 have:(n.s.all fun x=>zIv n.h x)=false:=zJk (d:=[]) hs (zJk (d:=0) hi h)
 simp only [zDL,hl,hn,this];rfl
theorem zVK {n:Nw} (hl:zBt n.h n.l=0) (hn:zCy n.n=0) (hs:(n.s.all fun x=>zIv n.h x)=true) {s i:Nat} (jS:s<n.s.length) (hi:i+1<(n.s.getD s []).length) (h:(n.s.getD s []).getD i 0≥(n.s.getD s []).getD (i+1) 0):zDL n=4:=by
 have h1:zDc (n.s.getD s [])=false:=by
  rw [zHq]
  simp only [zTe,List.all_eq_false,List.mem_range,decide_eq_true_eq]
  exact ⟨i,by omega,by omega⟩
 have:(n.s.all fun x=>zDc x)=false:=zJk (d:=[]) jS h1
 simp only [zDL,hl,hn,hs,this];rfl
theorem zWw {l:List Int} (h:∀ i,i+1<l.length→l.getD i 0<l.getD (i+1) 0):zDc l=true:=by
 rw [zHq]
 simp only [zTe,List.all_eq_true,List.mem_range,decide_eq_true_eq]
 exact fun i hi=>h i (by omega)
theorem zWR {n:Nw} (hl:zBt n.h n.l=0) (hn:zCy n.n=0) (hs:(n.s.all fun x=>zIv n.h x)=true) (ho:(n.s.all fun x=>zDc x)=true):zDL n=0:=by
 simp only [zDL,hl,hn,hs,ho];rfl
end Go.Eng
