/- For whatever news, cries, yT, notice and list, the law NewsPaths returns true and changes no argument: the path that is returned is one, ends at the yT and has as few jC as can be, and whether a list is a path is told as the reference tells it. -/
import Derived.Test.YtppbomajegnkeaaGreatPg
import Derived.Test.YtppbomajegnkeaaGreatPd
set_option linter.unusedVariables false
set_option linter.unusedSimpArgs false
set_option linter.unusedSectionVars false
set_option maxRecDepth 10000
set_option maxHeartbeats 4000000
namespace Go.Eng
open Go Go.Proofs
def zTs (n:Nw) (i:Nat):Bool:=decide ((zBb n).getD i 0=i) && !(n.n.getD i default).2
def zJE (p:Nat→Bool) (k:Nat):List Int:=((List.range k).filter p).map fun (i:Nat)=>(i:Int)
theorem zPx {p:Nat→Bool} {k:Nat}:zJE p (k+1)=if p k=true then zJE p k++[(k:Int)] else zJE p k:=by
 unfold zJE;rw [List.range_succ,List.filter_append,List.map_append]
 by_cases hn:p k=true
 ·rw [if_pos hn];simp [hn]
 ·rw [if_neg hn];simp [hn]
theorem zR2 {p:Nat→Bool} {k:Nat}:(zJE p k).length≤k:=by
 unfold zJE;rw [List.length_map];exact Nat.le_trans (List.length_filter_le _ _) (by simp)
theorem f86_1 (n:Nw) (ho:NwOk n):FG 86 [nwV n] (.tup [.own 1 ((zJE (zTs n) n.n.length).map I),I 0]):=by
 have jo:=ho.nl
 refine zAg Tryz.f86 ?_
 refine zAd 3<|zAa<|zAd 1<|S_a [(6,.ret (PV.tup [(zCv n (PV.own 2 []) (zUf (List.map pr2 n.l)) (zAj n) (zBb n)).box,I 0]) [])] (ap (f139_1 n (by omega)) an)<|zAc 5<|zAa<|zAf<|zAd 2<|zAa<|zAw<|zAk<|zAd 1<|zAa<|zAf<|zAd 2<|S_a [(0,.n n.n.length)] (ap (lnS ntV n.n) an)<|zAc 1<|zAa<|zAi 0 ?_
 refine zAq (fun (i,l)=>i≤n.n.length∧l=zJE (zTs n) i) (fun (i,l)=>[(6,.own 1 (l.map I)),(20,I (i:Nat))]) (fun (i,_)=>n.n.length-i) ((0:Nat),([]:List Int)) ⟨by omega,by simp [zJE]⟩ fun (i,l) ⟨hi,hl⟩=>?_
 have w5:l.length≤i:=by rw [hl];exact zR2
 by_cases yH:i<n.n.length
 ·have jI:=zPx (p:=zTs n) (k:=i)
  rw [← hl] at jI
  have jJ:zTs n i=false→l=zJE (zTs n) (i+1):=fun h=>by rw [jI,if_neg (by rw [h];simp)]
  refine zAd 1<|zAa<|zAf<|zAI ((↑i:Int)<(↑n.n.length:Int)) (by omega)<|zAk<|zAf<|zAi 1<|zAd 1<|S_a [(2,.v (PV.agg [I (n.n.getD i default).fst,PV.bool (n.n.getD i default).snd]))] (ap (zBv default (by omega):(List.map ntV n.n)[i]? = some (PV.agg [I (n.n.getD i default).fst,PV.bool (n.n.getD i default).snd])) an)<|zAc 4<|zAa<|zAd 4<|S_a [(2,.ob),(1,.v (PV.addr 4 [] 0 (14+i) none))] (ap ((by exact zAp (by omega)):decide (i<8)=true)<|ap ((zFv (by kernel_rfl)):PV.addr 4 [] 0 (14+i*(fun x=>x.size) Tryz.prog.types[3]) none=PV.addr 4 [] 0 (14+i) none) an)<|S_a [(0,.cs true ([I ((zBb n).getD i 0)]))] (ap (zC9 (q:=(PV.agg (I n.h::prs n.l::PV.sl (List.map ntV n.n)::PV.sl (List.map zAB n.s)::PV.own 2 []::PV.omap (List.map zBy (List.map pr2 n.l))::(zAO (zAj n) 8++zAO (zBb n) 8))).box) (xs:=[PV.agg (I n.h::prs n.l::PV.sl (List.map ntV n.n)::PV.sl (List.map zAB n.s)::PV.own 2 []::PV.omap (List.map zBy (List.map pr2 n.l))::(zAO (zAj n) 8++zAO (zBb n) 8))]) (x:=PV.agg (I n.h::prs n.l::PV.sl (List.map ntV n.n)::PV.sl (List.map zAB n.s)::PV.own 2 []::PV.omap (List.map zBy (List.map pr2 n.l))::(zAO (zAj n) 8++zAO (zBb n) 8))) rfl rfl (zKD (A:=I n.h::prs n.l::PV.sl (List.map ntV n.n)::PV.sl (List.map zAB n.s)::PV.own 2 []::PV.omap (List.map zBy (List.map pr2 n.l))::zAO (zAj n) 8) (B:=[]) (F:=zBb n) (m:=8) (j:=i) (by first | rfl | exact zBM (by kernel_rfl) | exact zBN (by kernel_rfl) | exact zC5 (by kernel_rfl) (by kernel_rfl) | exact zC7 (by kernel_rfl) | exact zDo (by kernel_rfl) (by kernel_rfl) | exact zC1 (by kernel_rfl) | (simp;done)) (by omega)):zAs 4 (PV.agg (I n.h::prs n.l::PV.sl (List.map ntV n.n)::PV.sl (List.map zAB n.s)::PV.own 2 []::PV.omap (List.map zBy (List.map pr2 n.l))::(zAO (zAj n) 8++zAO (zBb n) 8))).box [] 0 (14+i) 1=some (true,[I ((zBb n).getD i 0)])) an)<|zAc 3<|zD5 33 ((zBb n).getD i 0=(↑i:Int)) (fun k0=>(zAc 4<|zAa<|zDt (!(n.n.getD i default).snd) (fun k1=>(zAe<|zAc 3<|S_a [(4,.ob),(0,.ob),(0,.yes),(2,.v (PV.own 1 (List.map I (l++[(↑i:Int)]))))] (ap (blz (List.map I l))<|ap ((by exact zBz (by simp only [List.length_map,zzLn,zA5]<;>omega)):((List.map I l).length + [I (↑i:Int)].length).ble zA5=true)<|ap ((by exact zBO (by simp<;>omega)):(0+(List.map I l).length).beq (List.map I l).length=true)<|ap ((zA3 (zDG (by kernel_rfl))):PV.own 1 (List.map I l++[I (↑i:Int)])=PV.own 1 (List.map I (l++[(↑i:Int)]))) an)<|zAc 1<|zAa<|zAe<|S_a [(1,.v (I (↑(i+1):Int)))] (ap (wrN i) an)<|zAc 1<|zAa ?_)) (fun k1=>(zAk<|zAe<|S_a [(1,.v (I (↑(i+1):Int)))] (ap (wrN i) an)<|zAc 1<|zAa ?_)))) (fun k0=>(zAc 4<|zAa<|zAw<|zAk<|zAe<|S_a [(1,.v (I (↑(i+1):Int)))] (ap (wrN i) an)<|zAc 1<|zAa ?_))
  ·rw [if_pos (by simp only [zTs,decide_eq_true k0,k1];rfl)] at jI
   exact ⟨(i+1,l++[(i:Int)]),⟨by omega,jI.symm⟩,by simp only;omega,by kernel_rfl,by kernel_rfl⟩
  ·exact ⟨(i+1,l),⟨by omega,jJ (by simp only [zTs,decide_eq_true k0,k1];rfl)⟩,by simp only;omega,by kernel_rfl,by kernel_rfl⟩
  ·exact ⟨(i+1,l),⟨by omega,jJ (by simp only [zTs,decide_eq_false k0,Bool.false_and])⟩,by simp only;omega,by kernel_rfl,by kernel_rfl⟩
 ·refine zAd 1<|zAa<|zAf<|zAQ ((↑i:Int)<(↑n.n.length:Int)) (by omega)<|zAA 0<|zAd 1<|S_a [(2,.yes)] (ap ((by exact zBO (by simp<;>omega)):(Nat.beq 0 0&&(List.map I l).length.beq (List.map I l).length)=true) an)<|zAc 1<|zAa<|zAm<|E_a [(1,.yes),(1,.v (PV.own 1 (List.map I l)))] (ap (blz (List.map I l))<|ap ((zA3 zAW):PV.own 1 (List.take (List.map I l).length (List.drop 0 (List.map I l)))=PV.own 1 (List.map I l)) an) (PV.tup [PV.own 1 (List.map I l),I 0]) [] ?_ rfl
  rw [hl,show i=n.n.length by omega]
def bkL (n:Nw) (cs:List (Int×Int)) (c:Nat) (x:Int):Nat→List Int→List Int
 | 0,out=>out
 | k+1,out=>bkL n cs c x k (match (zGG n (out.getD 0 0).toNat n.h.toNat).find? fun o=>decide ((zAY n cs k).getD (o*8+c) 0=x) with | some o=>(o:Int)::out | none=>out)
abbrev zUa (S:List (List Int)):PV := .box (.own 80 (S.map hdV))
def zR4 (n:Nw) (cs:List (Int×Int)) (k:Nat):List (List Int):=(List.range k).map fun k=>zAY n cs k
theorem zMj {n:Nw} {cs:List (Int×Int)} {k:Nat}:zR4 n cs (k+1)=zR4 n cs k++[zAY n cs k]:=by
 simp only [zR4,List.range_succ,List.map_append,List.map_cons,List.map_nil]
theorem zLi {n:Nw} {cs:List (Int×Int)} {k j:Nat} (h:j<k):(zR4 n cs k).getD j []=zAY n cs j:=by
 simp [zR4,List.getD_eq_getElem?_getD,h]
theorem zVv (n:Nw) (cs:List (Int×Int)) (h:Int) (ho:NwOk n) (hh:0≤h∧h<n.h):zFX 169 [] [.ref (zDR n cs),.ref (I h)] (zJB n h.toNat n.h.toNat):=by
 obtain ⟨g,rfl⟩:∃ g:Nat,h=g:=⟨h.toNat,by omega⟩
 exact zT7 n cs g ho hh.2
theorem zKu {p:Nat→Bool}:∀ {l:List Nat} {j o:Nat},l[j]? = some o→p o=true→(∀ i,i<j→p (l.getD i 0)=false)→l.find? p=some o
 | [],j,o,h,_,_=>by cases h
 | x::l,0,o,h,hp,_=>by
  simp only [List.getElem?_cons_zero,Option.some.injEq] at h
  subst h;rw [List.find?_cons,hp]
 | x::l,j+1,o,h,hp,ha=>by
  have h0:=ha 0 (by omega)
  simp only [List.getD_cons_zero] at h0
  rw [List.find?_cons,h0]
  exact zKu (by simpa using h) hp fun i hi=>by simpa using ha (i+1) (by omega)
theorem zPC {p:Nat→Bool} {l:List Nat} (ha:∀ i,i<l.length→p (l.getD i 0)=false):l.find? p=none:=by
 rw [List.find?_eq_none]
 intro x hx
 obtain ⟨i,hi,rfl⟩:=List.getElem_of_mem hx
 have:=ha i hi
 rw [zAt hi] at this
 simp [this]
theorem f38_1 (n:Nw) (cs:List (Int×Int)) (h:Int) (x:Int) (k:Nat) (ho:CrOk n cs) (hh:0≤h∧h<n.h) (hx:0≤x∧x<n.n.length) (hk:k≤12) (jB:(zAY n cs k).getD (h.toNat*8+((zAj n).getD x.toNat 0).toNat) 0=x) (hm:∀ j,j<k→(zAY n cs j).getD (h.toNat*8+((zAj n).getD x.toNat 0).toNat) 0≠x):FG 38 [nwV n,prs cs,I h,I x] (.tup [.own 1 ((bkL n cs ((zAj n).getD x.toNat 0).toNat x k [h]).map I),I 0]):=by
 have hn:=ho.nw
 have uV:=ho.w
 have hb:=hn.h
 have jo:=hn.nl
 have hin:inB x 0 (n.n.length-1)=true:=by simp only [inB,Bool.and_eq_true,decide_eq_true_eq];omega
 have hih:inB h 0 (n.h-1)=true:=by simp only [inB,Bool.and_eq_true,decide_eq_true_eq];omega
 have gX:=zBX hn x.toNat (by omega)
 refine zAg Tryz.f38 ?_
 refine zAd 4<|zAa<|zAd 2<|S_a [(8,.ret (PV.tup [zDR n cs,I 0]) [])] (ap (f99_1 n cs (by omega)) an)<|zAc 5<|zAa<|zAf<|zAi 0<|zAd 3<|zAa<|zAw<|zAd 2<|S_a [(8,.ret (PV.bool (inB h 0 (n.h-1))) [])] (ap (f109 n h (by omega)) an)<|zAc 2<|zCn 32 (!inB h 0 (n.h-1)) (fun k1=>(zAc 6<|zAa<|zA8<|zAd 2<|zAa<|zAm<|E_a [] an (PV.tup [PV.own 1 [],I 1]) [] ?_ rfl)) (fun k1=>(zAc 2<|S_a [(8,.ret (PV.bool (inB x 0 ((↑n.n.length:Int)-1))) [])] (ap (f106 n x (by first | omega | (simp<;>omega))) an)<|zAc 3<|zAa<|zDt (!inB x 0 ((↑n.n.length:Int)-1)) (fun k2=>(zAd 2<|zAa<|zAm<|E_a [] an (PV.tup [PV.own 1 [],I 1]) [] ?_ rfl)) (fun k2=>(zAk<|zAd 4<|S_a [(0,.ob),(1,.ob),(0,.v ((I ((zAj n).getD x.toNat 0)).ref))] (ap ((by exact zAp (by omega)):decide (0≤x)=true)<|ap ((by exact zAp (by omega)):decide (x.toNat<8)=true)<|ap (zEc (F:=zAj n) (m:=8) (j:=x.toNat) (by omega):zBK (PV.agg (zAO (zAj n) 8)).ref (x.toNat*(fun x=>x.size) Tryz.prog.types[3]) none=some (I ((zAj n).getD x.toNat 0)).ref) an)<|zAc 3<|zAa<|zAd 1<|S_a [(5,.ret (hdV (zL8 n cs)) [])] (ap (f100 n cs (by omega)) an)<|zAc 3<|zAa<|zAf<|zAi 1 ?_))))
 ·rw [hih] at k1;cases k1
 ·rw [hin] at k2;cases k2
 ·generalize hc:((zAj n).getD x.toNat 0)=c at *
  refine zAq (fun (j,S)=>j≤k∧S=zR4 n cs (j+1)) (fun (j,S)=>[(13,zUa S)]) (fun (j,_)=>k-j) ((0:Nat),[zL8 n cs]) ⟨by omega,rfl⟩ fun (j,S) ⟨hj,hS⟩=>?_
  have hSl:S.length=j+1:=by rw [hS];simp [zR4]
  have qF:S.getD (S.length-1) []=zAY n cs j:=by rw [hSl,hS];exact zLi (by omega)
  have LA:(S.getD (S.length-1) []).length=80:=by rw [qF];exact zB5 j
  by_cases qm:j<k
  ·have hI:=hm j qm
   rw [← qF] at hI
   have hSS:S++[zCF n (S.getD (S.length-1) [])]=zR4 n cs (j+1+1):=by rw [zMj (k:=j+1),← hS,qF];rfl
   refine zAf<|zAf<|zAe<|S_a [(1,.v (PV.bor 13 [(0,0)] 80 0 S.length))] (ap ((by simp):PV.bor 13 [(0,0)] 80 0 (List.map hdV S).length=PV.bor 13 [(0,0)] 80 0 S.length) an)<|S_a [(1,.v (PV.bor 13 [(0,0)] 80 0 S.length))] (ap ((by simp):PV.bor 13 [(0,0)] 80 0 (List.map hdV S).length=PV.bor 13 [(0,0)] 80 0 S.length) an)<|zAc 1<|S_a [(1,.v (I (↑(S.length-1):Int)))] (ap ((zCj (by omega) (by omega)):I (IntKind.i64.wrap ((↑S.length:Int)-1))=I (↑(S.length-1):Int)) an)<|zAc 2<|S_a [(2,.ob),(1,.n (S.length-1))] (ap ((by exact zAp (by omega)):decide (S.length-1<S.length)=true)<|ap ((by simp):some (0+(S.length-1))=some (S.length-1)) an)<|S_a [(0,.ob),(1,.ob)] (ap ((by exact zAp (by omega)):decide (0≤h)=true)<|ap ((by exact zAp (by omega)):decide (h.toNat<10)=true) an)<|S_a [(0,.ob),(1,.ob)] (ap ((by exact zAp (by omega)):decide (0≤c)=true)<|ap ((by exact zAp (by omega)):decide (c.toNat<8)=true) an)<|S_a [(0,.cs true ([I ((S.getD (S.length-1) []).getD (h.toNat*8+c.toNat) 0)]))] (ap (zC9 (q:=PV.own 80 (List.map hdV S)) (xs:=List.map hdV S) (x:=PV.agg (zAO (S.getD (S.length-1) []) 80)) (zMX (xs:=[PV.own 80 (List.map hdV S)]) (x:=PV.own 80 (List.map hdV S)) (y:=PV.own 80 (List.map hdV S)) rfl rfl) (zBv [] (by omega)) (zDW (F:=S.getD (S.length-1) []) (m:=80) (j:=h.toNat*8+c.toNat) (by first | rfl | exact zBM (by kernel_rfl) | exact zBN (by kernel_rfl) | exact zC5 (by kernel_rfl) (by kernel_rfl) | exact zC7 (by kernel_rfl) | exact zDo (by kernel_rfl) (by kernel_rfl) | exact zC1 (by kernel_rfl) | (simp;done)) (by omega)):zAs 13 (PV.own 80 (List.map hdV S)).box [(0,0)] (S.length-1) (0+h.toNat*(fun x=>x.size) Tryz.prog.types[128]+c.toNat*(fun x=>x.size) Tryz.prog.types[3]) 1=some (true,[I ((S.getD (S.length-1) []).getD (h.toNat*8+c.toNat) 0)])) an)<|zAc 2<|zAa<|zEy ((S.getD (S.length-1) []).getD (h.toNat*8+c.toNat) 0=x) (by omega)<|zAk<|zAi 2<|zAf<|zAf<|zAe<|S_a [(1,.v (PV.bor 13 [(0,0)] 80 0 S.length))] (ap ((by simp):PV.bor 13 [(0,0)] 80 0 (List.map hdV S).length=PV.bor 13 [(0,0)] 80 0 S.length) an)<|zAc 2<|zAa<|zAQ ((↑S.length:Int)>12) (by omega)<|zAk<|zAe<|S_a [(1,.v (PV.bor 13 [(0,0)] 80 0 S.length))] (ap ((by simp):PV.bor 13 [(0,0)] 80 0 (List.map hdV S).length=PV.bor 13 [(0,0)] 80 0 S.length) an)<|zAc 1<|S_a [(1,.v (PV.bor 13 [(0,0)] 80 0 S.length))] (ap ((by simp):PV.bor 13 [(0,0)] 80 0 (List.map hdV S).length=PV.bor 13 [(0,0)] 80 0 S.length) an)<|S_a [(1,.v (PV.bor 13 [(0,0)] 80 0 S.length))] (ap ((by simp):PV.bor 13 [(0,0)] 80 0 (List.map hdV S).length=PV.bor 13 [(0,0)] 80 0 S.length) an)<|zAc 1<|S_a [(1,.v (I (↑(S.length-1):Int)))] (ap ((zCj (by omega) (by omega)):I (IntKind.i64.wrap ((↑S.length:Int)-1))=I (↑(S.length-1):Int)) an)<|S_a [(2,.ob),(1,.n (S.length-1))] (ap ((by exact zAp (by omega)):decide (S.length-1<S.length)=true)<|ap ((by simp):some (0+(S.length-1))=some (S.length-1)) an)<|S_a [(0,.cs true (zAO (S.getD (S.length-1) []) 80))] (ap (zC9 (q:=PV.own 80 (List.map hdV S)) (xs:=List.map hdV S) (x:=PV.agg (zAO (S.getD (S.length-1) []) 80)) (zMX (xs:=[PV.own 80 (List.map hdV S)]) (x:=PV.own 80 (List.map hdV S)) (y:=PV.own 80 (List.map hdV S)) rfl rfl) (zBv [] (by omega)):zAs 13 (PV.own 80 (List.map hdV S)).box [(0,0)] (S.length-1) 0 Tryz.prog.types[130].size=some (true,zAO (S.getD (S.length-1) []) 80)) an)<|S_a [(7,.ret (hdV (zCF n (S.getD (S.length-1) []))) [])] (ap (f101 n cs (S.getD (S.length-1) []) (by omega) (by omega)) an)<|zAc 1<|S_a [(4,.ob),(0,.ob),(0,.yes),(2,.v (PV.own 80 (List.map hdV (S++[zCF n (S.getD (S.length-1) [])]))))] (ap ((by exact zBz (by simp only [List.length_map,zzLn,zA5]<;>omega)):(0+S.length).ble (List.map hdV S).length=true)<|ap ((by exact zBz (by simp only [List.length_map,zzLn,zA5]<;>omega)):((List.map hdV S).length + [PV.agg (zAO (zCF n (S.getD (S.length-1) [])) 80)].length).ble zA5=true)<|ap ((by exact zBO (by simp<;>omega)):(0+S.length).beq (List.map hdV S).length=true)<|ap ((zA3 (zDG (by kernel_rfl))):PV.own 80 (List.map hdV S++[PV.agg (zAO (zCF n (S.getD (S.length-1) [])) 80)])=PV.own 80 (List.map hdV (S++[zCF n (S.getD (S.length-1) [])]))) an)<|zAc 1<|zAa ?_
   exact ⟨(j+1,S++[zCF n (S.getD (S.length-1) [])]),⟨by omega,hSS⟩,by simp only;omega,by kernel_rfl,by kernel_rfl⟩
  ·have e:j=k:=by omega
   subst e
   rw [← qF] at jB
   refine zAf<|zAf<|zAe<|S_a [(1,.v (PV.bor 13 [(0,0)] 80 0 S.length))] (ap ((by simp):PV.bor 13 [(0,0)] 80 0 (List.map hdV S).length=PV.bor 13 [(0,0)] 80 0 S.length) an)<|S_a [(1,.v (PV.bor 13 [(0,0)] 80 0 S.length))] (ap ((by simp):PV.bor 13 [(0,0)] 80 0 (List.map hdV S).length=PV.bor 13 [(0,0)] 80 0 S.length) an)<|zAc 1<|S_a [(1,.v (I (↑(S.length-1):Int)))] (ap ((zCj (by omega) (by omega)):I (IntKind.i64.wrap ((↑S.length:Int)-1))=I (↑(S.length-1):Int)) an)<|zAc 2<|S_a [(2,.ob),(1,.n (S.length-1))] (ap ((by exact zAp (by omega)):decide (S.length-1<S.length)=true)<|ap ((by simp):some (0+(S.length-1))=some (S.length-1)) an)<|S_a [(0,.ob),(1,.ob)] (ap ((by exact zAp (by omega)):decide (0≤h)=true)<|ap ((by exact zAp (by omega)):decide (h.toNat<10)=true) an)<|S_a [(0,.ob),(1,.ob)] (ap ((by exact zAp (by omega)):decide (0≤c)=true)<|ap ((by exact zAp (by omega)):decide (c.toNat<8)=true) an)<|S_a [(0,.cs true ([I ((S.getD (S.length-1) []).getD (h.toNat*8+c.toNat) 0)]))] (ap (zC9 (q:=PV.own 80 (List.map hdV S)) (xs:=List.map hdV S) (x:=PV.agg (zAO (S.getD (S.length-1) []) 80)) (zMX (xs:=[PV.own 80 (List.map hdV S)]) (x:=PV.own 80 (List.map hdV S)) (y:=PV.own 80 (List.map hdV S)) rfl rfl) (zBv [] (by omega)) (zDW (F:=S.getD (S.length-1) []) (m:=80) (j:=h.toNat*8+c.toNat) (by first | rfl | exact zBM (by kernel_rfl) | exact zBN (by kernel_rfl) | exact zC5 (by kernel_rfl) (by kernel_rfl) | exact zC7 (by kernel_rfl) | exact zDo (by kernel_rfl) (by kernel_rfl) | exact zC1 (by kernel_rfl) | (simp;done)) (by omega)):zAs 13 (PV.own 80 (List.map hdV S)).box [(0,0)] (S.length-1) (0+h.toNat*(fun x=>x.size) Tryz.prog.types[128]+c.toNat*(fun x=>x.size) Tryz.prog.types[3]) 1=some (true,[I ((S.getD (S.length-1) []).getD (h.toNat*8+c.toNat) 0)])) an)<|zAc 2<|zAa<|zFL ((S.getD (S.length-1) []).getD (h.toNat*8+c.toNat) 0=x) (by omega)<|zAA 1<|zAd 4<|zAa<|zAf<|zAf<|zAe<|S_a [(1,.v (PV.bor 13 [(0,0)] 80 0 S.length))] (ap ((by simp):PV.bor 13 [(0,0)] 80 0 (List.map hdV S).length=PV.bor 13 [(0,0)] 80 0 S.length) an)<|zAc 1<|S_a [(1,.v (I ((↑S.length:Int)-2)))] (ap ((zCj rfl (by omega)):I (IntKind.i64.wrap ((↑S.length:Int)-2))=I ((↑S.length:Int)-2)) an)<|zAc 2<|zAa<|zAi 3 ?_
   have hS0:∀ r:Nat,r<S.length→(S.getD r []).length=80∧S.getD r []=zAY n cs r:=fun r hr=>by
    rw [hS,zLi (by omega)];exact ⟨zB5 r,rfl⟩
   have hSm:((S.length:Nat):Int)-2=(j:Int)-1:=by omega
   generalize yN:bkL n cs c.toNat x j [h]=fin
   clear hS qF LA jB hm
   refine zAq (fun ((m:Int),(out:List Int))=>-1≤m∧m<j∧out.length≤20-m∧0<out.length∧(0≤out.getD 0 0∧out.getD 0 0<n.h)∧bkL n cs c.toNat x (m+1).toNat out=fin) (fun (m,out)=>[(14,.box (.own 1 (out.map I))),(15,.box (I m))]) (fun (m,_)=>(m+1).toNat) (((S.length:Nat):Int)-2,[h]) ⟨by omega,by omega,by simp only [List.length_cons,List.length_nil];omega,by simp,by simpa using hh,by rw [← yN];congr 1;omega⟩ fun (m,out) ⟨hm1,uk,ho1,ho2,ho3,gY⟩=>?_
   by_cases gH:0≤m
   ·have hA:=zVv n cs (out.getD 0 0) hn ho3
    obtain ⟨uo,uU⟩:=hS0 m.toNat (by omega)
    rw [show (m+1).toNat=m.toNat+1 by omega,bkL,← uU] at gY
    refine zAf<|zAd 2<|zAa<|zAI (m≥0) (by omega)<|zAk<|zAf<|zAi 4<|zVd<|zAf<|zVO (zAd 1<|S_a [(1,.v (PV.bor 14 [(0,0)] 1 0 out.length))] (ap ((by simp):PV.bor 14 [(0,0)] 1 0 (List.map I out).length=PV.bor 14 [(0,0)] 1 0 out.length) an)<|S_a [(2,.ob)] (ap ((by exact zAp (by omega)):decide (0<out.length)=true) an)<|S_a [(0,.cs false ([I (out.getD 0 0)]))] (ap (zC9 (q:=PV.own 1 (List.map I out)) (xs:=List.map I out) (x:=I (out.getD 0 0)) (zMX (xs:=[PV.own 1 (List.map I out)]) (x:=PV.own 1 (List.map I out)) (y:=PV.own 1 (List.map I out)) rfl rfl) (zBv (0) (by omega)):zAs 14 (PV.own 1 (List.map I out)).box [(0,0)] 0 0 1=some (false,[I (out.getD 0 0)])) an)<|S_a [(7,.ret (PV.func 169 [] [(zDR n cs).ref,(I (out.getD 0 0)).ref]) [])] (ap (f116 n cs (out.getD 0 0)) an)<|zAa<|zAi 5 ?_)
    refine zOG (t:=86) hA (fun i (_:Unit)=>∀ r,r<i→decide ((S.getD m.toNat []).getD ((zGG n (out.getD 0 0).toNat n.h.toNat).getD r 0*8+c.toNat) 0=x)=false) (fun _=>[]) () (fun r hr=>absurd hr (Nat.not_lt_zero r)) (fun i y _ hy hi=>?_) (fun _ hi=>?_)
    ·rw [List.getElem?_map] at hy
     obtain ⟨o,hmo,rfl⟩:=Option.map_eq_some_iff.1 hy
     have hol:o<n.h.toNat:=zQd (List.mem_of_getElem? hmo)
     refine zO8 ?_
     refine zAe<|zAc 1<|zAa ?_
     have jV:(zGG n (out.getD 0 0).toNat n.h.toNat).getD i 0=o:=by rw [List.getD_eq_getElem?_getD,hmo];rfl
     refine ⟨rfl,by kernel_rfl,?_⟩
     refine zAi 6<|zAf<|zAe<|S_a [(1,.v (PV.bor 13 [(0,0)] 80 0 S.length))] (ap ((by simp):PV.bor 13 [(0,0)] 80 0 (List.map hdV S).length=PV.bor 13 [(0,0)] 80 0 S.length) an)<|zAc 3<|S_a [(0,.ob),(1,.ob),(1,.n m.toNat)] (ap ((by exact zAp (by omega)):decide (0≤m)=true)<|ap ((by exact zAp (by omega)):decide (m.toNat<S.length)=true)<|ap ((by simp):some (0+m.toNat)=some m.toNat) an)<|S_a [(2,.ob)] (ap ((by exact zAp (by omega)):decide (o<10)=true) an)<|S_a [(0,.ob),(1,.ob)] (ap ((by exact zAp (by omega)):decide (0≤c)=true)<|ap ((by exact zAp (by omega)):decide (c.toNat<8)=true) an)<|S_a [(0,.cs true ([I ((S.getD m.toNat []).getD (o*8+c.toNat) 0)]))] (ap (zC9 (q:=PV.own 80 (List.map hdV S)) (xs:=List.map hdV S) (x:=PV.agg (zAO (S.getD m.toNat []) 80)) (zMX (xs:=[PV.own 80 (List.map hdV S)]) (x:=PV.own 80 (List.map hdV S)) (y:=PV.own 80 (List.map hdV S)) rfl rfl) (zBv [] (by omega)) (zDW (F:=S.getD m.toNat []) (m:=80) (j:=o*8+c.toNat) (by first | rfl | exact zBM (by kernel_rfl) | exact zBN (by kernel_rfl) | exact zC5 (by kernel_rfl) (by kernel_rfl) | exact zC7 (by kernel_rfl) | exact zDo (by kernel_rfl) (by kernel_rfl) | exact zC1 (by kernel_rfl) | (simp;done)) (by omega)):zAs 13 (PV.own 80 (List.map hdV S)).box [(0,0)] m.toNat (0+(↑o:Int).toNat*(fun x=>x.size) Tryz.prog.types[128]+c.toNat*(fun x=>x.size) Tryz.prog.types[3]) 1=some (true,[I ((S.getD m.toNat []).getD (o*8+c.toNat) 0)])) an)<|zAc 2<|zAa<|zCd ((S.getD m.toNat []).getD (o*8+c.toNat) 0=x) (fun k2=>(zAd 2<|S_a [(1,.v (PV.bor 14 [(0,0)] 1 0 out.length))] (ap ((by simp):PV.bor 14 [(0,0)] 1 0 (List.map I out).length=PV.bor 14 [(0,0)] 1 0 out.length) an)<|S_a [(1,.ob),(0,.vs (List.map I out)),(0,.ob),(0,.ob),(0,.ob),(3,.ob)] (ap ((by exact zBz (by simp only [List.length_map,zzLn,zA5]<;>omega)):(0+out.length).ble (List.map I out).length=true)<|ap ((by simp [zEM]):List.take out.length (List.drop 0 (List.map I out))=List.map I out)<|ap ((by exact all_map _):((List.map I out).all fun x=>x.plain)=true)<|ap ((by exact all_map _):((List.map I out).all fun y=>y.cells.length.beq ((fun x=>x.size) Tryz.prog.types[3])&&y.cells.all fun q=>q.oneCell)=true)<|ap ((by exact List.isEmpty_iff.2 (zMh _)):(zBs (List.map I out)).isEmpty=true)<|ap ((by exact zBz (by simp only [List.length_map,zzLn,zA5]<;>omega)):([I (↑o:Int)].length+(List.map I out).length).ble zA5=true) an)<|zAc 1<|zAa<|zAA 5 ?_)) (fun k2=>(zAk ?_))
     ·rw [zKu hmo (decide_eq_true (by assumption)) hi] at gY
      clear hi hmo hA
      refine ⟨by kernel_rfl,?_⟩
      refine zAf<|zAd 1<|zAa<|zAe<|zAc 2<|zAa<|zAe<|zAc 1<|S_a [(1,.v (I (m-1)))] (ap ((zCj rfl (by omega)):I (IntKind.i64.wrap (m-1))=I (m-1)) an)<|zAc 1<|zAa ?_
      exact ⟨(m-1,(o:Int)::out),⟨by omega,by omega,by simp only [List.length_cons];omega,by simp,by simp only [List.getD_cons_zero];omega,by rw [show (m-1+1).toNat=m.toNat by omega];exact gY⟩,by simp only;omega,by kernel_rfl,by kernel_rfl⟩
     ·refine ⟨by kernel_rfl,(),fun r hr=>?_,by kernel_rfl⟩
      rcases Nat.lt_succ_iff_lt_or_eq.1 hr with h | rfl
      ·exact hi r h
      ·rw [jV];exact decide_eq_false (by assumption)
    ·rw [zPC (by simpa using hi)] at gY
     clear hi hA
     show W _ _ _ _ _ _ _ _
     refine zAf<|zAd 1<|zAa<|zAe<|zAc 2<|zAa<|zAe<|zAc 1<|S_a [(1,.v (I (m-1)))] (ap ((zCj rfl (by omega)):I (IntKind.i64.wrap (m-1))=I (m-1)) an)<|zAc 1<|zAa ?_
     exact ⟨(m-1,out),⟨by omega,by omega,by omega,ho2,ho3,by rw [show (m-1+1).toNat=m.toNat by omega];exact gY⟩,by simp only;omega,by kernel_rfl,by kernel_rfl⟩
   ·have hm3:(m+1).toNat=0:=by omega
    rw [hm3,bkL] at gY
    rw [← gY]
    refine zAf<|zAd 2<|zAa<|zAQ (m≥0) (by omega)<|zAA 3<|zAf<|zAe<|S_a [(1,.v (PV.bor 14 [(0,0)] 1 0 out.length))] (ap ((by simp):PV.bor 14 [(0,0)] 1 0 (List.map I out).length=PV.bor 14 [(0,0)] 1 0 out.length) an)<|S_a [(2,.yes)] (ap ((by exact zBO (by simp<;>omega)):(Nat.beq 0 0&&out.length.beq (List.map I out).length)=true) an)<|zAc 1<|zAa<|zAm<|E_a [(1,.yes),(1,.v (PV.own 1 (List.map I out)))] (ap (blz (List.map I out))<|ap ((zA3 zAW):PV.own 1 (List.take (List.map I out).length (List.drop 0 (List.map I out)))=PV.own 1 (List.map I out)) an) (PV.tup [PV.own 1 (List.map I out),I 0]) [] rfl rfl
end Go.Eng
set_option maxRecDepth 10000
set_option maxHeartbeats 4000000
namespace Go.Eng
open Go Go.Proofs
theorem f38_2 (n:Nw) (cs:List (Int×Int)) (h:Int) (x:Int) (ho:CrOk n cs) (hh:0≤h∧h<n.h) (hx:0≤x∧x<n.n.length) (hm:∀ j,j≤12→(zAY n cs j).getD (h.toNat*8+((zAj n).getD x.toNat 0).toNat) 0≠x):FG 38 [nwV n,prs cs,I h,I x] (.tup [.own 1 [],I 6]):=by
 have hn:=ho.nw
 have uV:=ho.w
 have hb:=hn.h
 have jo:=hn.nl
 have hin:inB x 0 (n.n.length-1)=true:=by simp only [inB,Bool.and_eq_true,decide_eq_true_eq];omega
 have hih:inB h 0 (n.h-1)=true:=by simp only [inB,Bool.and_eq_true,decide_eq_true_eq];omega
 have gX:=zBX hn x.toNat (by omega)
 refine zAg Tryz.f38 ?_
 refine zAd 4<|zAa<|zAd 2<|S_a [(8,.ret (PV.tup [zDR n cs,I 0]) [])] (ap (f99_1 n cs (by omega)) an)<|zAc 5<|zAa<|zAf<|zAi 0<|zAd 3<|zAa<|zAw<|zAd 2<|S_a [(8,.ret (PV.bool (inB h 0 (n.h-1))) [])] (ap (f109 n h (by omega)) an)<|zAc 2<|zCn 32 (!inB h 0 (n.h-1)) (fun k0=>(zAc 6<|zAa<|zA8<|zAd 2<|zAa<|zAm<|E_a [] an (PV.tup [PV.own 1 [],I 1]) [] ?_ rfl)) (fun k0=>(zAc 2<|S_a [(8,.ret (PV.bool (inB x 0 ((↑n.n.length:Int)-1))) [])] (ap (f106 n x (by first | omega | (simp<;>omega))) an)<|zAc 3<|zAa<|zDt (!inB x 0 ((↑n.n.length:Int)-1)) (fun k1=>(zAd 2<|zAa<|zAm<|E_a [] an (PV.tup [PV.own 1 [],I 1]) [] ?_ rfl)) (fun k1=>(zAk<|zAd 4<|S_a [(0,.ob),(1,.ob),(0,.v ((I ((zAj n).getD x.toNat 0)).ref))] (ap ((by exact zAp (by omega)):decide (0≤x)=true)<|ap ((by exact zAp (by omega)):decide (x.toNat<8)=true)<|ap (zEc (F:=zAj n) (m:=8) (j:=x.toNat) (by omega):zBK (PV.agg (zAO (zAj n) 8)).ref (x.toNat*(fun x=>x.size) Tryz.prog.types[3]) none=some (I ((zAj n).getD x.toNat 0)).ref) an)<|zAc 3<|zAa<|zAd 1<|S_a [(5,.ret (hdV (zL8 n cs)) [])] (ap (f100 n cs (by omega)) an)<|zAc 3<|zAa<|zAf<|zAi 1 ?_))))
 ·exact absurd (by assumption:(!inB h 0 (n.h-1))=true) (by rw [hih];simp)
 ·exact absurd (by assumption:(!inB x 0 (n.n.length-1))=true) (by rw [hin];simp)
 ·generalize hc:((zAj n).getD x.toNat 0)=c at *
  refine zAq (fun (j,S)=>j≤12∧S=zR4 n cs (j+1)) (fun (j,S)=>[(13,zUa S)]) (fun (j,_)=>12-j) ((0:Nat),[zL8 n cs]) ⟨by omega,rfl⟩ fun (j,S) ⟨hj,hS⟩=>?_
  have hSl:S.length=j+1:=by rw [hS];simp [zR4]
  have qF:S.getD (S.length-1) []=zAY n cs j:=by rw [hSl,hS];exact zLi (by omega)
  have LA:(S.getD (S.length-1) []).length=80:=by rw [qF];exact zB5 j
  have hI:=hm j hj
  rw [← qF] at hI
  have hSS:S++[zCF n (S.getD (S.length-1) [])]=zR4 n cs (j+1+1):=by rw [zMj (k:=j+1),← hS,qF];rfl
  by_cases qm:j<12
  ·refine zAf<|zAf<|zAe<|S_a [(1,.v (PV.bor 13 [(0,0)] 80 0 S.length))] (ap ((by simp):PV.bor 13 [(0,0)] 80 0 (List.map hdV S).length=PV.bor 13 [(0,0)] 80 0 S.length) an)<|S_a [(1,.v (PV.bor 13 [(0,0)] 80 0 S.length))] (ap ((by simp):PV.bor 13 [(0,0)] 80 0 (List.map hdV S).length=PV.bor 13 [(0,0)] 80 0 S.length) an)<|zAc 1<|S_a [(1,.v (I (↑(S.length-1):Int)))] (ap ((zCj (by omega) (by omega)):I (IntKind.i64.wrap ((↑S.length:Int)-1))=I (↑(S.length-1):Int)) an)<|zAc 2<|S_a [(2,.ob),(1,.n (S.length-1))] (ap ((by exact zAp (by omega)):decide (S.length-1<S.length)=true)<|ap ((by simp):some (0+(S.length-1))=some (S.length-1)) an)<|S_a [(0,.ob),(1,.ob)] (ap ((by exact zAp (by omega)):decide (0≤h)=true)<|ap ((by exact zAp (by omega)):decide (h.toNat<10)=true) an)<|S_a [(0,.ob),(1,.ob)] (ap ((by exact zAp (by omega)):decide (0≤c)=true)<|ap ((by exact zAp (by omega)):decide (c.toNat<8)=true) an)<|S_a [(0,.cs true ([I ((S.getD (S.length-1) []).getD (h.toNat*8+c.toNat) 0)]))] (ap (zC9 (q:=PV.own 80 (List.map hdV S)) (xs:=List.map hdV S) (x:=PV.agg (zAO (S.getD (S.length-1) []) 80)) (zMX (xs:=[PV.own 80 (List.map hdV S)]) (x:=PV.own 80 (List.map hdV S)) (y:=PV.own 80 (List.map hdV S)) rfl rfl) (zBv [] (by omega)) (zDW (F:=S.getD (S.length-1) []) (m:=80) (j:=h.toNat*8+c.toNat) (by first | rfl | exact zBM (by kernel_rfl) | exact zBN (by kernel_rfl) | exact zC5 (by kernel_rfl) (by kernel_rfl) | exact zC7 (by kernel_rfl) | exact zDo (by kernel_rfl) (by kernel_rfl) | exact zC1 (by kernel_rfl) | (simp;done)) (by omega)):zAs 13 (PV.own 80 (List.map hdV S)).box [(0,0)] (S.length-1) (0+h.toNat*(fun x=>x.size) Tryz.prog.types[128]+c.toNat*(fun x=>x.size) Tryz.prog.types[3]) 1=some (true,[I ((S.getD (S.length-1) []).getD (h.toNat*8+c.toNat) 0)])) an)<|zAc 2<|zAa<|zEy ((S.getD (S.length-1) []).getD (h.toNat*8+c.toNat) 0=x) (by omega)<|zAk<|zAi 2<|zAf<|zAf<|zAe<|S_a [(1,.v (PV.bor 13 [(0,0)] 80 0 S.length))] (ap ((by simp):PV.bor 13 [(0,0)] 80 0 (List.map hdV S).length=PV.bor 13 [(0,0)] 80 0 S.length) an)<|zAc 2<|zAa<|zAQ ((↑S.length:Int)>12) (by omega)<|zAk<|zAe<|S_a [(1,.v (PV.bor 13 [(0,0)] 80 0 S.length))] (ap ((by simp):PV.bor 13 [(0,0)] 80 0 (List.map hdV S).length=PV.bor 13 [(0,0)] 80 0 S.length) an)<|zAc 1<|S_a [(1,.v (PV.bor 13 [(0,0)] 80 0 S.length))] (ap ((by simp):PV.bor 13 [(0,0)] 80 0 (List.map hdV S).length=PV.bor 13 [(0,0)] 80 0 S.length) an)<|S_a [(1,.v (PV.bor 13 [(0,0)] 80 0 S.length))] (ap ((by simp):PV.bor 13 [(0,0)] 80 0 (List.map hdV S).length=PV.bor 13 [(0,0)] 80 0 S.length) an)<|zAc 1<|S_a [(1,.v (I (↑(S.length-1):Int)))] (ap ((zCj (by omega) (by omega)):I (IntKind.i64.wrap ((↑S.length:Int)-1))=I (↑(S.length-1):Int)) an)<|S_a [(2,.ob),(1,.n (S.length-1))] (ap ((by exact zAp (by omega)):decide (S.length-1<S.length)=true)<|ap ((by simp):some (0+(S.length-1))=some (S.length-1)) an)<|S_a [(0,.cs true (zAO (S.getD (S.length-1) []) 80))] (ap (zC9 (q:=PV.own 80 (List.map hdV S)) (xs:=List.map hdV S) (x:=PV.agg (zAO (S.getD (S.length-1) []) 80)) (zMX (xs:=[PV.own 80 (List.map hdV S)]) (x:=PV.own 80 (List.map hdV S)) (y:=PV.own 80 (List.map hdV S)) rfl rfl) (zBv [] (by omega)):zAs 13 (PV.own 80 (List.map hdV S)).box [(0,0)] (S.length-1) 0 Tryz.prog.types[130].size=some (true,zAO (S.getD (S.length-1) []) 80)) an)<|S_a [(7,.ret (hdV (zCF n (S.getD (S.length-1) []))) [])] (ap (f101 n cs (S.getD (S.length-1) []) (by omega) (by omega)) an)<|zAc 1<|S_a [(4,.ob),(0,.ob),(0,.yes),(2,.v (PV.own 80 (List.map hdV (S++[zCF n (S.getD (S.length-1) [])]))))] (ap ((by exact zBz (by simp only [List.length_map,zzLn,zA5]<;>omega)):(0+S.length).ble (List.map hdV S).length=true)<|ap ((by exact zBz (by simp only [List.length_map,zzLn,zA5]<;>omega)):((List.map hdV S).length + [PV.agg (zAO (zCF n (S.getD (S.length-1) [])) 80)].length).ble zA5=true)<|ap ((by exact zBO (by simp<;>omega)):(0+S.length).beq (List.map hdV S).length=true)<|ap ((zA3 (zDG (by kernel_rfl))):PV.own 80 (List.map hdV S++[PV.agg (zAO (zCF n (S.getD (S.length-1) [])) 80)])=PV.own 80 (List.map hdV (S++[zCF n (S.getD (S.length-1) [])]))) an)<|zAc 1<|zAa ?_
   exact ⟨(j+1,S++[zCF n (S.getD (S.length-1) [])]),⟨by omega,hSS⟩,by simp only;omega,by kernel_rfl,by kernel_rfl⟩
  ·refine zAf<|zAf<|zAe<|S_a [(1,.v (PV.bor 13 [(0,0)] 80 0 S.length))] (ap ((by simp):PV.bor 13 [(0,0)] 80 0 (List.map hdV S).length=PV.bor 13 [(0,0)] 80 0 S.length) an)<|S_a [(1,.v (PV.bor 13 [(0,0)] 80 0 S.length))] (ap ((by simp):PV.bor 13 [(0,0)] 80 0 (List.map hdV S).length=PV.bor 13 [(0,0)] 80 0 S.length) an)<|zAc 1<|S_a [(1,.v (I (↑(S.length-1):Int)))] (ap ((zCj (by omega) (by omega)):I (IntKind.i64.wrap ((↑S.length:Int)-1))=I (↑(S.length-1):Int)) an)<|zAc 2<|S_a [(2,.ob),(1,.n (S.length-1))] (ap ((by exact zAp (by omega)):decide (S.length-1<S.length)=true)<|ap ((by simp):some (0+(S.length-1))=some (S.length-1)) an)<|S_a [(0,.ob),(1,.ob)] (ap ((by exact zAp (by omega)):decide (0≤h)=true)<|ap ((by exact zAp (by omega)):decide (h.toNat<10)=true) an)<|S_a [(0,.ob),(1,.ob)] (ap ((by exact zAp (by omega)):decide (0≤c)=true)<|ap ((by exact zAp (by omega)):decide (c.toNat<8)=true) an)<|S_a [(0,.cs true ([I ((S.getD (S.length-1) []).getD (h.toNat*8+c.toNat) 0)]))] (ap (zC9 (q:=PV.own 80 (List.map hdV S)) (xs:=List.map hdV S) (x:=PV.agg (zAO (S.getD (S.length-1) []) 80)) (zMX (xs:=[PV.own 80 (List.map hdV S)]) (x:=PV.own 80 (List.map hdV S)) (y:=PV.own 80 (List.map hdV S)) rfl rfl) (zBv [] (by omega)) (zDW (F:=S.getD (S.length-1) []) (m:=80) (j:=h.toNat*8+c.toNat) (by first | rfl | exact zBM (by kernel_rfl) | exact zBN (by kernel_rfl) | exact zC5 (by kernel_rfl) (by kernel_rfl) | exact zC7 (by kernel_rfl) | exact zDo (by kernel_rfl) (by kernel_rfl) | exact zC1 (by kernel_rfl) | (simp;done)) (by omega)):zAs 13 (PV.own 80 (List.map hdV S)).box [(0,0)] (S.length-1) (0+h.toNat*(fun x=>x.size) Tryz.prog.types[128]+c.toNat*(fun x=>x.size) Tryz.prog.types[3]) 1=some (true,[I ((S.getD (S.length-1) []).getD (h.toNat*8+c.toNat) 0)])) an)<|zAc 2<|zAa<|zEy ((S.getD (S.length-1) []).getD (h.toNat*8+c.toNat) 0=x) (by omega)<|zAk<|zAi 2<|zAf<|zAf<|zAe<|S_a [(1,.v (PV.bor 13 [(0,0)] 80 0 S.length))] (ap ((by simp):PV.bor 13 [(0,0)] 80 0 (List.map hdV S).length=PV.bor 13 [(0,0)] 80 0 S.length) an)<|zAc 2<|zAa<|zAI ((↑S.length:Int)>12) (by omega)<|zAd 2<|zAa<|zAm<|E_a [] an (PV.tup [PV.own 1 [],I 6]) [] rfl rfl
theorem f38_3 (n:Nw) (cs:List (Int×Int)) (h:Int) (x:Int) (ho:CrOk n cs) (hh:¬ (inB h 0 (n.h-1)=true∧inB x 0 (n.n.length-1)=true)):FG 38 [nwV n,prs cs,I h,I x] (.tup [.own 1 [],I 1]):=by
 have hn:=ho.nw
 have uV:=ho.w
 have hb:=hn.h
 have jo:=hn.nl
 refine zAg Tryz.f38 ?_
 refine zAd 4<|zAa<|zAd 2<|S_a [(8,.ret (PV.tup [zDR n cs,I 0]) [])] (ap (f99_1 n cs (by omega)) an)<|zAc 5<|zAa<|zAf<|zAi 0<|zAd 3<|zAa<|zAw<|zAd 2<|S_a [(8,.ret (PV.bool (inB h 0 (n.h-1))) [])] (ap (f109 n h (by omega)) an)<|zAc 2<|zCn 32 (!inB h 0 (n.h-1)) (fun k0=>(zAc 6<|zAa<|zA8<|zAd 2<|zAa<|zAm<|E_a [] an (PV.tup [PV.own 1 [],I 1]) [] rfl rfl)) (fun k0=>(zAc 2<|S_a [(8,.ret (PV.bool (inB x 0 ((↑n.n.length:Int)-1))) [])] (ap (f106 n x (by first | omega | (simp<;>omega))) an)<|zAc 3<|zAa<|zDt (!inB x 0 ((↑n.n.length:Int)-1)) (fun k1=>(zAd 2<|zAa<|zAm<|E_a [] an (PV.tup [PV.own 1 [],I 1]) [] rfl rfl)) (fun k1=>(zAk<|zAd 4<|S_a [(0,.ob),(1,.ob),(0,.v ((I ((zAj n).getD x.toNat 0)).ref))] (ap (?_:decide (0≤x)=true)<|ap (?_:decide (x.toNat<8)=true)<|ap (zEc (F:=zAj n) (m:=8) (j:=x.toNat) ?_:zBK (PV.agg (zAO (zAj n) 8)).ref (x.toNat*(fun x=>x.size) Tryz.prog.types[3]) none=some (I ((zAj n).getD x.toNat 0)).ref) an)<|zAc 3<|zAa<|zAd 1<|S_a [(5,.ret (hdV (zL8 n cs)) [])] (ap (f100 n cs (by omega)) an)<|zAc 3<|zAa<|zAf<|zAi 1 ?_))))
 all_goals exact absurd ⟨by rw [Bool.not_eq_false'] at k0;exact k0,by rw [Bool.not_eq_false'] at k1;exact k1⟩ hh
theorem f38_4 (n:Nw) (cs:List (Int×Int)) (h:Int) (x:Int) (hs:Small n) (hl:cs.length<1000000) (ho:¬ zBm n cs=0):FG 38 [nwV n,prs cs,I h,I x] (.tup [.own 1 [],I (zBm n cs)]):=by
 refine zAg Tryz.f38 ?_
 refine zAd 4<|zAa<|zAd 2<|S_a [(8,.ret (PV.tup [PV.nilp,I (zBm n cs)]) [])] (ap (f99_2 n cs (by omega) (by omega) (by omega)) an)<|zAc 5<|zAa<|zAf<|zAi 0<|zAd 3<|zAa<|zEy (zBm n cs=0) (by omega)<|zAd 3<|zAa<|zAm<|E_a [] an (PV.tup [PV.own 1 [],I (zBm n cs)]) [] rfl rfl
def zMc (n:Nw) (cs:List (Int×Int)) (l:List Int) (c:Nat) (x:Int) (i:Nat):Bool:=decide ((zAY n cs i).getD ((l.getD i 0).toNat*8+c) 0=x)&&(decide (i=0)||zDq n (l.getD (i-1) 0) (l.getD i 0))
def psB (n:Nw) (cs:List (Int×Int)) (l:List Int) (x:Int):Bool:=inB l.length 1 13&&(l.all fun y=>inB y 0 (n.h-1))&&(List.range l.length).all (zMc n cs l ((zAj n).getD x.toNat 0).toNat x)
theorem f36_1 (n:Nw) (cs:List (Int×Int)) (l:List Int) (x:Int) (ho:CrOk n cs) (hl:l.length<1000000) (hx:0≤x∧x<n.n.length):FG 36 [nwV n,prs cs,zAB l,I x] (.tup [.bool (psB n cs l x),I 0]):=by
 have hn:=ho.nw
 have uV:=ho.w
 have hb:=hn.h
 have jo:=hn.nl
 have hin:inB x 0 (n.n.length-1)=true:=by simp only [inB,Bool.and_eq_true,decide_eq_true_eq];omega
 have gX:=zBX hn x.toNat (by omega)
 refine zAg Tryz.f36 ?_
 refine zAd 3<|zAa<|zAd 2<|S_a [(8,.ret (PV.tup [zDR n cs,I 0]) [])] (ap (f99_1 n cs (by omega)) an)<|zAc 5<|zAa<|zAf<|zAi 0<|zAd 3<|zAa<|zAw<|zAd 2<|S_a [(8,.ret (PV.bool (inB x 0 ((↑n.n.length:Int)-1))) [])] (ap (f106 n x (by first | omega | (simp<;>omega))) an)<|zAc 2<|zAa<|zDt (!inB x 0 ((↑n.n.length:Int)-1)) (fun k0=>(zAd 2<|zAa<|zAm<|E_a [] an (PV.tup [PV.bool false,I 1]) [] ?_ rfl)) (fun k0=>(zAd 1<|S_a [(0,.n l.length)] (ap (lnS I l) an)<|S_a [(10,.ret (PV.bool (inB (↑l.length:Int) 1 13)) [])] (ap (f107 ((↑l.length:Int)) (1) (13)) an)<|zAc 2<|zCn 35 (!inB (↑l.length:Int) 1 13) (fun k1=>(zAc 7<|zAa<|zA8<|zAd 2<|zAa<|zAm<|E_a [] an (PV.tup [PV.bool false,I 0]) [] ?_ rfl)) (fun k1=>(zAc 3<|S_a [(7,.ret (PV.bool (l.all fun x=>inB x 0 (n.h-1))) [])] (ap (f108_1 n (by omega) l (by omega)) an)<|zAc 3<|zAa<|zDt (!l.all fun x=>inB x 0 (n.h-1)) (fun k2=>(zAd 2<|zAa<|zAm<|E_a [] an (PV.tup [PV.bool false,I 0]) [] ?_ rfl)) (fun k2=>(zAk<|zAd 1<|S_a [(5,.ret (hdV (zL8 n cs)) [])] (ap (f100 n cs (by omega)) an)<|zAc 2<|zAa<|zAf<|zAd 1<|S_a [(0,.n l.length)] (ap (lnS I l) an)<|zAc 1<|zAa<|zAi 1 ?_))))))
 ·rw [hin] at k0;cases k0
 ·rw [Bool.not_eq_true'] at k1
  simp only [psB,k1,Bool.false_and]
 ·rw [Bool.not_eq_true'] at k2
  simp only [psB,k2,Bool.and_false,Bool.false_and]
 ·rw [Bool.not_eq_false'] at k1 k2
  have hl13:=zCL k1
  have hlb:∀ y∈l,0≤y∧y<n.h:=fun y hy=>by
   have:=zCL (List.all_eq_true.1 k2 y hy);omega
  have hpb:psB n cs l x=(List.range l.length).all (zMc n cs l ((zAj n).getD x.toNat 0).toNat x):=by simp only [psB,k1,k2,Bool.true_and]
  rw [hpb]
  refine zAq (fun i=>i≤l.length∧∀ j,j<i→zMc n cs l ((zAj n).getD x.toNat 0).toNat x j=true) (fun (i:Nat)=>[(12,.box (hdV (zAY n cs i))),(46,I (i:Nat))]) (fun i=>l.length-i) (0:Nat) ⟨by omega,fun j hj=>absurd hj (Nat.not_lt_zero j)⟩ fun i ⟨hi,ha⟩=>?_
  have LA:=zB5 (n:=n) (cs:=cs) i
  by_cases yH:i<l.length
  ·have hli:=zBB (d:=(0:Int)) hlb i yH
   have yK:zMc n cs l ((zAj n).getD x.toNat 0).toNat x i=true→∀ j,j<i+1→zMc n cs l ((zAj n).getD x.toNat 0).toNat x j=true:=fun h j hj=>by
    rcases Nat.lt_succ_iff_lt_or_eq.1 hj with h2 | rfl
    ·exact ha j h2
    ·exact h
   have jJ:zMc n cs l ((zAj n).getD x.toNat 0).toNat x i=false→(List.range l.length).all (zMc n cs l ((zAj n).getD x.toNat 0).toNat x)=false:=fun h=>by
    simp only [List.all_eq_false]
    exact ⟨i,List.mem_range.2 yH,by rw [h];simp⟩
   by_cases j5:i=0
   ·refine zAd 1<|zAa<|zAf<|zAI ((↑i:Int)<(↑l.length:Int)) (by omega)<|zAk<|zAf<|zAi 2<|zAd 1<|S_a [(2,.v (I (l.getD i 0)))] (ap (zBv (0) (by omega):(List.map I l)[i]? = some (I (l.getD i 0))) an)<|zAc 3<|zAa<|zAf<|zAd 5<|S_a [(0,.ob),(1,.ob),(0,.v ((I ((zAj n).getD x.toNat 0)).ref))] (ap ((by exact zAp (by omega)):decide (0≤x)=true)<|ap ((by exact zAp (by omega)):decide (x.toNat<8)=true)<|ap (zEc (F:=zAj n) (m:=8) (j:=x.toNat) (by omega):zBK (PV.agg (zAO (zAj n) 8)).ref (x.toNat*(fun x=>x.size) Tryz.prog.types[3]) none=some (I ((zAj n).getD x.toNat 0)).ref) an)<|zAc 1<|S_a [(0,.ob),(1,.ob)] (ap ((by exact zAp (by omega)):decide (0≤l.getD i 0)=true)<|ap ((by exact zAp (by omega)):decide ((l.getD i 0).toNat<10)=true) an)<|S_a [(0,.ob),(1,.ob)] (ap ((by exact zAp (by omega)):decide (0≤(zAj n).getD x.toNat 0)=true)<|ap ((by exact zAp (by omega)):decide (((zAj n).getD x.toNat 0).toNat<8)=true) an)<|S_a [(0,.cs true ([I ((zAY n cs i).getD ((l.getD i 0).toNat*8+((zAj n).getD x.toNat 0).toNat) 0)]))] (ap (zC9 (q:=(PV.agg (zAO (zAY n cs i) 80)).box) (xs:=[PV.agg (zAO (zAY n cs i) 80)]) (x:=PV.agg (zAO (zAY n cs i) 80)) rfl rfl (zDW (F:=zAY n cs i) (m:=80) (j:=(l.getD i 0).toNat*8+((zAj n).getD x.toNat 0).toNat) (by first | rfl | exact zBM (by kernel_rfl) | exact zBN (by kernel_rfl) | exact zC5 (by kernel_rfl) (by kernel_rfl) | exact zC7 (by kernel_rfl) | exact zDo (by kernel_rfl) (by kernel_rfl) | exact zC1 (by kernel_rfl) | (simp;done)) (by omega)):zAs 12 (PV.agg (zAO (zAY n cs i) 80)).box [] 0 (0+(l.getD i 0).toNat*(fun x=>x.size) Tryz.prog.types[128]+((zAj n).getD x.toNat 0).toNat*(fun x=>x.size) Tryz.prog.types[3]) 1=some (true,[I ((zAY n cs i).getD ((l.getD i 0).toNat*8+((zAj n).getD x.toNat 0).toNat) 0)])) an)<|zAc 3<|zMB 63 ((zAY n cs i).getD ((l.getD i 0).toNat*8+((zAj n).getD x.toNat 0).toNat) 0=x) (fun k3=>(zAc 19<|zAa<|zA8<|zAd 2<|zAa<|zAm<|E_a [] an (PV.tup [PV.bool false,I 0]) [] ?_ rfl)) (fun k3=>(zAc 3<|zG0 66 ((↑i:Int)>0) (by omega) (zAc 16<|zAa<|zAw<|zAk<|zAe<|zAc 2<|S_a [(7,.ret (hdV (zCF n (zAY n cs i))) [])] (ap (f101 n cs (zAY n cs i) (by omega) (by omega)) an)<|zAc 1<|zAa<|zAe<|S_a [(1,.v (I (↑(i+1):Int)))] (ap (wrN i) an)<|zAc 1<|zAa ?_)))
    ·rw [jJ (by simp only [zMc,decide_eq_false (by assumption),Bool.false_and])]
    ·exact ⟨i+1,⟨by omega,yK (by simp only [zMc,decide_eq_true (by assumption),decide_eq_true j5];rfl)⟩,by omega,by kernel_rfl,by kernel_rfl⟩
   ·by_cases hI:zDq n (l.getD (i-1) 0) (l.getD i 0)=true
    ·have ug:pr2 (l.getD (i-1) 0,l.getD i 0)∈n.l.map pr2:=by simpa only [zDq,decide_eq_true_eq] using hI
     obtain ⟨j,hj,y6⟩:=zM7 ug
     have jB:zHg ((n.l.map pr2).map zBy) j=some (.bool true):=by
      have:j<n.l.length:=by simpa using hj
      simp [zHg,this]
     refine zAd 1<|zAa<|zAf<|zAI ((↑i:Int)<(↑l.length:Int)) (by omega)<|zAk<|zAf<|zAi 2<|zAd 1<|S_a [(2,.v (I (l.getD i 0)))] (ap (zBv (0) (by omega):(List.map I l)[i]? = some (I (l.getD i 0))) an)<|zAc 3<|zAa<|zAf<|zAd 5<|S_a [(0,.ob),(1,.ob),(0,.v ((I ((zAj n).getD x.toNat 0)).ref))] (ap ((by exact zAp (by omega)):decide (0≤x)=true)<|ap ((by exact zAp (by omega)):decide (x.toNat<8)=true)<|ap (zEc (F:=zAj n) (m:=8) (j:=x.toNat) (by omega):zBK (PV.agg (zAO (zAj n) 8)).ref (x.toNat*(fun x=>x.size) Tryz.prog.types[3]) none=some (I ((zAj n).getD x.toNat 0)).ref) an)<|zAc 1<|S_a [(0,.ob),(1,.ob)] (ap ((by exact zAp (by omega)):decide (0≤l.getD i 0)=true)<|ap ((by exact zAp (by omega)):decide ((l.getD i 0).toNat<10)=true) an)<|S_a [(0,.ob),(1,.ob)] (ap ((by exact zAp (by omega)):decide (0≤(zAj n).getD x.toNat 0)=true)<|ap ((by exact zAp (by omega)):decide (((zAj n).getD x.toNat 0).toNat<8)=true) an)<|S_a [(0,.cs true ([I ((zAY n cs i).getD ((l.getD i 0).toNat*8+((zAj n).getD x.toNat 0).toNat) 0)]))] (ap (zC9 (q:=(PV.agg (zAO (zAY n cs i) 80)).box) (xs:=[PV.agg (zAO (zAY n cs i) 80)]) (x:=PV.agg (zAO (zAY n cs i) 80)) rfl rfl (zDW (F:=zAY n cs i) (m:=80) (j:=(l.getD i 0).toNat*8+((zAj n).getD x.toNat 0).toNat) (by first | rfl | exact zBM (by kernel_rfl) | exact zBN (by kernel_rfl) | exact zC5 (by kernel_rfl) (by kernel_rfl) | exact zC7 (by kernel_rfl) | exact zDo (by kernel_rfl) (by kernel_rfl) | exact zC1 (by kernel_rfl) | (simp;done)) (by omega)):zAs 12 (PV.agg (zAO (zAY n cs i) 80)).box [] 0 (0+(l.getD i 0).toNat*(fun x=>x.size) Tryz.prog.types[128]+((zAj n).getD x.toNat 0).toNat*(fun x=>x.size) Tryz.prog.types[3]) 1=some (true,[I ((zAY n cs i).getD ((l.getD i 0).toNat*8+((zAj n).getD x.toNat 0).toNat) 0)])) an)<|zAc 3<|zMB 63 ((zAY n cs i).getD ((l.getD i 0).toNat*8+((zAj n).getD x.toNat 0).toNat) 0=x) (fun k3=>(zAc 19<|zAa<|zA8<|zAd 2<|zAa<|zAm<|E_a [] an (PV.tup [PV.bool false,I 0]) [] ?_ rfl)) (fun k3=>(zAc 3<|zBL 66 ((↑i:Int)>0) (by omega) (zAc 6<|S_a [(1,.v (I (↑(i-1):Int)))] (ap ((zCj (by omega) (by omega)):I (IntKind.i64.wrap ((↑i:Int)-1))=I (↑(i-1):Int)) an)<|S_a [(2,.v (I (l.getD (i-1) 0)))] (ap (zBv (0) (by omega):(List.map I l)[i-1]? = some (I (l.getD (i-1) 0))) an)<|zAc 3<|S_a [(6,.ret (prV (pr2 (l.getD (i-1) 0,l.getD i 0))) [])] (ap (f110 ((l.getD (i-1) 0,l.getD i 0))) an)<|S_a [(2,.ix (some j)),(0,.v (PV.bool true))] (ap y6<|ap (jB:zHg (List.map zBy (List.map pr2 n.l)) j=some (PV.bool true)) an)<|zAc 3<|zAa<|zAw<|zAk<|zAe<|zAc 2<|S_a [(7,.ret (hdV (zCF n (zAY n cs i))) [])] (ap (f101 n cs (zAY n cs i) (by omega) (by omega)) an)<|zAc 1<|zAa<|zAe<|S_a [(1,.v (I (↑(i+1):Int)))] (ap (wrN i) an)<|zAc 1<|zAa ?_)))
     ·rw [jJ (by simp only [zMc,decide_eq_false (by assumption),Bool.false_and])]
     ·exact ⟨i+1,⟨by omega,yK (by simp only [zMc,decide_eq_true (by assumption),hI,Bool.or_true];rfl)⟩,by omega,by kernel_rfl,by kernel_rfl⟩
    ·have ug:pr2 (l.getD (i-1) 0,l.getD i 0)∉n.l.map pr2:=by simpa only [zDq,decide_eq_true_eq] using hI
     have y6:=zIh ug
     rw [Bool.not_eq_true] at hI
     refine zAd 1<|zAa<|zAf<|zAI ((↑i:Int)<(↑l.length:Int)) (by omega)<|zAk<|zAf<|zAi 2<|zAd 1<|S_a [(2,.v (I (l.getD i 0)))] (ap (zBv (0) (by omega):(List.map I l)[i]? = some (I (l.getD i 0))) an)<|zAc 3<|zAa<|zAf<|zAd 5<|S_a [(0,.ob),(1,.ob),(0,.v ((I ((zAj n).getD x.toNat 0)).ref))] (ap ((by exact zAp (by omega)):decide (0≤x)=true)<|ap ((by exact zAp (by omega)):decide (x.toNat<8)=true)<|ap (zEc (F:=zAj n) (m:=8) (j:=x.toNat) (by omega):zBK (PV.agg (zAO (zAj n) 8)).ref (x.toNat*(fun x=>x.size) Tryz.prog.types[3]) none=some (I ((zAj n).getD x.toNat 0)).ref) an)<|zAc 1<|S_a [(0,.ob),(1,.ob)] (ap ((by exact zAp (by omega)):decide (0≤l.getD i 0)=true)<|ap ((by exact zAp (by omega)):decide ((l.getD i 0).toNat<10)=true) an)<|S_a [(0,.ob),(1,.ob)] (ap ((by exact zAp (by omega)):decide (0≤(zAj n).getD x.toNat 0)=true)<|ap ((by exact zAp (by omega)):decide (((zAj n).getD x.toNat 0).toNat<8)=true) an)<|S_a [(0,.cs true ([I ((zAY n cs i).getD ((l.getD i 0).toNat*8+((zAj n).getD x.toNat 0).toNat) 0)]))] (ap (zC9 (q:=(PV.agg (zAO (zAY n cs i) 80)).box) (xs:=[PV.agg (zAO (zAY n cs i) 80)]) (x:=PV.agg (zAO (zAY n cs i) 80)) rfl rfl (zDW (F:=zAY n cs i) (m:=80) (j:=(l.getD i 0).toNat*8+((zAj n).getD x.toNat 0).toNat) (by first | rfl | exact zBM (by kernel_rfl) | exact zBN (by kernel_rfl) | exact zC5 (by kernel_rfl) (by kernel_rfl) | exact zC7 (by kernel_rfl) | exact zDo (by kernel_rfl) (by kernel_rfl) | exact zC1 (by kernel_rfl) | (simp;done)) (by omega)):zAs 12 (PV.agg (zAO (zAY n cs i) 80)).box [] 0 (0+(l.getD i 0).toNat*(fun x=>x.size) Tryz.prog.types[128]+((zAj n).getD x.toNat 0).toNat*(fun x=>x.size) Tryz.prog.types[3]) 1=some (true,[I ((zAY n cs i).getD ((l.getD i 0).toNat*8+((zAj n).getD x.toNat 0).toNat) 0)])) an)<|zAc 3<|zMB 63 ((zAY n cs i).getD ((l.getD i 0).toNat*8+((zAj n).getD x.toNat 0).toNat) 0=x) (fun k3=>(zAc 19<|zAa<|zA8<|zAd 2<|zAa<|zAm<|E_a [] an (PV.tup [PV.bool false,I 0]) [] ?_ rfl)) (fun k3=>(zAc 3<|zBL 66 ((↑i:Int)>0) (by omega) (zAc 6<|S_a [(1,.v (I (↑(i-1):Int)))] (ap ((zCj (by omega) (by omega)):I (IntKind.i64.wrap ((↑i:Int)-1))=I (↑(i-1):Int)) an)<|S_a [(2,.v (I (l.getD (i-1) 0)))] (ap (zBv (0) (by omega):(List.map I l)[i-1]? = some (I (l.getD (i-1) 0))) an)<|zAc 3<|S_a [(6,.ret (prV (pr2 (l.getD (i-1) 0,l.getD i 0))) [])] (ap (f110 ((l.getD (i-1) 0,l.getD i 0))) an)<|S_a [(2,.ix none)] (ap y6 an)<|zAc 3<|zAa<|zA8<|zAd 2<|zAa<|zAm<|E_a [] an (PV.tup [PV.bool false,I 0]) [] ?_ rfl)))
     ·rw [jJ (by simp only [zMc,decide_eq_false (by assumption),Bool.false_and])]
     ·rw [jJ (by simp only [zMc,hI,decide_eq_false j5,Bool.or_false,Bool.and_false])]
  ·refine zAd 1<|zAa<|zAf<|zAQ ((↑i:Int)<(↑l.length:Int)) (by omega)<|zAA 1<|zAd 2<|zAa<|zAm<|E_a [] an (PV.tup [PV.bool true,I 0]) [] ?_ rfl
   have:(List.range l.length).all (zMc n cs l ((zAj n).getD x.toNat 0).toNat x)=true:=by
    simp only [List.all_eq_true,List.mem_range]
    exact fun j hj=>ha j (by omega)
   rw [this]
theorem f36_2 (n:Nw) (cs:List (Int×Int)) (l:List Int) (x:Int) (ho:CrOk n cs) (hx:inB x 0 (n.n.length-1)=false):FG 36 [nwV n,prs cs,zAB l,I x] (.tup [.bool false,I 1]):=by
 have jo:=ho.nw.nl
 have hb:=ho.nw.h
 refine zAg Tryz.f36 ?_
 refine zAd 3<|zAa<|zAd 2<|S_a [(8,.ret (PV.tup [zDR n cs,I 0]) [])] (ap (f99_1 n cs (by omega)) an)<|zAc 5<|zAa<|zAf<|zAi 0<|zAd 3<|zAa<|zAw<|zAd 2<|S_a [(8,.ret (PV.bool (inB x 0 ((↑n.n.length:Int)-1))) [])] (ap (f106 n x (by first | omega | (simp<;>omega))) an)<|zAc 2<|zAa<|zDt (!inB x 0 ((↑n.n.length:Int)-1)) (fun k0=>(zAd 2<|zAa<|zAm<|E_a [] an (PV.tup [PV.bool false,I 1]) [] rfl rfl)) (fun k0=>(zAd 1<|S_a [(0,.n l.length)] (ap (lnS I l) an)<|S_a [(10,.ret (PV.bool (inB (↑l.length:Int) 1 13)) [])] (ap (f107 ((↑l.length:Int)) (1) (13)) an)<|zAc 2<|zCn 35 (!inB (↑l.length:Int) 1 13) (fun k1=>(zAc 7<|zAa<|zA8<|zAd 2<|zAa<|zAm<|E_a [] an (PV.tup [PV.bool false,I 0]) [] ?_ rfl)) (fun k1=>(zAc 3<|S_a [(7,.ret (PV.bool (l.all fun x=>inB x 0 (n.h-1))) [])] (ap (f108_1 n (by omega) l ?_) an)<|zAc 3<|zAa<|zDt (!l.all fun x=>inB x 0 (n.h-1)) (fun k2=>(zAd 2<|zAa<|zAm<|E_a [] an (PV.tup [PV.bool false,I 0]) [] ?_ rfl)) (fun k2=>(zAk<|zAd 1<|S_a [(5,.ret (hdV (zL8 n cs)) [])] (ap (f100 n cs ?_) an)<|zAc 2<|zAa<|zAf<|zAd 1<|S_a [(0,.n l.length)] (ap (lnS I l) an)<|zAc 1<|zAa<|zAi 1 ?_))))))
 all_goals (rw [hx] at k0;cases k0)
theorem f36_3 (n:Nw) (cs:List (Int×Int)) (l:List Int) (x:Int) (hs:Small n) (hl:cs.length<1000000) (ho:¬ zBm n cs=0):FG 36 [nwV n,prs cs,zAB l,I x] (.tup [.bool false,I (zBm n cs)]):=by
 refine zAg Tryz.f36 ?_
 refine zAd 3<|zAa<|zAd 2<|S_a [(8,.ret (PV.tup [PV.nilp,I (zBm n cs)]) [])] (ap (f99_2 n cs (by omega) (by omega) (by omega)) an)<|zAc 5<|zAa<|zAf<|zAi 0<|zAd 3<|zAa<|zEy (zBm n cs=0) (by omega)<|zAd 3<|zAa<|zAm<|E_a [] an (PV.tup [PV.bool false,I (zBm n cs)]) [] rfl rfl
end Go.Eng
set_option maxRecDepth 100000
set_option maxHeartbeats 4000000
namespace Go.Eng
open Go Go.Proofs
theorem zUF:FG 83 [] (.tup [nwO zDX,.own 2 (zFk.map prV)]):=zDp.closed 20
theorem zSY:FG 22 [nwV zDX,prs zFk,I 1] (.tup [.own 2 [.agg [I 2,I 0],.agg [I 3,I 0]],I 0]):=by
 have:=f22_1 zDX zFk 1 (zUt (by decide +kernel))
 rw [zOA] at this;exact this
theorem zNl:FG 29 [nwV zDX,prs zFk] (.tup [I 3,I 0]):=f29_1 zDX zFk 3 zKm (by decide) (by decide +kernel) (by decide +kernel)
theorem zTG:FG 38 [nwV zDX,prs zFk,I 2,I 0] (.tup [.own 1 [I 3,I 2],I 0]):=by
 have:=f38_1 zDX zFk 2 0 1 zKm (by decide) (by decide) (by decide) (by decide +kernel) (by decide +kernel)
 rw [show bkL zDX zFk ((zAj zDX).getD (0:Int).toNat 0).toNat 0 1 [2]=[3,2] from by decide +kernel] at this;exact this
theorem zWP:FG 38 [nwV zDX,prs zFk,I 1,I 0] (.tup [.own 1 [],I 6]):=f38_2 zDX zFk 1 0 zKm (by decide) (by decide) (by decide +kernel)
theorem zRy:FG 31 [nwV zDX,prs zFk] (.tup [I 3,I 0]):=by
 have:=f31_1 zDX zFk zKm
 rw [if_pos (show zBW zDX (zAY zDX zFk 12)=[] from by decide +kernel),if_pos (show zBW zDX (zAY zDX zFk 12)=[] from by decide +kernel),show zUK zDX zFk 12=3 from by decide +kernel] at this;exact this
theorem zPs:FG 26 [nwV zDX,prs zFk,I 0] (.tup [.own 1 [I 3],I 0]):=by
 have:=f26_1 zDX zFk 0 (zUt (by decide +kernel))
 rw [show zGK (msl zDX (zBW zDX (zAY zDX zFk (0:Int).toNat)))=[3] from by decide +kernel] at this;exact this
theorem zRP:FG 86 [nwV zDX] (.tup [.own 1 [],I 0]):=by
 have:=f86_1 zDX zUg
 rw [show zJE (zTs zDX) zDX.n.length=[] from by decide +kernel] at this;exact this
theorem f17:FG 17 [] (.bool true):=by
 have h1:=zUF
 have h2:=zSY
 have h3:=zNl
 have h4:=zTG
 have h5:=zWP
 have h6:=zPH
 have h7:=zRy
 have h8:=zPs
 have h9:=zRP
 have l1:FG 78 [.sl [.agg [I 2,I 0],.agg [I 3,I 0]],.sl [.agg [I 2,I 0],.agg [I 3,I 0]]] (.bool true):=f78 [(2,0),(3,0)] [(2,0),(3,0)] (by decide)
 have l2:FG 28 [.sl [I 3,I 2],.sl [I 3,I 2]] (.bool true):=f28 [3,2] [3,2] (by decide)
 have l3:FG 34 [.sl [.agg [I 1,I 1]],.sl [.agg [I 1,I 1]]] (.bool true):=f34 [(1,1)] [(1,1)] (by decide)
 have l4:FG 28 [.sl [I 3],.sl [I 3]] (.bool true):=f28 [3] [3] (by decide)
 refine zAg Tryz.f17 ?_
 refine zAd 1<|zAa<|zAf<|zAe<|S_a [(4,.ret (PV.tup [nwO zDX,PV.own 2 (List.map prV zFk)]) [])] (ap h1 an)<|zAc 6<|zAa<|zAd 2<|S_a [(21,.ret (PV.tup [PV.own 2 [PV.agg [I 2,I 0],PV.agg [I 3,I 0]],I 0]) [])] (ap h2 an)<|zAc 5<|zAa<|zAd 2<|S_a [(19,.ret (PV.tup [I 3,I 0]) [])] (ap h3 an)<|zAc 5<|zAa<|zAd 2<|S_a [(23,.ret (PV.tup [PV.own 1 [I 3,I 2],I 0]) [])] (ap h4 an)<|zAc 5<|zAa<|zAd 2<|S_a [(23,.ret (PV.tup [PV.own 1 [],I 6]) [])] (ap h5 an)<|zAc 5<|zAa<|zAf<|zAd 19<|S_a [(10,.ret (PV.bool true) [])] (ap l1 an)<|zAc 9<|S_a [(10,.ret (PV.bool true) [])] (ap l2 an)<|zAc 2<|zAa<|zAw<|zAk<|zAd 3<|S_a [(24,.ret (PV.tup [PV.own 2 [PV.agg [I 1,I 1]],I 0]) [])] (ap h6 an)<|zAc 5<|zAa<|zAd 2<|S_a [(19,.ret (PV.tup [I 3,I 0]) [])] (ap h7 an)<|zAc 5<|zAa<|zAd 2<|S_a [(21,.ret (PV.tup [PV.own 1 [I 3],I 0]) [])] (ap h8 an)<|zAc 5<|zAa<|zAd 1<|S_a [(16,.ret (PV.tup [PV.own 1 [],I 0]) [])] (ap h9 an)<|zAc 5<|zAa<|zAd 18<|S_a [(10,.ret (PV.bool true) [])] (ap l3 an)<|zAc 8<|S_a [(10,.ret (PV.bool true) [])] (ap l4 an)<|zAc 3<|zAc 4<|zAa<|zAm<|E_a [] an (PV.bool true) [] rfl rfl
end Go.Eng
namespace Go.Eng
open Go Go.Proofs
theorem zGM {n:Nw} (ho:NwOk n) (j:Nat):∀ i,j<i→i≤n.n.length→(zN6 n.n i).getD j 0=(zN6 n.n (j+1)).getD j 0
 | 0,h,_=>absurd h (Nat.not_lt_zero j)
 | i + 1,h,hi=>by
  have h8:=ho.nl.2
  by_cases hj:j=i
  ·subst hj;rfl
  ·rw [zN6,zI1 (zGX i) (by omega) (ho.na i (by omega)),if_neg hj]
   exact zGM ho j i (by omega) (by omega)
theorem zLH {n:Nw} (ho:NwOk n) {i:Nat} (hi:i<n.n.length):(zAj n).getD i 0=if (n.n.getD i default).1 = -1 then (i:Int) else (zAj n).getD (n.n.getD i default).1.toNat 0:=by
 have h8:=ho.nl.2
 have ha:=ho.na i hi
 unfold zAj
 rw [zGM ho i n.n.length hi (Nat.le_refl _),zN6,zI1 (zGX i) (by omega) ha,if_pos rfl]
 split
 ·rfl
 ·rename_i hI
  rw [zGM ho (n.n.getD i default).1.toNat i (by omega) (by omega),zGM ho (n.n.getD i default).1.toNat n.n.length (by omega) (Nat.le_refl _)]
def chn (n:Nw) (i j:Nat):Prop:=(zAj n).getD i 0=(zAj n).getD j 0
theorem zOK {n:Nw} (ho:NwOk n):∀ (j i:Nat),i<j→j<n.n.length→chn n i j→∃ k,i<k∧k≤j∧k<n.n.length∧(n.n.getD k default).1=i∧chn n k j:=by
 intro j
 induction j using Nat.strongRecOn with
 | ind j ih =>
  intro i ql hj hc
  have ha:=ho.na j hj
  have hr:=zLH ho hj
  have uS:=zBX ho i (by omega)
  by_cases h:(n.n.getD j default).1 = -1
  ·rw [if_pos h] at hr
   unfold chn at hc
   omega
  ·rw [if_neg h] at hr
   by_cases he:(n.n.getD j default).1=(i:Int)
   ·exact ⟨j,ql,Nat.le_refl _,hj,he,rfl⟩
   ·by_cases yI:(i:Int)<(n.n.getD j default).1
    ·obtain ⟨k,h1,h2,h3,h4,h5⟩:=ih (n.n.getD j default).1.toNat (by omega) i (by omega) (by omega) (by unfold chn at hc ⊢;rw [hc,hr])
     exact ⟨k,h1,by omega,h3,h4,by unfold chn at h5 ⊢;rw [h5,hr]⟩
    ·
     exfalso
     obtain ⟨k,h1,h2,h3,h4,_⟩:=ih i ql (n.n.getD j default).1.toNat (by omega) (by omega) (by unfold chn at hc ⊢;rw [← hr,hc])
     exact ho.nd j k (by omega) hj h (by rw [h4];omega)
end Go.Eng
set_option maxRecDepth 10000
set_option maxHeartbeats 4000000
namespace Go.Eng
open Go Go.Proofs
def zNi (n:Nw) (x:Int):Int:=zEO (fun y=>decide (y.1=x)) n.n
theorem f143 (n:Nw) (x:Int) (hl:n.n.length<1000000):FG 143 [nwV n,I x] (I (zNi n x)):=by
 refine zAg Tryz.f143 ?_
 refine zAd 2<|zAa<|zAf<|zAd 1<|zAa<|zAi 0 ?_
 refine zAq (fun i=>i≤n.n.length∧∀ j,j<i→decide ((n.n.getD j default).1=x)=false) (fun (i:Nat)=>[(5,I (i:Nat))]) (fun i=>n.n.length-i) (0:Nat) ⟨by omega,fun j hj=>absurd hj (Nat.not_lt_zero j)⟩ fun i ⟨hi,ha⟩=>?_
 refine zAf<|zAd 3<|S_a [(0,.n n.n.length)] (ap (lnS ntV n.n) an)<|zAc 1<|zAa<|zCd ((↑i:Int)<(↑n.n.length:Int)) (fun k0=>(zAk<|zAf<|zAi 1<|zAd 3<|S_a [(2,.v (PV.agg [I (n.n.getD i default).fst,PV.bool (n.n.getD i default).snd]))] (ap (zBv default (by omega):(List.map ntV n.n)[i]? = some (PV.agg [I (n.n.getD i default).fst,PV.bool (n.n.getD i default).snd])) an)<|zAc 4<|zAa<|zCd ((n.n.getD i default).fst=x) (fun k1=>(zAd 2<|zAa<|zAm<|E_a [] an (I (↑i:Int)) [] ?_ rfl)) (fun k1=>(zAk<|zAe<|zAc 1<|S_a [(1,.v (I (↑(i+1):Int)))] (ap (wrN i) an)<|zAc 1<|zAa ?_)))) (fun k0=>(zAA 0<|zAd 1<|zAa<|zAm<|E_a [] an (I (-1)) [] ?_ rfl))
 ·rw [zNi,zB0 (i:=i) (by omega) (fun j hj=>by rw [← zAt (d:=default)];exact ha j hj) (by rw [← zAt (d:=default)];exact decide_eq_true (by assumption))]
 ·refine ⟨i+1,⟨by omega,fun j hj=>?_⟩,by omega,by kernel_rfl,by kernel_rfl⟩
  rcases Nat.lt_succ_iff_lt_or_eq.1 hj with h | rfl
  ·exact ha j h
  ·exact decide_eq_false (by assumption)
 ·rw [zNi,zCl fun j hj=>by rw [← zAt (d:=default)];exact ha j (by omega)]
def zT4 (a b:Int) (x:Int×Int):Bool:=decide (x.1=a∧x.2=b∨x.1=b∧x.2=a)
def zQb (n:Nw) (a b:Int):Bool:=n.l.any (zT4 a b)
theorem zO2 {a b:Int} {x:Int×Int}:pr2 x=pr2 (a,b)↔x.1=a∧x.2=b∨x.1=b∧x.2=a:=by
 obtain ⟨c,d⟩:=x
 simp only [pr2,Prod.mk.injEq]
 constructor
 ·rintro ⟨h1,h2⟩
  repeat' split at h1
  all_goals (repeat' split at h2)
  all_goals omega
 ·intro h
  constructor
  ·repeat' split
   all_goals omega
  ·repeat' split
   all_goals omega
theorem zVq {n:Nw} {a b:Int}:zQb n a b=zDq n a b:=by
 rw [Bool.eq_iff_iff]
 simp only [zQb,zDq,List.any_eq_true,zT4,decide_eq_true_eq,List.mem_map]
 constructor
 ·rintro ⟨x,hx,h⟩;exact ⟨x,hx,zO2.2 h⟩
 ·rintro ⟨x,hx,h⟩;exact ⟨x,hx,zO2.1 h⟩
theorem f114 (n:Nw) (a b:Int) (hl:n.l.length<1000000):FG 114 [nwV n,I a,I b] (.bool (zDq n a b)):=by
 rw [← zVq]
 refine zAg Tryz.f114 ?_
 refine zAd 2<|zAa<|zAf<|zAd 1<|zAa<|zAi 0 ?_
 refine zAq (fun i=>i≤n.l.length∧∀ j,j<i→zT4 a b (n.l.getD j default)=false) (fun (i:Nat)=>[(7,I (i:Nat))]) (fun i=>n.l.length-i) (0:Nat) ⟨by omega,fun j hj=>absurd hj (Nat.not_lt_zero j)⟩ fun i ⟨hi,ha⟩=>?_
 by_cases yH:i<n.l.length
 ·have yK:zT4 a b (n.l.getD i default)=false→∀ j,j<i+1→zT4 a b (n.l.getD j default)=false:=fun h j hj=>by
   rcases Nat.lt_succ_iff_lt_or_eq.1 hj with h2 | rfl
   ·exact ha j h2
   ·exact h
  have wL:zT4 a b (n.l.getD i default)=true→zQb n a b=true:=fun h=>by
   rw [zAt yH] at h
   exact List.any_eq_true.2 ⟨_,List.getElem_mem yH,h⟩
  clear ha
  refine zAf<|zAd 3<|S_a [(0,.n n.l.length)] (ap (lnS prV n.l) an)<|zAc 1<|zAa<|zAI ((↑i:Int)<(↑n.l.length:Int)) (by omega)<|zAk<|zAf<|zAi 1<|zAd 3<|S_a [(2,.v (PV.agg [I (n.l.getD i default).fst,I (n.l.getD i default).snd]))] (ap (zBv default (by omega):(List.map prV n.l)[i]? = some (PV.agg [I (n.l.getD i default).fst,I (n.l.getD i default).snd])) an)<|zAc 3<|zAa<|zAd 1<|zAc 4<|zD5 25 ((n.l.getD i default).fst=a) (fun k0=>(zAc 1<|zAc 5<|zD5 31 ((n.l.getD i default).snd=b) (fun k1=>(zAc 11<|zAa<|zA8<|zAd 1<|zAa<|zAm<|E_a [] an (PV.bool true) [] ?_ rfl)) (fun k1=>(zAc 1<|zAc 4<|zD5 36 ((n.l.getD i default).fst=b) (fun k2=>(zAc 1<|zAc 5<|zAa<|zAQ ((n.l.getD i default).snd=a) (by omega)<|zAk<|zAe<|zAc 1<|S_a [(1,.v (I (↑(i+1):Int)))] (ap (wrN i) an)<|zAc 1<|zAa ?_)) (fun k2=>(zAc 6<|zAa<|zAw<|zAk<|zAe<|zAc 1<|S_a [(1,.v (I (↑(i+1):Int)))] (ap (wrN i) an)<|zAc 1<|zAa ?_)))))) (fun k0=>(zAc 6<|zAc 1<|zAc 4<|zD5 36 ((n.l.getD i default).fst=b) (fun k3=>(zAc 1<|zAc 5<|zAa<|zCd ((n.l.getD i default).snd=a) (fun k4=>(zAd 1<|zAa<|zAm<|E_a [] an (PV.bool true) [] ?_ rfl)) (fun k4=>(zAk<|zAe<|zAc 1<|S_a [(1,.v (I (↑(i+1):Int)))] (ap (wrN i) an)<|zAc 1<|zAa ?_)))) (fun k3=>(zAc 6<|zAa<|zAw<|zAk<|zAe<|zAc 1<|S_a [(1,.v (I (↑(i+1):Int)))] (ap (wrN i) an)<|zAc 1<|zAa ?_))))
  all_goals first | (rw [wL (by simp only [zT4,decide_eq_true_eq];omega)];done) | exact ⟨i+1,⟨by omega,yK (by simp only [zT4,decide_eq_false_iff_not];omega)⟩,by omega,by kernel_rfl,by kernel_rfl⟩
 ·refine zAf<|zAd 3<|S_a [(0,.n n.l.length)] (ap (lnS prV n.l) an)<|zAc 1<|zAa<|zAQ ((↑i:Int)<(↑n.l.length:Int)) (by omega)<|zAA 0<|zAd 1<|zAa<|zAm<|E_a [] an (PV.bool false) [] ?_ rfl
  have:zQb n a b=false:=by
   simp only [zQb,List.any_eq_false,Bool.not_eq_true]
   intro x hx
   obtain ⟨j,hj,rfl⟩:=List.getElem_of_mem hx
   have:=ha j (by omega)
   rwa [zAt hj] at this
  rw [this]
end Go.Eng
set_option maxRecDepth 10000
set_option maxHeartbeats 4000000
namespace Go.Eng
open Go Go.Proofs
abbrev bls (l:List Bool):PV := .sl (l.map PV.bool)
abbrev knV (K:List (List Bool)):PV := .sl (K.map bls)
def kn (K:List (List Bool)) (h i:Nat):Bool:=(K.getD h []).getD i false
structure RelK (n:Nw) (K:List (List Bool)) (w:List Int):Prop where
 len:K.length=n.h.toNat
 row:∀ r∈K,r.length=n.n.length
 wl:w.length=80
 top:∀ h i,h<n.h.toNat→i<n.n.length→kn K h i=true→(i:Int)≤w.getD (h*8+((zAj n).getD i 0).toNat) 0
 at_:∀ h c,h<n.h.toNat→c<8→w.getD (h*8+c) 0 = -1∨∃ i,i<n.n.length∧(zAj n).getD i 0=c∧w.getD (h*8+c) 0=i∧kn K h i=true
def hld (n:Nw) (w:List Int) (h i:Nat):Bool:=decide (w.getD (h*8+((zAj n).getD i 0).toNat) 0=i)
theorem zSs {n:Nw} {x:Int} (h:zNi n x≠-1):∃ k:Nat,zNi n x=k∧k<n.n.length∧(n.n.getD k default).1=x:=by
 unfold zNi zEO at h ⊢
 split
 ·rename_i yI
  have hp:=List.findIdx_getElem (w:=yI)
  exact ⟨_,rfl,yI,by rw [zAt yI];simpa using hp⟩
 ·rename_i hn;rw [if_neg hn] at h;exact absurd rfl h
theorem zSn {n:Nw} {x:Int} (h:zNi n x = -1) (k:Nat) (hk:k<n.n.length):(n.n.getD k default).1≠x:=by
 have h2:=zEf (fun y:Int×Bool=>decide (y.1=x)) n.n
 unfold zNi at h
 rw [h] at h2
 intro he
 have:(n.n.any fun y=>decide (y.1=x))=true:=List.any_eq_true.2 ⟨_,List.getElem_mem hk,by rw [zAt hk] at he;simpa using he⟩
 rw [this] at h2;cases h2
theorem zVg {n:Nw} (ho:NwOk n) {i k:Nat} (hk:k<n.n.length) (h:(n.n.getD k default).1=i):i<k∧chn n k i:=by
 have ha:=ho.na k hk
 have hr:=zLH ho hk
 refine ⟨by omega,?_⟩
 rw [if_neg (by omega),h,Int.toNat_natCast] at hr
 exact hr
theorem zSH {n:Nw} (ho:NwOk n) {a b:Nat} {x:Int} (hx:0≤x) (ha:a<n.n.length) (hb:b<n.n.length) (h1:(n.n.getD a default).1=x) (h2:(n.n.getD b default).1=x):a=b:=by
 by_cases h:a=b
 ·exact h
 ·exfalso
  by_cases yI:a<b
  ·exact ho.nd b a yI hb (by omega) (by rw [h1,h2])
  ·exact ho.nd a b (by omega) ha (by omega) (by rw [h1,h2])
theorem zOr {n:Nw} (ho:NwOk n) {i:Nat} (hi:i<n.n.length):(zNi n i = -1∧∀ k,k<n.n.length→chn n k i→¬ i<k)∨∃ m:Nat,zNi n i=m∧i<m∧m<n.n.length∧chn n m i∧∀ k,k<n.n.length→chn n k i→i<k→m≤k:=by
 by_cases h:zNi n i = -1
 ·left
  refine ⟨h,fun k hk hc vG=>?_⟩
  obtain ⟨j,_,_,h3,h4,_⟩:=zOK ho k i vG hk hc.symm
  exact zSn h j h3 h4
 ·right
  obtain ⟨m,h1,h2,h3⟩:=zSs h
  obtain ⟨h4,h5⟩:=zVg ho h2 h3
  refine ⟨m,h1,h4,h2,h5,fun k hk hc vG=>?_⟩
  obtain ⟨j,g1,g2,g3,g4,_⟩:=zOK ho k i vG hk hc.symm
  have:=zSH ho (by omega) h2 g3 h3 g4
  omega
theorem zWl {n:Nw} {K:List (List Bool)} {w:List Int} {h i:Nat} (ho:NwOk n) (hr:RelK n K w) (hh:h<n.h.toNat) (hi:i<n.n.length) (h1:kn K h i=true) (h2:∀ k,k<n.n.length→chn n k i→i<k→kn K h k=false):hld n w h i=true:=by
 have gX:=zBX ho i hi
 have jo:=ho.nl.2
 have ht:=hr.top h i hh hi h1
 rcases hr.at_ h ((zAj n).getD i 0).toNat hh (by omega) with h3 | ⟨j,g1,g2,g3,g4⟩
 ·omega
 ·by_cases hj:j=i
  ·subst hj;simpa only [hld,decide_eq_true_eq] using g3
  ·have:=h2 j g1 (by unfold chn;omega) (by omega)
   rw [this] at g4;cases g4
theorem zS0 {n:Nw} {K:List (List Bool)} {w:List Int} {h i:Nat} (ho:NwOk n) (hr:RelK n K w) (hh:h<n.h.toNat) (hi:i<n.n.length) (h1:kn K h i=false∨∃ k,k<n.n.length∧chn n k i∧i<k∧kn K h k=true):hld n w h i=false:=by
 have gX:=zBX ho i hi
 have jo:=ho.nl.2
 simp only [hld,decide_eq_false_iff_not]
 intro he
 rcases h1 with h1 | ⟨k,g1,g2,g3,g4⟩
 ·rcases hr.at_ h ((zAj n).getD i 0).toNat hh (by omega) with h3 | ⟨j,g1,g2,g3,g4⟩
  ·omega
  ·have:j=i:=by omega
   subst this;rw [h1] at g4;cases g4
 ·have:=hr.top h k hh g1 g4
  unfold chn at g2
  rw [g2] at this;omega
theorem zYi (n:Nw) (K:List (List Bool)) (w:List Int) (h i:Nat) (ho:NwOk n) (hr:RelK n K w) (hh:h<n.h.toNat) (hi:i<n.n.length):FG 113 [nwV n,knV K,I h,I i] (.bool (hld n w h i)):=by
 have jo:=ho.nl.2
 have kf:=hr.len
 have yB:(K.getD h []).length=n.n.length:=zBB (d:=[]) hr.row h (by omega)
 refine zAg Tryz.f113 ?_
 have kJ:=zOr ho hi
 refine zAd 2<|zAa<|zAf<|zAd 2<|S_a [(2,.v (PV.sl (List.map PV.bool (K.getD h []))))] (ap (zBv [] (by omega):(List.map bls K)[h]? = some (PV.sl (List.map PV.bool (K.getD h [])))) an)<|zAc 2<|S_a [(2,.v (PV.bool ((K.getD h []).getD i false)))] (ap (zBv false (by omega):(List.map PV.bool (K.getD h []))[i]? = some (PV.bool ((K.getD h []).getD i false))) an)<|zAc 2<|zAa<|zDt (!(K.getD h []).getD i false) (fun k0=>(zAd 1<|zAa<|zAm<|E_a [] an (PV.bool false) [] ?_ rfl)) (fun k0=>(zAk<|zAf<|zAd 2<|S_a [(8,.ret (I (zNi n (↑i:Int))) [])] (ap (f143 n ((↑i:Int)) (by first | omega | (simp<;>omega))) an)<|zAc 1<|zAa<|zAi 0 ?_))
 ·rw [Bool.not_eq_true'] at k0
  rw [zS0 ho hr hh hi (.inl k0)]
 ·refine zAq (fun (m:Int)=>(m = -1∨∃ k:Nat,m=k∧i<k∧k<n.n.length∧chn n k i)∧∀ k,k<n.n.length→chn n k i→i<k→(m = -1∨(k:Int)<m)→kn K h k=false) (fun m=>[(3,I m)]) (fun m=>(if m = -1 then 0 else n.n.length+1-m.toNat)) (zNi n i) ?_ fun m ⟨hm,ha⟩=>?_
  ·rcases kJ with ⟨g1,g2⟩ | ⟨m,g1,g2,g3,g4,g5⟩
   ·exact ⟨.inl g1,fun k hk hc vG _=>absurd vG (g2 k hk hc)⟩
   ·exact ⟨.inr ⟨m,g1,g2,g3,g4⟩,fun k hk hc vG hx=>by have:=g5 k hk hc vG;omega⟩
  ·rw [Bool.not_eq_false'] at k0
   rcases hm with rfl | ⟨k,rfl,h1,h2,h3⟩
   ·have:=zWl ho hr hh hi k0 fun k hk hc vG=>ha k hk hc vG (.inl rfl)
    rw [this]
    clear ha kJ
    refine zAf<|zAd 2<|zAa<|zAw<|zAA 0<|zAd 1<|zAa<|zAm<|E_a [] an (PV.bool true) [] rfl rfl
   ·have qP:=zOr ho h2
    clear kJ
    refine zAf<|zAd 2<|zAa<|zA8<|zAk<|zAf<|zAi 1<|zAd 2<|S_a [(2,.v (PV.sl (List.map PV.bool (K.getD h []))))] (ap (zBv [] (by omega):(List.map bls K)[h]? = some (PV.sl (List.map PV.bool (K.getD h [])))) an)<|zAc 2<|S_a [(2,.v (PV.bool ((K.getD h []).getD k false)))] (ap (zBv false (by omega):(List.map PV.bool (K.getD h []))[k]? = some (PV.bool ((K.getD h []).getD k false))) an)<|zAc 1<|zAa<|zDt ((K.getD h []).getD k false) (fun k2=>(zAd 1<|zAa<|zAm<|E_a [] an (PV.bool false) [] ?_ rfl)) (fun k2=>(zAk<|zAe<|zAc 2<|S_a [(8,.ret (I (zNi n (↑k:Int))) [])] (ap (f143 n ((↑k:Int)) (by first | omega | (simp<;>omega))) an)<|zAc 1<|zAa ?_))
    ·rw [zS0 ho hr hh hi (.inr ⟨k,h2,h3,h1,by assumption⟩)]
    ·have uj:kn K h k=false:=by assumption
     refine ⟨zNi n k,?_,?_,by kernel_rfl,by kernel_rfl⟩
     ·rcases qP with ⟨g1,g2⟩ | ⟨m,g1,g2,g3,g4,g5⟩
      ·refine ⟨.inl g1,fun j hj hc ql _=>?_⟩
       by_cases qm:j=k
       ·subst qm;exact uj
       ·by_cases yI:j<k
        ·exact ha j hj hc ql (.inr (by omega))
        ·exact absurd (by omega:k<j) (g2 j hj (by unfold chn at *;omega))
      ·refine ⟨.inr ⟨m,g1,by omega,g3,by unfold chn at *;omega⟩,fun j hj hc ql hx=>?_⟩
       by_cases qm:j=k
       ·subst qm;exact uj
       ·by_cases yI:j<k
        ·exact ha j hj hc ql (.inr (by omega))
        ·have:=g5 j hj (by unfold chn at *;omega) (by omega)
         omega
     ·rcases qP with ⟨g1,_⟩ | ⟨m,g1,g2,g3,_⟩
      ·rw [g1,if_pos rfl,if_neg (by omega)];omega
      ·rw [g1,if_neg (by omega),if_neg (by omega)];omega
end Go.Eng
set_option maxRecDepth 10000
set_option maxHeartbeats 4000000
namespace Go.Eng
open Go Go.Proofs
def hrB (n:Nw) (h i:Int) (c:Int×Int):Bool:=decide (c.1=i)&&has (n.s.getD c.2.toNat []) h
def zFC (n:Nw) (cs:List (Int×Int)) (h i:Int):Bool:=cs.any (hrB n h i)
theorem f141 (n:Nw) (cs:List (Int×Int)) (h i:Int) (ho:CrW n cs):FG 141 [nwV n,prs cs,I h,I i] (.bool (zFC n cs h i)):=by
 have hn:=ho.nw
 have yO:=ho.len
 have jh:=hn.sl.2
 refine zAg Tryz.f141 ?_
 refine zAd 2<|zAa<|zAf<|zAd 1<|zAa<|zAi 0 ?_
 refine zAq (fun j=>j≤cs.length∧∀ k,k<j→hrB n h i (cs.getD k default)=false) (fun (j:Nat)=>[(9,I (j:Nat))]) (fun j=>cs.length-j) (0:Nat) ⟨by omega,fun j hj=>absurd hj (Nat.not_lt_zero j)⟩ fun j ⟨hj,ha⟩=>?_
 by_cases je:j<cs.length
 ·obtain ⟨jY,yp⟩:=zBB (d:=default) ho.cs j je
  have ue:=zBB (d:=[]) hn.rows (cs.getD j default).2.toNat (by omega)
  have yK:hrB n h i (cs.getD j default)=false→∀ k,k<j+1→hrB n h i (cs.getD k default)=false:=fun h k hk=>by
   rcases Nat.lt_succ_iff_lt_or_eq.1 hk with h2 | rfl
   ·exact ha k h2
   ·exact h
  have wL:hrB n h i (cs.getD j default)=true→zFC n cs h i=true:=fun h=>by
   rw [zAt je] at h
   exact List.any_eq_true.2 ⟨_,List.getElem_mem je,h⟩
  clear ha
  refine zAf<|zAd 2<|S_a [(0,.n cs.length)] (ap (lnS prV cs) an)<|zAc 1<|zAa<|zAI ((↑j:Int)<(↑cs.length:Int)) (by omega)<|zAk<|zAf<|zAi 1<|zAf<|zAd 2<|S_a [(2,.v (PV.agg [I (cs.getD j default).fst,I (cs.getD j default).snd]))] (ap (zBv default (by omega):(List.map prV cs)[j]? = some (PV.agg [I (cs.getD j default).fst,I (cs.getD j default).snd])) an)<|zAc 4<|zAa<|zDc ((cs.getD j default).fst=i) (fun k0=>(zAA 1<|zAe<|zAc 1<|S_a [(1,.v (I (↑(j+1):Int)))] (ap (wrN j) an)<|zAc 1<|zAa ?_)) (fun k0=>(zAk<|zAd 4<|S_a [(2,.v (PV.agg [I (cs.getD j default).fst,I (cs.getD j default).snd]))] (ap (zBv default (by omega):(List.map prV cs)[j]? = some (PV.agg [I (cs.getD j default).fst,I (cs.getD j default).snd])) an)<|zAc 2<|S_a [(0,.ob),(1,.v (zAB (n.s.getD (cs.getD j default).snd.toNat [])))] (ap ((by exact zAp (by omega)):decide (0≤(cs.getD j default).snd)=true)<|ap (zBv [] (by omega):(List.map zAB n.s)[(cs.getD j default).snd.toNat]? = some (zAB (n.s.getD (cs.getD j default).snd.toNat []))) an)<|zAc 2<|zAa<|zAd 1<|zAa<|zAi 2 ?_))
  ·exact ⟨j+1,⟨by omega,yK (by simp only [hrB,decide_eq_false (by assumption),Bool.false_and])⟩,by omega,by kernel_rfl,by kernel_rfl⟩
  ·have he:(cs.getD j default).1=i:=by first | assumption | (apply Decidable.of_not_not;assumption)
   refine zAq (fun k=>k≤(n.s.getD (cs.getD j default).2.toNat []).length∧∀ r,r<k→decide (h=(n.s.getD (cs.getD j default).2.toNat []).getD r 0)=false) (fun (k:Nat)=>[(11,I (k:Nat))]) (fun k=>(n.s.getD (cs.getD j default).2.toNat []).length-k) (0:Nat) ⟨by omega,fun j hj=>absurd hj (Nat.not_lt_zero j)⟩ fun k ⟨hk,hb⟩=>?_
   generalize hL:n.s.getD (cs.getD j default).2.toNat []=L at *
   by_cases kf:k<L.length
   ·refine zAf<|zAd 2<|S_a [(0,.n L.length)] (ap (lnS I L) an)<|zAc 1<|zAa<|zAI ((↑k:Int)<(↑L.length:Int)) (by omega)<|zAk<|zAf<|zAi 3<|zAd 2<|S_a [(2,.v (I (L.getD k 0)))] (ap (zBv (0) (by omega):(List.map I L)[k]? = some (I (L.getD k 0))) an)<|zAc 3<|zAa<|zCd (L.getD k 0=h) (fun k2=>(zAd 1<|zAa<|zAm<|E_a [] an (PV.bool true) [] ?_ rfl)) (fun k2=>(zAk<|zAe<|zAc 1<|S_a [(1,.v (I (↑(k+1):Int)))] (ap (wrN k) an)<|zAc 1<|zAa ?_))
    ·have h3:L.getD k 0=h:=by assumption
     have:has L h=true:=by
      rw [zM3,decide_eq_true_eq,← h3,zAt kf];exact List.getElem_mem kf
     rw [wL (by simp only [hrB,decide_eq_true he,hL,this];rfl)]
    ·refine ⟨k+1,⟨by omega,fun r hr=>?_⟩,by omega,by kernel_rfl,by kernel_rfl⟩
     rcases Nat.lt_succ_iff_lt_or_eq.1 hr with h2 | rfl
     ·exact hb r h2
     ·exact decide_eq_false fun h=>absurd h.symm (by assumption)
   ·have:has L h=false:=by
     rw [zM3,decide_eq_false_iff_not]
     intro hm
     obtain ⟨r,hr,rfl⟩:=List.getElem_of_mem hm
     have:=hb r (by omega)
     rw [zAt hr] at this
     simp at this
    have jJ:=yK (by simp only [hrB,hL,this,Bool.and_false])
    clear hb
    refine zAf<|zAd 2<|S_a [(0,.n L.length)] (ap (lnS I L) an)<|zAc 1<|zAa<|zAQ ((↑k:Int)<(↑L.length:Int)) (by omega)<|zAA 2<|zAe<|zAc 1<|S_a [(1,.v (I (↑(j+1):Int)))] (ap (wrN j) an)<|zAc 1<|zAa ?_
    exact ⟨j+1,⟨by omega,jJ⟩,by omega,by kernel_rfl,by kernel_rfl⟩
 ·refine zAf<|zAd 2<|S_a [(0,.n cs.length)] (ap (lnS prV cs) an)<|zAc 1<|zAa<|zAQ ((↑j:Int)<(↑cs.length:Int)) (by omega)<|zAA 0<|zAd 1<|zAa<|zAm<|E_a [] an (PV.bool false) [] ?_ rfl
  have:zFC n cs h i=false:=by
   simp only [zFC,List.any_eq_false,Bool.not_eq_true]
   intro x hx
   obtain ⟨j,hj,rfl⟩:=List.getElem_of_mem hx
   have:=ha j (by omega)
   rwa [zAt hj] at this
  rw [this]
end Go.Eng
set_option maxRecDepth 10000
set_option maxHeartbeats 4000000
namespace Go.Eng
open Go Go.Proofs
abbrev lsB (l:List Bool):PV := .own 1 (l.map PV.bool)
instance:FrzOf lsB bls:=⟨fun x=>by simp only [zAT,zE7]⟩
def zOw (n:Nw) (cs:List (Int×Int)) (h k:Nat):List Bool:=(List.range k).map fun (i:Nat)=>zFC n cs h i
def zLC (n:Nw) (cs:List (Int×Int)) (k:Nat):List (List Bool):=(List.range k).map fun h=>zOw n cs h n.n.length
theorem zQu {n:Nw} {cs:List (Int×Int)} {h k:Nat}:zOw n cs h (k+1)=zOw n cs h k++[zFC n cs h k]:=by
 simp only [zOw,List.range_succ,List.map_append,List.map_cons,List.map_nil]
theorem zQV {n:Nw} {cs:List (Int×Int)} {k:Nat}:zLC n cs (k+1)=zLC n cs k++[zOw n cs k n.n.length]:=by
 simp only [zLC,List.range_succ,List.map_append,List.map_cons,List.map_nil]
theorem f112 (n:Nw) (cs:List (Int×Int)) (ho:CrW n cs):FG 112 [nwV n,prs cs] (.own 1 ((zLC n cs n.h.toNat).map lsB)):=by
 have hn:=ho.nw
 have hb:=hn.h
 have jo:=hn.nl
 refine zAg Tryz.f112 ?_
 refine zAd 2<|zAa<|zAd 1<|zAa<|zAf<|zAd 1<|zAa<|zAi 0 ?_
 refine zAq (fun (h,K)=>h≤n.h.toNat∧K=zLC n cs h) (fun (h,K)=>[(5,.own 1 (K.map lsB)),(6,I (h:Nat))]) (fun (h,_)=>n.h.toNat-h) ((0:Nat),([]:List (List Bool))) ⟨by omega,rfl⟩ fun (h,K) ⟨hh,hK⟩=>?_
 have hKl:K.length=h:=by rw [hK];simp [zLC]
 by_cases gz:(h:Int)<n.h
 ·have ya:=zQV (n:=n) (cs:=cs) (k:=h)
  rw [← hK] at ya
  clear hK
  refine zAf<|zAd 4<|zAa<|zAI ((↑h:Int)<n.h) (by omega)<|zAk<|zAf<|zAi 1<|zAd 2<|S_a [(0,.n n.n.length)] (ap (lnS ntV n.n) an)<|S_a [(4,.ob),(0,.ob),(1,.v (PV.own 1 (List.map PV.bool (List.replicate n.n.length false))))] (ap ((by exact zAp (by omega)):decide (n.n.length≤n.n.length)=true)<|ap ((by exact zAp (by simp [zA5]<;>omega)):decide (n.n.length≤zA5)=true)<|ap ((by simp):PV.own 1 (List.replicate n.n.length (PV.bool false))=PV.own 1 (List.map PV.bool (List.replicate n.n.length false))) an)<|zAc 1<|zAa<|zAf<|zAd 1<|zAa<|zAi 2 ?_
  refine zAq (fun (i,r)=>i≤n.n.length∧r=zOw n cs h i++List.replicate (n.n.length-i) false) (fun (i,r)=>[(7,.own 1 (r.map PV.bool)),(8,I (i:Nat))]) (fun (i,_)=>n.n.length-i) ((0:Nat),List.replicate n.n.length false) ⟨by omega,by simp [zOw]⟩ fun (i,r) ⟨hi,hr⟩=>?_
  have ue:r.length=n.n.length:=by rw [hr];simp [zOw];omega
  by_cases yH:i<n.n.length
  ·refine zAf<|zAd 2<|S_a [(0,.n r.length)] (ap (lnS PV.bool r) an)<|zAc 1<|zAa<|zAI ((↑i:Int)<(↑r.length:Int)) (by omega)<|zAk<|zAf<|zAi 3<|zAe<|zAc 6<|S_a [(12,.ret (PV.bool (zFC n cs (↑h:Int) (↑i:Int))) [])] (ap (f141 n cs ((↑h:Int)) ((↑i:Int)) (by omega)) an)<|S_a [(2,.ob),(1,.n i)] (ap ((by exact zAp (by simp only [List.length_map,zzLn]<;>omega)):decide (i<(List.map PV.bool r).length)=true)<|ap ((by simp):some (0+i)=some i) an)<|S_a [(8,.root (PV.own 1 (List.map PV.bool (r.set i (zFC n cs (↑h:Int) (↑i:Int))))) true)] (ap (zPn (zBv false (by omega)) zFV:zBx (PV.own 1 (List.map PV.bool r)) [] i 0 (PV.bool (zFC n cs (↑h:Int) (↑i:Int))).cells=some (PV.own 1 (List.map PV.bool (r.set i (zFC n cs (↑h:Int) (↑i:Int)))))∧zAF (PV.own 1 (List.map PV.bool r)) (PV.own 1 (List.map PV.bool (r.set i (zFC n cs (↑h:Int) (↑i:Int))))) []=true) an)<|zAa<|zAe<|zAc 1<|S_a [(1,.v (I (↑(i+1):Int)))] (ap (wrN i) an)<|zAc 1<|zAa ?_
   refine ⟨(i+1,r.set i (zFC n cs h i)),⟨by omega,?_⟩,by simp only;omega,by kernel_rfl,by kernel_rfl⟩
   obtain ⟨k,hk⟩:∃ k,n.n.length-i=k+1:=⟨n.n.length-i-1,by omega⟩
   rw [hr,hk,show n.n.length-(i+1)=k by omega,List.replicate_succ,List.set_append_right _ _ (by simp [zOw]),zQu]
   try simp [zOw]
  ·have hrr:r=zOw n cs h n.n.length:=by rw [hr,show i=n.n.length by omega];simp
   rw [← hrr] at ya
   clear hr hrr
   refine zAf<|zAd 2<|S_a [(0,.n r.length)] (ap (lnS PV.bool r) an)<|zAc 1<|zAa<|zAQ ((↑i:Int)<(↑r.length:Int)) (by omega)<|zAA 2<|zAe<|zAc 2<|S_a [(2,.yes)] (ap ((by exact zBO (by simp<;>omega)):(Nat.beq 0 0&&(List.map PV.bool r).length.beq (List.map PV.bool r).length)=true) an)<|S_a [(4,.ob),(0,.ob),(0,.yes),(2,.v (PV.own 1 (List.map lsB (K++[r]))))] (ap (blz (List.map lsB K))<|ap ((by exact zBz (by simp only [List.length_map,zzLn,zA5]<;>omega)):((List.map lsB K).length + [PV.own 1 (List.map PV.bool r)].length).ble zA5=true)<|ap ((by exact zBO (by simp<;>omega)):(0+(List.map lsB K).length).beq (List.map lsB K).length=true)<|ap ((zA3 (zDG (by kernel_rfl))):PV.own 1 (List.map lsB K++[PV.own 1 (List.map PV.bool r)])=PV.own 1 (List.map lsB (K++[r]))) an)<|zAc 1<|zAa<|zAe<|zAc 1<|S_a [(1,.v (I (↑(h+1):Int)))] (ap (wrN h) an)<|zAc 1<|zAa ?_
   exact ⟨(h+1,K++[r]),⟨by omega,ya.symm⟩,by simp only;omega,by kernel_rfl,by kernel_rfl⟩
 ·have e:h=n.h.toNat:=by omega
  subst e
  refine zAf<|zAd 4<|zAa<|zAQ ((↑n.h.toNat:Int)<n.h) (by omega)<|zAA 0<|zAd 1<|S_a [(2,.yes)] (ap ((by exact zBO (by simp<;>omega)):(Nat.beq 0 0&&(List.map lsB K).length.beq (List.map lsB K).length)=true) an)<|zAa<|zAm<|E_a [(1,.yes),(1,.v (PV.own 1 (List.map lsB K)))] (ap (blz (List.map lsB K))<|ap ((zA3 zAW):PV.own 1 (List.take (List.map lsB K).length (List.drop 0 (List.map lsB K)))=PV.own 1 (List.map lsB K)) an) (PV.own 1 (List.map lsB K)) [] (by simp [*]) rfl
end Go.Eng
namespace Go.Eng
open Go Go.Proofs
structure Tr (n:Nw) (w:List Int) (S:Nat→Nat→Prop):Prop where
 wl:w.length=80
 at_:∀ h c,h<n.h.toNat→c<8→w.getD (h*8+c) 0 = -1∨∃ i,i<n.n.length∧(zAj n).getD i 0=(c:Int)∧w.getD (h*8+c) 0=i∧S h i
 top:∀ h i,h<n.h.toNat→i<n.n.length→S h i→(i:Int)≤w.getD (h*8+((zAj n).getD i 0).toNat) 0
theorem zIw {w:List Int} {i j:Nat} {x:Int} (hi:i<w.length):(zP3 w i x).getD j 0=if i=j then max (w.getD j 0) x else w.getD j 0:=by
 unfold zP3
 rw [zDF]
 by_cases h:i=j
 ·subst h;rw [if_pos ⟨rfl,hi⟩,if_pos rfl]
 ·rw [if_neg (fun h2=>h h2.1),if_neg h]
theorem Tr.upd {n:Nw} {w:List Int} {S:Nat→Nat→Prop} (ho:NwOk n) (ht:Tr n w S) {h0 i0:Nat} (hh:h0<n.h.toNat) (hi:i0<n.n.length):Tr n (zP3 w (h0*8+((zAj n).getD i0 0).toNat) i0) (fun h i=>S h i∨h=h0∧i=i0):=by
 have jo:=ho.nl.2
 have hH:=ho.h.2
 have hf0:=zBX ho i0 hi
 have yI:h0*8+((zAj n).getD i0 0).toNat<w.length:=by rw [ht.wl];omega
 refine ⟨by rw [zIb];exact ht.wl,fun h c gd hc=>?_,fun h i gd hi1 hS=>?_⟩
 ·rw [zIw yI]
  split
  ·rename_i he
   have e1:h=h0:=by omega
   have e2:((zAj n).getD i0 0).toNat=c:=by omega
   have e3:(zAj n).getD i0 0=(c:Int):=by omega
   subst e1
   have hw:=ht.at_ h c gd hc
   by_cases hm:w.getD (h*8+c) 0≤(i0:Int)
   ·right
    exact ⟨i0,hi,e3,by rw [Int.max_eq_right hm],.inr ⟨rfl,rfl⟩⟩
   ·rcases hw with hw | ⟨i,g1,g2,g3,g4⟩
    ·omega
    ·right;exact ⟨i,g1,g2,by rw [Int.max_eq_left (by omega)];exact g3,.inl g4⟩
  ·rcases ht.at_ h c gd hc with hw | ⟨i,g1,g2,g3,g4⟩
   ·exact .inl hw
   ·exact .inr ⟨i,g1,g2,g3,.inl g4⟩
 ·rw [zIw yI]
  have gm:=zBX ho i hi1
  rcases hS with hS | ⟨rfl,rfl⟩
  ·have:=ht.top h i gd hi1 hS
   split<;>omega
  ·rw [if_pos rfl];omega
theorem Tr.same {n:Nw} {w:List Int} {S S':Nat→Nat→Prop} (ht:Tr n w S) (h:∀ a i,a<n.h.toNat→i<n.n.length→(S a i↔S' a i)):Tr n w S' :=
 ⟨ht.wl,fun a c ha hc=>by
  rcases ht.at_ a c ha hc with h1 | ⟨i,g1,g2,g3,g4⟩
  ·exact .inl h1
  ·exact .inr ⟨i,g1,g2,g3,(h a i ha g1).1 g4⟩,fun a i ha hi hs=>ht.top a i ha hi ((h a i ha hi).2 hs)⟩
theorem Tr.none (n:Nw) (ho:NwOk n):Tr n (List.replicate 80 (-1)) (fun _ _=>False):=by
 have hH:=ho.h.2
 refine ⟨by simp,fun h c hh hc => .inl ?_,fun _ _ _ _ h=>h.elim⟩
 rw [zAt (by rw [List.length_replicate];omega),List.getElem_replicate]
end Go.Eng
namespace Go.Eng
open Go Go.Proofs
theorem Tr.begC {n:Nw} {w:List Int} {S:Nat→Nat→Prop} (ho:NwOk n) (ht:Tr n w S) {h:Nat} (hh:h<n.h.toNat) {c:Int×Int} (hc:0≤c.1∧c.1<n.n.length):Tr n (begC n h w c) (fun a i=>S a i∨a=h∧hrB n h i c=true):=by
 unfold Go.Eng.begC
 split
 ·rename_i hs
  have:=ht.upd ho hh (i0:=c.1.toNat) (by omega)
  rw [Int.toNat_of_nonneg hc.1] at this
  refine this.same fun a i _ _=>?_
  simp only [hrB,hs,Bool.and_true,decide_eq_true_eq]
  refine or_congr Iff.rfl (and_congr Iff.rfl ⟨fun e=>by omega,fun e=>by omega⟩)
 ·rename_i hs
  refine ht.same fun a i _ _=>?_
  have h2:has (n.s.getD c.2.toNat []) h=false:=by
   cases hx:has (n.s.getD c.2.toNat []) h
   ·rfl
   ·exact absurd hx hs
  simp only [hrB,h2,Bool.and_false,Bool.false_eq_true,and_false,or_false]
theorem Tr.begH {n:Nw} (ho:NwOk n) {h:Nat} (hh:h<n.h.toNat):∀ (cs:List (Int×Int)) {w:List Int} {S:Nat→Nat→Prop},Tr n w S→(∀ c∈cs,0≤c.1∧c.1<n.n.length)→Tr n (begH n h w cs) (fun a i=>S a i∨a=h∧zFC n cs h i=true)
 | [],w,S,ht,_=>ht.same fun a i _ _=>by simp [zFC]
 | c::cs,w,S,ht,hc=>by
  have h1:=Tr.begH ho hh cs (ht.begC ho hh (hc c List.mem_cons_self)) fun d hd=>hc d (List.mem_cons_of_mem _ hd)
  refine Tr.same (w:=Go.Eng.begH n h w (c::cs)) h1 fun a i _ _=>?_
  simp only [zFC,List.any_cons,Bool.or_eq_true,or_assoc,and_or_left]
theorem Tr.begN {n:Nw} {cs:List (Int×Int)} (ho:CrW n cs):∀ k,k≤n.h.toNat→Tr n (begN n cs k) (fun a i=>a<k∧zFC n cs a i=true)
 | 0,_=>(Tr.none n ho.nw).same fun a i _ _=>by simp
 | k + 1,hk=>by
  rw [zIL]
  refine (Tr.begH ho.nw (by omega) cs (Tr.begN ho k (by omega)) fun c hc=>(ho.cs c hc).1).same fun a i _ _=>?_
  constructor
  ·rintro (⟨h1,h2⟩ | ⟨rfl,h2⟩)
   ·exact ⟨by omega,h2⟩
   ·exact ⟨by omega,h2⟩
  ·rintro ⟨h1,h2⟩
   by_cases e:a=k
   ·subst e;exact .inr ⟨rfl,h2⟩
   ·exact .inl ⟨by omega,h2⟩
theorem RelK.of_tr {n:Nw} {K:List (List Bool)} {w:List Int} (h1:K.length=n.h.toNat) (h2:∀ r∈K,r.length=n.n.length) (ht:Tr n w fun a i=>kn K a i=true):RelK n K w :=
 ⟨h1,h2,ht.wl,ht.top,ht.at_⟩
theorem RelK.tr {n:Nw} {K:List (List Bool)} {w:List Int} (h:RelK n K w):Tr n w fun a i=>kn K a i=true:=⟨h.wl,h.at_,h.top⟩
theorem zV1 {n:Nw} {cs:List (Int×Int)} {a i:Nat} (ha:a<n.h.toNat) (hi:i<n.n.length):kn (zLC n cs n.h.toNat) a i=zFC n cs a i:=by
 unfold kn zLC
 rw [zAt (l:=(List.range n.h.toNat).map fun h=>zOw n cs h n.n.length) (by rw [List.length_map,List.length_range];exact ha)]
 simp only [List.getElem_map,List.getElem_range]
 unfold zOw
 rw [zAt (by rw [List.length_map,List.length_range];exact hi)]
 simp only [List.getElem_map,List.getElem_range]
theorem zUH {n:Nw} {cs:List (Int×Int)} (ho:CrW n cs):RelK n (zLC n cs n.h.toNat) (zL8 n cs):=by
 refine RelK.of_tr (by simp [zLC]) (fun r hr=>?_) ?_
 ·obtain ⟨h,_,rfl⟩:=List.mem_map.1 hr
  simp [zOw]
 ·refine (Tr.begN ho n.h.toNat (Nat.le_refl _)).same fun a i ha hi=>?_
  rw [zV1 ha hi]
  exact ⟨fun h=>h.2,fun h=>⟨ha,h⟩⟩
end Go.Eng
namespace Go.Eng
open Go Go.Proofs
def nxB (n:Nw) (K:List (List Bool)) (w:List Int) (h i:Nat):Bool:=kn K h i||(zGG n h n.h.toNat).any fun o=>hld n w o i
def zGm (n:Nw) (K:List (List Bool)) (w:List Int) (h:Nat):List Bool:=(List.range n.n.length).map fun i=>nxB n K w h i
def zMF (n:Nw) (K:List (List Bool)) (w:List Int):List (List Bool):=(List.range n.h.toNat).map fun h=>zGm n K w h
theorem zUX {n:Nw} {K:List (List Bool)} {w:List Int} {a i:Nat} (ha:a<n.h.toNat) (hi:i<n.n.length):kn (zMF n K w) a i=nxB n K w a i:=by
 unfold kn zMF
 rw [zAt (l:=(List.range n.h.toNat).map fun h=>zGm n K w h) (by rw [List.length_map,List.length_range];exact ha)]
 simp only [List.getElem_map,List.getElem_range]
 unfold zGm
 rw [zAt (by rw [List.length_map,List.length_range];exact hi)]
 simp only [List.getElem_map,List.getElem_range]
theorem Tr.skip {n:Nw} {w:List Int} {S:Nat→Nat→Prop} (ho:NwOk n) (ht:Tr n w S) {h0 c0:Nat} (hh:h0<n.h.toNat) (hc:c0<8):Tr n (zP3 w (h0*8+c0) (-1)) S:=by
 have hH:=ho.h.2
 have yI:h0*8+c0<w.length:=by rw [ht.wl];omega
 have hge : -1≤w.getD (h0*8+c0) 0:=by
  rcases ht.at_ h0 c0 hh hc with h | ⟨i,_,_,h,_⟩<;>omega
 have he:∀ j,(zP3 w (h0*8+c0) (-1)).getD j 0=w.getD j 0:=fun j=>by
  rw [zIw yI]
  split
  ·rename_i e;subst e;exact Int.max_eq_left hge
  ·rfl
 exact ⟨by rw [zIb];exact ht.wl,fun h c h1 h2=>by rw [he];exact ht.at_ h c h1 h2,fun h i h1 h2 h3=>by rw [he];exact ht.top h i h1 h2 h3⟩
theorem Tr.nxtR {n:Nw} {now:List Int} {S0:Nat→Nat→Prop} (ho:NwOk n) (h0:Tr n now S0) {h o:Nat} (hh:h<n.h.toNat) (hoo:o<n.h.toNat) {w:List Int} {S:Nat→Nat→Prop} (ht:Tr n w S):∀ k,k≤8→Tr n (nxtR now h o w k) (fun a i=>S a i∨a=h∧(zAj n).getD i 0<(k:Int)∧hld n now o i=true)
 | 0,_=>Tr.same (w:=Go.Eng.nxtR now h o w 0) ht fun a i _ hi=>by
  have:=zBX ho i hi
  exact ⟨.inl,fun h=>h.elim id fun h=>by have:=h.2.1;omega⟩
 | k + 1,hk=>by
  have ih:=Tr.nxtR ho h0 hh hoo ht k (by omega)
  have e:Go.Eng.nxtR now h o w (k+1)=zP3 (Go.Eng.nxtR now h o w k) (h*8+k) (now.getD (o*8+k) 0):=by
   simp only [Go.Eng.nxtR,List.range_succ,List.foldl_append,List.foldl_cons,List.foldl_nil]
  rw [e]
  rcases h0.at_ o k hoo (by omega) with hm | ⟨j,g1,g2,g3,_⟩
  ·rw [hm]
   refine (ih.skip ho hh (by omega)).same fun a i _ hi=>or_congr Iff.rfl (and_congr Iff.rfl ⟨fun ⟨x,y⟩=>⟨by omega,y⟩,fun ⟨x,y⟩=>⟨?_,y⟩⟩)
   have hf:=zBX ho i hi
   by_cases ek:(zAj n).getD i 0=(k:Int)
   ·simp only [hld,decide_eq_true_eq,ek,Int.toNat_natCast,hm] at y
    omega
   ·omega
  ·have:=ih.upd ho hh g1
   rw [g2,Int.toNat_natCast] at this
   rw [g3]
   refine this.same fun a i _ hi=>?_
   have hf:=zBX ho i hi
   constructor
   ·rintro ((x | ⟨x,y,z⟩) | ⟨rfl,rfl⟩)
    ·exact .inl x
    ·exact .inr ⟨x,by omega,z⟩
    ·refine .inr ⟨rfl,by omega,?_⟩
     simp only [hld,decide_eq_true_eq,g2,Int.toNat_natCast,g3]
   ·rintro (x | ⟨rfl,y,z⟩)
    ·exact .inl (.inl x)
    ·by_cases ek:(zAj n).getD i 0=(k:Int)
     ·simp only [hld,decide_eq_true_eq,ek,Int.toNat_natCast,g3] at z
      exact .inr ⟨rfl,by omega⟩
     ·exact .inl (.inr ⟨rfl,by omega,z⟩)
theorem Tr.nxtH {n:Nw} {now:List Int} {S0:Nat→Nat→Prop} (ho:NwOk n) (h0:Tr n now S0) {h:Nat} (hh:h<n.h.toNat):∀ (l:List Nat),(∀ o∈l,o<n.h.toNat)→∀ {w:List Int} {S:Nat→Nat→Prop},Tr n w S→Tr n (nxtH now h w l) (fun a i=>S a i∨a=h∧(l.any fun o=>hld n now o i)=true)
 | [],_,w,S,ht=>Tr.same (w:=Go.Eng.nxtH now h w []) ht fun a i _ _=>by simp
 | o::l,hl,w,S,ht=>by
  have h1:=Tr.nxtH ho h0 hh l (fun x hx=>hl x (List.mem_cons_of_mem _ hx)) (Tr.nxtR ho h0 hh (hl o List.mem_cons_self) ht 8 (Nat.le_refl _))
  refine Tr.same (w:=Go.Eng.nxtH now h w (o::l)) h1 fun a i _ hi=>?_
  have hf:=zBX ho i hi
  have jo:=ho.nl.2
  simp only [List.any_cons,Bool.or_eq_true,and_or_left,or_assoc]
  refine or_congr Iff.rfl (or_congr (and_congr Iff.rfl ⟨fun x=>x.2,fun x=>⟨by omega,x⟩⟩) Iff.rfl)
theorem Tr.nxtN {n:Nw} {now:List Int} {S0:Nat→Nat→Prop} (ho:NwOk n) (h0:Tr n now S0):∀ k,k≤n.h.toNat→Tr n (nxtN n now k) (fun a i=>S0 a i∨a<k∧((zGG n a n.h.toNat).any fun o=>hld n now o i)=true)
 | 0,_=>Tr.same (w:=Go.Eng.nxtN n now 0) h0 fun a i _ _=>by simp
 | k + 1,hk=>by
  have ih:=Tr.nxtN ho h0 k (by omega)
  have e:Go.Eng.nxtN n now (k+1)=Go.Eng.nxtH now k (Go.Eng.nxtN n now k) (zGG n k n.h.toNat):=by
   simp only [Go.Eng.nxtN,List.range_succ,List.foldl_append,List.foldl_cons,List.foldl_nil]
  rw [e]
  refine (Tr.nxtH ho h0 (by omega) _ (fun o hm=>List.mem_range.1 (List.mem_filter.1 hm).1) ih).same fun a i _ _=>?_
  constructor
  ·rintro ((x | ⟨x,y⟩) | ⟨rfl,y⟩)
   ·exact .inl x
   ·exact .inr ⟨by omega,y⟩
   ·exact .inr ⟨by omega,y⟩
  ·rintro (x | ⟨x,y⟩)
   ·exact .inl (.inl x)
   ·by_cases ea:a=k
    ·subst ea;exact .inr ⟨rfl,y⟩
    ·exact .inl (.inr ⟨by omega,y⟩)
theorem zTv {n:Nw} (ho:NwOk n) {K:List (List Bool)} {w:List Int} (h:RelK n K w):RelK n (zMF n K w) (zCF n w):=by
 refine RelK.of_tr (by simp [zMF]) (fun r hr=>?_) ?_
 ·obtain ⟨h,_,rfl⟩:=List.mem_map.1 hr
  simp [zGm]
 ·refine (Tr.nxtN ho h.tr n.h.toNat (Nat.le_refl _)).same fun a i ha hi=>?_
  rw [zUX ha hi,nxB,Bool.or_eq_true]
  exact or_congr Iff.rfl ⟨fun x=>x.2,fun x=>⟨ha,x⟩⟩
end Go.Eng
set_option maxRecDepth 10000
set_option maxHeartbeats 4000000
namespace Go.Eng
open Go Go.Proofs
instance (n:Nw) (i j:Nat):Decidable (chn n i j):=inferInstanceAs (Decidable ((zAj n).getD i 0=(zAj n).getD j 0))
def zHo (n:Nw) (K:List (List Bool)) (h i:Nat):Bool:=kn K h i && !((List.range n.n.length).any fun k=>decide (i<k)&&(decide (chn n k i)&&kn K h k))
theorem zQ4 {n:Nw} {K:List (List Bool)} {w:List Int} {h i:Nat} (ho:NwOk n) (hr:RelK n K w) (hh:h<n.h.toNat) (hi:i<n.n.length):zHo n K h i=hld n w h i:=by
 unfold zHo
 cases h1:kn K h i
 ·rw [zS0 ho hr hh hi (.inl h1)];rfl
 ·cases h2:(List.range n.n.length).any fun k=>decide (i<k)&&(decide (chn n k i)&&kn K h k)
  ·rw [zWl ho hr hh hi h1 fun k hk hc vG=>?_]
   ·rfl
   ·have h3:=(List.any_eq_false.1 h2) k (List.mem_range.2 hk)
    simpa [vG,hc] using h3
  ·obtain ⟨k,hk,h3⟩:=List.any_eq_true.1 h2
   simp only [Bool.and_eq_true,decide_eq_true_eq] at h3
   rw [zS0 ho hr hh hi (.inr ⟨k,List.mem_range.1 hk,h3.2.1,h3.1,h3.2.2⟩)];rfl
theorem f113 (n:Nw) (K:List (List Bool)) (h i:Nat) (ho:NwOk n) (hr:∃ w,RelK n K w) (hh:h<n.h.toNat) (hi:i<n.n.length):FG 113 [nwV n,knV K,I h,I i] (.bool (zHo n K h i)):=by
 obtain ⟨w,hr⟩:=hr
 rw [zQ4 ho hr hh hi]
 exact zYi n K w h i ho hr hh hi
def nxP (n:Nw) (K:List (List Bool)) (w:List Int) (h o j:Nat):Bool:=kn K h j||(zGG n h o).any fun o=>hld n w o j
theorem zS7 {n:Nw} {K:List (List Bool)} {w:List Int} {h o j:Nat}:nxP n K w h (o+1) j=(nxP n K w h o j||zDq n h o&&hld n w o j):=by
 unfold nxP;rw [zJr]
 cases zDq n h o<;>simp [Bool.or_assoc]
theorem zYs {P H:Nat→Bool} {a:Bool} {q:List Bool} {m i:Nat} (hq:∀ j,j<m→q.getD j false=(P j||(a&&(decide (j<i)&&H j)))) (hi:i<m):q.getD i false=P i:=by
 rw [hq i hi,decide_eq_false (Nat.lt_irrefl i)];cases a<;>simp
theorem zUi {P H:Nat→Bool} {a:Bool} {q:List Bool} {m i:Nat} {x:Bool} (hq:∀ j,j<m→q.getD j false=(P j||(a&&(decide (j<i)&&H j)))) (hl:q.length=m) (hi:i<m) (ha:a=true) (hx:x=(P i||H i)) (j:Nat) (hj:j<m):(q.set i x).getD j false=(P j||(a&&(decide (j<i+1)&&H j))):=by
 subst ha
 by_cases e:i=j
 ·subst e
  rw [zAt (by rw [List.length_set];omega),List.getElem_set_self,hx,decide_eq_true (Nat.lt_succ_self i),Bool.true_and,Bool.true_and]
 ·rw [zAt (by rw [List.length_set];omega),List.getElem_set_ne e,← zAt (d:=false) (by omega),hq j hj]
  by_cases h:j<i
  ·rw [decide_eq_true h,decide_eq_true (by omega:j<i+1)]
  ·rw [decide_eq_false h,decide_eq_false (by omega:¬ j<i+1)]
theorem zTT {n:Nw} {K:List (List Bool)} {w:List Int} {h o i m:Nat} {q:List Bool} (hq:∀ j,j<m→q.getD j false=(nxP n K w h o j||(zDq n h o&&(decide (j<i)&&hld n w o j)))) (hx:zDq n h o=false∨m≤i) (j:Nat) (hj:j<m):q.getD j false=nxP n K w h (o+1) j:=by
 rw [hq j hj,zS7]
 rcases hx with hx | hx
 ·rw [hx];rfl
 ·rw [decide_eq_true (by omega:j<i),Bool.true_and]
theorem zWE {n:Nw} {K:List (List Bool)} {w:List Int} {h:Nat} {r:List Bool} (hl:r.length=n.n.length) (hr:∀ j,j<n.n.length→r.getD j false=nxP n K w h n.h.toNat j):r=zGm n K w h:=by
 refine List.ext_getElem (by simp [zGm,hl]) fun j h1 h2=>?_
 have:=hr j (by omega)
 rw [zAt h1] at this
 rw [this]
 simp [zGm,nxB,nxP]
theorem zYl (n:Nw) (K:List (List Bool)) (w:List Int) (ho:NwOk n) (hr:RelK n K w):FG 115 [nwV n,knV K] (.own 1 ((zMF n K w).map lsB)):=by
 have hb:=ho.h
 have jo:=ho.nl
 have w5:=ho.ll
 have kf:=hr.len
 have hrw:∃ w,RelK n K w:=⟨w,hr⟩
 refine zAg Tryz.f115 ?_
 refine zAd 2<|zAa<|zAd 1<|zAa<|zAf<|zAd 1<|zAa<|zAi 0 ?_
 refine zAq (fun (h,L)=>h≤n.h.toNat∧L=(List.range h).map fun h=>zGm n K w h) (fun (h,L)=>[(5,.own 1 (L.map lsB)),(6,I (h:Nat))]) (fun (h,_)=>n.h.toNat-h) ((0:Nat),([]:List (List Bool))) ⟨by omega,rfl⟩ fun (h,L) ⟨hh,hL⟩=>?_
 have hLl:L.length=h:=by rw [hL];simp
 by_cases gz:(h:Int)<n.h
 ·have yB:(K.getD h []).length=n.n.length:=zBB (d:=[]) hr.row h (by omega)
  refine zAf<|zAd 4<|zAa<|zAI ((↑h:Int)<n.h) (by omega)<|zAk<|zAf<|zAi 1<|zAd 3<|S_a [(2,.v (PV.sl (List.map PV.bool (K.getD h []))))] (ap (zBv [] (by omega):(List.map bls K)[h]? = some (PV.sl (List.map PV.bool (K.getD h [])))) an)<|zAc 1<|S_a [(0,.ob),(0,.ob),(0,.ob),(3,.ob)] (ap ((by exact all_map _):((List.map PV.bool (K.getD h [])).all fun x=>x.plain)=true)<|ap ((by exact all_map _):((List.map PV.bool (K.getD h [])).all fun y=>y.cells.length.beq ((fun x=>x.size) Tryz.prog.types[4])&&y.cells.all fun q=>q.oneCell)=true)<|ap ((by exact List.isEmpty_iff.2 (zMh _)):(zBs (List.map PV.bool (K.getD h []))).isEmpty=true)<|ap ((by exact zBz (by simp only [List.length_map,zzLn,zA5]<;>omega)):(0+(List.map PV.bool (K.getD h [])).length).ble zA5=true) an)<|zAc 1<|zAa<|zAf<|zAd 1<|zAa<|zAi 2 ?_
  refine zAq (fun (o,r)=>o≤n.h.toNat∧r.length=n.n.length∧∀ j,j<n.n.length→r.getD j false=nxP n K w h o j) (fun (o,r)=>[(7,.own 1 (r.map PV.bool)),(8,I (o:Nat))]) (fun (o,_)=>n.h.toNat-o) ((0:Nat),K.getD h []) ⟨by omega,yB,fun j _=>by simp [nxP,zGG,kn]⟩ fun (o,r) ⟨hoo,ue,jL⟩=>?_
  by_cases hol:(o:Int)<n.h
  ·refine zAf<|zAd 4<|zAa<|zAI ((↑o:Int)<n.h) (by omega)<|zAk<|zAf<|zAi 3<|zAd 1<|zAa<|zAi 4 ?_
   refine zAq (fun (i,q)=>i≤n.n.length∧q.length=n.n.length∧∀ j,j<n.n.length→q.getD j false=(nxP n K w h o j||(zDq n h o&&(decide (j<i)&&hld n w o j)))) (fun (i,q)=>[(7,.own 1 (q.map PV.bool)),(9,I (i:Nat))]) (fun (i,_)=>n.n.length-i) ((0:Nat),r) ⟨by omega,ue,fun j hj=>by rw [jL j hj,decide_eq_false (Nat.not_lt_zero j),Bool.false_and,Bool.and_false,Bool.or_false]⟩ fun (i,q) ⟨hi,uf,hqv⟩=>?_
   clear jL
   by_cases yH:(i:Int)<n.n.length
   ·have jB:=zYs hqv (by omega)
    clear hL
    refine zAf<|zAd 2<|S_a [(0,.n q.length)] (ap (lnS PV.bool q) an)<|zAc 2<|zBL 32 ((↑i:Int)<(↑q.length:Int)) (by omega) (zAc 3<|S_a [(10,.ret (PV.bool (zDq n (↑h:Int) (↑o:Int))) [])] (ap (f114 n ((↑h:Int)) ((↑o:Int)) (by first | omega | (simp<;>omega))) an)<|zAc 1<|zAa<|zDt (zDq n (↑h:Int) (↑o:Int)) (fun k0=>(zAk<|zAf<|zAi 5<|zAe<|zAc 4<|S_a [(2,.ob),(1,.n i)] (ap ((by exact zAp (by simp only [List.length_map,zzLn]<;>omega)):decide (i<(List.map PV.bool q).length)=true)<|ap ((by simp):some (0+i)=some i) an)<|S_a [(0,.cs false ([PV.bool (q.getD i false)]))] (ap (zC9 (q:=PV.own 1 (List.map PV.bool q)) (xs:=List.map PV.bool q) (x:=PV.bool (q.getD i false)) rfl (zBv false (by omega)):zAs 7 (PV.own 1 (List.map PV.bool q)) [] i 0 1=some (false,[PV.bool (q.getD i false)])) an)<|zAc 1<|zCn 46 (q.getD i false) (fun k1=>(zAc 6<|S_a [(2,.ob),(1,.n i)] (ap ((by exact zAp (by simp only [List.length_map,zzLn]<;>omega)):decide (i<(List.map PV.bool q).length)=true)<|ap ((by simp):some (0+i)=some i) an)<|S_a [(8,.root (PV.own 1 (List.map PV.bool (q.set i true))) true)] (ap (zPn (zBv false (by omega)) zFV:zBx (PV.own 1 (List.map PV.bool q)) [] i 0 (PV.bool true).cells=some (PV.own 1 (List.map PV.bool (q.set i true)))∧zAF (PV.own 1 (List.map PV.bool q)) (PV.own 1 (List.map PV.bool (q.set i true))) []=true) an)<|zAa<|zAe<|zAc 1<|S_a [(1,.v (I (↑(i+1):Int)))] (ap (wrN i) an)<|zAc 1<|zAa ?_)) (fun k1=>(zAc 4<|S_a [(12,.ret (PV.bool (zHo n K o i)) [])] (ap (f113 n K o i (by omega) (by omega) (by first | omega | (simp<;>omega)) (by first | omega | (simp<;>omega))) an)<|zAc 1<|S_a [(2,.ob),(1,.n i)] (ap ((by exact zAp (by simp only [List.length_map,zzLn]<;>omega)):decide (i<(List.map PV.bool q).length)=true)<|ap ((by simp):some (0+i)=some i) an)<|S_a [(8,.root (PV.own 1 (List.map PV.bool (q.set i (zHo n K o i)))) true)] (ap (zPn (zBv false (by omega)) zFV:zBx (PV.own 1 (List.map PV.bool q)) [] i 0 (PV.bool (zHo n K o i)).cells=some (PV.own 1 (List.map PV.bool (q.set i (zHo n K o i))))∧zAF (PV.own 1 (List.map PV.bool q)) (PV.own 1 (List.map PV.bool (q.set i (zHo n K o i)))) []=true) an)<|zAa<|zAe<|zAc 1<|S_a [(1,.v (I (↑(i+1):Int)))] (ap (wrN i) an)<|zAc 1<|zAa ?_)))) (fun k0=>(zAA 4<|zAe<|zAc 1<|S_a [(1,.v (I (↑(o+1):Int)))] (ap (wrN o) an)<|zAc 1<|zAa ?_)))
    ·exact ⟨(i+1,q.set i true),⟨by omega,by rw [List.length_set];exact uf,zUi hqv uf (by omega) (by assumption) (by rw [← jB,k1];rfl)⟩,by simp only;omega,by kernel_rfl,by kernel_rfl⟩
    ·exact ⟨(i+1,q.set i (zHo n K o i)),⟨by omega,by rw [List.length_set];exact uf,zUi hqv uf (by omega) (by assumption) (by rw [← jB,k1,zQ4 ho hr (by omega) (by omega)];rfl)⟩,by simp only;omega,by kernel_rfl,by kernel_rfl⟩
    ·exact ⟨(o+1,q),⟨by omega,uf,zTT hqv (.inl (by assumption))⟩,by simp only;omega,by kernel_rfl,by kernel_rfl⟩
   ·clear hL
    refine zAf<|zAd 2<|S_a [(0,.n q.length)] (ap (lnS PV.bool q) an)<|zAc 2<|zG0 32 ((↑i:Int)<(↑q.length:Int)) (by omega) (zAc 5<|zAa<|zAw<|zAA 4<|zAe<|zAc 1<|S_a [(1,.v (I (↑(o+1):Int)))] (ap (wrN o) an)<|zAc 1<|zAa ?_)
    exact ⟨(o+1,q),⟨by omega,uf,zTT hqv (.inr (by omega))⟩,by simp only;omega,by kernel_rfl,by kernel_rfl⟩
  ·have ho2:o=n.h.toNat:=by omega
   subst ho2
   have hrr:=zWE ue jL
   have ya:L++[r]=(List.range (h+1)).map fun h=>zGm n K w h:=by
    rw [hL,hrr,List.range_succ,List.map_append,List.map_cons,List.map_nil]
   clear hL hrr jL
   refine zAf<|zAd 4<|zAa<|zAQ ((↑n.h.toNat:Int)<n.h) (by omega)<|zAA 2<|zAe<|zAc 2<|S_a [(2,.yes)] (ap ((by exact zBO (by simp<;>omega)):(Nat.beq 0 0&&(List.map PV.bool r).length.beq (List.map PV.bool r).length)=true) an)<|S_a [(4,.ob),(0,.ob),(0,.yes),(2,.v (PV.own 1 (List.map lsB (L++[r]))))] (ap (blz (List.map lsB L))<|ap ((by exact zBz (by simp only [List.length_map,zzLn,zA5]<;>omega)):((List.map lsB L).length + [PV.own 1 (List.map PV.bool r)].length).ble zA5=true)<|ap ((by exact zBO (by simp<;>omega)):(0+(List.map lsB L).length).beq (List.map lsB L).length=true)<|ap ((zA3 (zDG (by kernel_rfl))):PV.own 1 (List.map lsB L++[PV.own 1 (List.map PV.bool r)])=PV.own 1 (List.map lsB (L++[r]))) an)<|zAc 1<|zAa<|zAe<|zAc 1<|S_a [(1,.v (I (↑(h+1):Int)))] (ap (wrN h) an)<|zAc 1<|zAa ?_
   exact ⟨(h+1,L++[r]),⟨by omega,ya⟩,by simp only;omega,by kernel_rfl,by kernel_rfl⟩
 ·have e:h=n.h.toNat:=by omega
  subst e
  have hLe:L=zMF n K w:=hL
  clear hL
  refine zAf<|zAd 4<|zAa<|zAQ ((↑n.h.toNat:Int)<n.h) (by omega)<|zAA 0<|zAd 1<|S_a [(2,.yes)] (ap ((by exact zBO (by simp<;>omega)):(Nat.beq 0 0&&(List.map lsB L).length.beq (List.map lsB L).length)=true) an)<|zAa<|zAm<|E_a [(1,.yes),(1,.v (PV.own 1 (List.map lsB L)))] (ap (blz (List.map lsB L))<|ap ((zA3 zAW):PV.own 1 (List.take (List.map lsB L).length (List.drop 0 (List.map lsB L)))=PV.own 1 (List.map lsB L)) an) (PV.own 1 (List.map lsB L)) [] ?_ rfl
  rw [hLe]
end Go.Eng
set_option maxRecDepth 10000
set_option maxHeartbeats 4000000
namespace Go.Eng
open Go Go.Proofs
def zEk (n:Nw) (K:List (List Bool)):List (List Bool):=(List.range n.h.toNat).map fun h=>(List.range n.n.length).map fun i=>kn K h i||(zGG n h n.h.toNat).any fun o=>zHo n K o i
theorem zOR {n:Nw} {K:List (List Bool)} {w:List Int} (ho:NwOk n) (hr:RelK n K w):zEk n K=zMF n K w:=by
 unfold zEk zMF zGm nxB
 refine List.map_congr_left fun h _=>List.map_congr_left fun i hi=>?_
 congr 1
 rw [Bool.eq_iff_iff,List.any_eq_true,List.any_eq_true]
 refine exists_congr fun o=>and_congr_right fun hm=>?_
 rw [zQ4 ho hr (List.mem_range.1 (List.mem_filter.1 hm).1) (List.mem_range.1 hi)]
theorem f115 (n:Nw) (K:List (List Bool)) (ho:NwOk n) (hr:∃ w,RelK n K w):FG 115 [nwV n,knV K] (.own 1 ((zEk n K).map lsB)):=by
 obtain ⟨w,hr⟩:=hr
 rw [zOR ho hr]
 exact zYl n K w ho hr
def zP2 (n:Nw) (cs:List (Int×Int)):Nat→List (List Bool)
 | 0=>zLC n cs n.h.toNat
 | k+1=>zEk n (zP2 n cs k)
theorem zHB {n:Nw} {cs:List (Int×Int)} (ho:CrW n cs):∀ k,RelK n (zP2 n cs k) (zAY n cs k)
 | 0=>zUH ho
 | k+1=>by
  have ih:=zHB ho k
  show RelK n (zEk n (zP2 n cs k)) (zCF n (zAY n cs k))
  rw [zOR ho.nw ih]
  exact zTv ho.nw ih
end Go.Eng
set_option maxRecDepth 10000
set_option maxHeartbeats 4000000
namespace Go.Eng
open Go Go.Proofs
theorem zHG {α:Type} {g:α→PV} (h:∀ x,(g x).free=true):∀ l:List α,zEL (l.map g)=true
 | []=>by simp [zEL]
 | a::l=>by simp [zEL,h a,zHG h l]
theorem zF5 (K:List (List Bool)):(PV.own 1 (K.map lsB)).free=true:=by
 simp only [PV.free]
 exact zHG (fun r=>by simp only [PV.free];exact zHG (fun b=>by simp [PV.free]) r) K
end Go.Eng
set_option maxRecDepth 10000
set_option maxHeartbeats 4000000
namespace Go.Eng
open Go Go.Proofs
end Go.Eng
namespace Go.Eng
open Go Go.Proofs
end Go.Eng
namespace Go.Eng
open Go Go.Proofs
theorem zVc {a b v:Int}:v≤max a b↔v≤a∨v≤b:=by omega
theorem zQ9 {now w:List Int} {h o:Nat} (hw:w.length=80) (hh:h<10) {j:Nat} {v:Int}:∀ k,k≤8→(v≤(nxtR now h o w k).getD j 0↔v≤w.getD j 0∨∃ c,c<k∧j=h*8+c∧v≤now.getD (o*8+c) 0)
 | 0,_=>by
  refine ⟨.inl,fun h=>h.elim id fun ⟨c,h,_⟩=>absurd h (Nat.not_lt_zero c)⟩
 | k + 1,hk=>by
  have ih:=zQ9 (now:=now) (o:=o) hw hh (j:=j) (v:=v) k (by omega)
  rw [zJS,zIw (by rw [zGN,hw];omega)]
  split
  ·rename_i e
   rw [zVc,ih]
   constructor
   ·rintro ((h1 | ⟨c,h1,h2,h3⟩) | h1)
    ·exact .inl h1
    ·exact .inr ⟨c,by omega,h2,h3⟩
    ·exact .inr ⟨k,by omega,e.symm,h1⟩
   ·rintro (h1 | ⟨c,h1,h2,h3⟩)
    ·exact .inl (.inl h1)
    ·obtain rfl:c=k:=by omega
     exact .inr h3
  ·rename_i e
   rw [ih]
   refine or_congr Iff.rfl ⟨fun ⟨c,h1,h2,h3⟩=>⟨c,by omega,h2,h3⟩,fun ⟨c,h1,h2,h3⟩=>⟨c,?_,h2,h3⟩⟩
   by_cases hc:c=k
   ·subst hc;exact absurd h2.symm e
   ·omega
theorem zQP {now:List Int} {h:Nat} (hh:h<10) {j:Nat} {v:Int}:∀ (l:List Nat) {w:List Int},w.length=80→(v≤(nxtH now h w l).getD j 0↔v≤w.getD j 0∨∃ o∈l,∃ c,c<8∧j=h*8+c∧v≤now.getD (o*8+c) 0)
 | [],w,hw=>⟨.inl,fun h=>h.elim id fun ⟨o,h,_⟩=>absurd h List.not_mem_nil⟩
 | o :: l,w,hw=>by
  have ih:=zQP (now:=now) hh (j:=j) (v:=v) l (w:=nxtR now h o w 8) (by rw [zGN,hw])
  show v≤(nxtH now h (nxtR now h o w 8) l).getD j 0↔_
  rw [ih,zQ9 hw hh 8 (Nat.le_refl _)]
  constructor
  ·rintro ((h1 | h1) | ⟨o2,h1,h2⟩)
   ·exact .inl h1
   ·exact .inr ⟨o,List.mem_cons_self,h1⟩
   ·exact .inr ⟨o2,List.mem_cons_of_mem _ h1,h2⟩
  ·rintro (h1 | ⟨o2,h1,h2⟩)
   ·exact .inl (.inl h1)
   ·rcases List.mem_cons.1 h1 with e | h3
    ·subst e;exact .inl (.inr h2)
    ·exact .inr ⟨o2,h3,h2⟩
theorem zNF {n:Nw} {now:List Int} (hw:now.length=80) {j:Nat} {v:Int}:∀ k,k≤10→(v≤(nxtN n now k).getD j 0↔v≤now.getD j 0∨∃ h,h<k∧∃ o∈zGG n h n.h.toNat,∃ c,c<8∧j=h*8+c∧v≤now.getD (o*8+c) 0)
 | 0,_=>⟨.inl,fun h=>h.elim id fun ⟨c,h,_⟩=>absurd h (Nat.not_lt_zero c)⟩
 | k + 1,hk=>by
  have ih:=zNF (n:=n) hw (j:=j) (v:=v) k (by omega)
  rw [zIE,zQP (by omega) _ (by rw [zIj,hw]),ih]
  constructor
  ·rintro ((h1 | ⟨h,h1,h2⟩) | h2)
   ·exact .inl h1
   ·exact .inr ⟨h,by omega,h2⟩
   ·exact .inr ⟨k,by omega,h2⟩
  ·rintro (h1 | ⟨h,h1,h2⟩)
   ·exact .inl (.inl h1)
   ·by_cases e:h=k
    ·subst e;exact .inr h2
    ·exact .inl (.inr ⟨h,by omega,h2⟩)
theorem zQf {n:Nw} (ho:NwOk n) {w:List Int} (hw:w.length=80) {h c:Nat} (hh:h<n.h.toNat) (hc:c<8) {v:Int}:v≤(zCF n w).getD (h*8+c) 0↔v≤w.getD (h*8+c) 0∨∃ o∈zGG n h n.h.toNat,v≤w.getD (o*8+c) 0:=by
 have hH:=ho.h
 unfold zCF
 rw [zNF hw _ (by omega)]
 refine or_congr Iff.rfl ⟨fun ⟨h2,h3,o,h4,c2,h5,h6,h7⟩=>?_,fun ⟨o,h1,h2⟩=>⟨h,hh,o,h1,c,hc,rfl,h2⟩⟩
 obtain rfl:h2=h:=by omega
 obtain rfl:c2=c:=by omega
 exact ⟨o,h4,h7⟩
theorem zRO {n:Nw} (ho:NwOk n) {w:List Int} (hw:w.length=80) (j:Nat):w.getD j 0≤(zCF n w).getD j 0:=by
 have hH:=ho.h
 unfold zCF
 rw [zNF hw _ (by omega)]
 exact .inl (Int.le_refl _)
theorem zTq {n:Nw} {cs:List (Int×Int)} (ho:NwOk n) {e k:Nat} (j:Nat) (hek:e≤k):(zAY n cs e).getD j 0≤(zAY n cs k).getD j 0:=by
 induction hek with
 | refl=>exact Int.le_refl _
 | step h ih=>exact Int.le_trans ih (zRO ho (zB5 _) j)
end Go.Eng
namespace Go.Eng
open Go Go.Proofs
end Go.Eng
