/- For all numbers, cries and when the law NewsMisled ends in true: who is misled is left, and in linked towns nobody is left in the end; without conditions. -/
import Derived.Test.YtppbomajegnkeaaPf
import Derived.Test.YtppbomajegnkeaaPd
import Derived.Test.YtppbomajegnkeaaPe
set_option linter.unusedVariables false
set_option linter.unusedSimpArgs false
set_option linter.unusedSectionVars false
set_option maxRecDepth 10000
set_option maxHeartbeats 4000000
namespace Go.Eng
open Go Go.Proofs
def zSu (n:Nw) (w:List Int) (h i:Nat):Bool:=decide (w.getD (h*8+((zAj n).getD i 0).toNat) 0=i)&&decide ((zAU n).getD i 0≠i)
def zJV (n:Nw) (w:List Int) (h k:Nat):List (Int×Int):=((List.range k).filter fun i=>zSu n w h i).map fun (i:Nat)=>((h:Int),(i:Int))
def zP3 (n:Nw) (w:List Int) (h:Nat):List (Int×Int):=(List.range h).flatMap fun h=>zJV n w h n.n.length
def zBy (n:Nw) (w:List Int):List (Int×Int):=zP3 n w n.h.toNat
theorem zR9 {n:Nw} {w:List Int} {h k:Nat}:zJV n w h (k+1)=if zSu n w h k=true then zJV n w h k++[((h:Int),(k:Int))] else zJV n w h k:=by
 unfold zJV;rw [List.range_succ,List.filter_append,List.map_append]
 by_cases hn:zSu n w h k=true
 ·rw [if_pos hn];simp [hn]
 ·rw [if_neg hn];simp [hn]
theorem zJU {n:Nw} {w:List Int} {h:Nat}:zP3 n w (h+1)=zP3 n w h++zJV n w h n.n.length:=by
 unfold zP3;rw [List.range_succ,List.flatMap_append];simp
theorem zOv {n:Nw} {w:List Int} {h k:Nat}:(zJV n w h k).length≤k:=by
 unfold zJV;rw [List.length_map];exact Nat.le_trans (List.length_filter_le _ _) (by simp)
theorem zLE {n:Nw} {w:List Int}:∀ h,(zP3 n w h).length≤h*n.n.length
 | 0=>by simp [zP3]
 | h+1=>by
  have h1:=zLE (n:=n) (w:=w) h
  have h2:=zOv (n:=n) (w:=w) (h:=h) (k:=n.n.length)
  rw [zJU,List.length_append,Nat.succ_mul];omega
theorem zGS {n:Nw} {w:List Int} (ho:NwOk n):(zBy n w).length≤80:=by
 have h1:=zLE (n:=n) (w:=w) n.h.toNat
 have h2:=ho.h
 have h3:=ho.nl
 have h4:n.h.toNat*n.n.length≤10*8:=Nat.mul_le_mul (by omega) (by omega)
 unfold zBy;omega
theorem f43 (n:Nw) (cs:List (Int×Int)) (e:Int) (ho:CrW n cs) (he:0≤e∧e≤1000):FG 43 [zDT n cs,I e] (hdV (zBe n cs e.toNat)):=by
 have hn:=ho.nw
 refine zAe Try.f43 ?_
 refine zAd 1<|zAa<|zAd 1<|S_a [(5,.ret (hdV (zMF n cs)) [])] (ap (f83 n cs (by omega)) an)<|zAc 2<|zAa<|zAh<|zAd 2<|zAa<|zAk 0 ?_
 refine zAz (fun (k,w)=>k≤e.toNat∧w=zBe n cs k) (fun (k,w)=>[(5,.box (hdV w)),(9,I (k:Nat))]) (fun (k,_)=>e.toNat-k) ((0:Nat),zMF n cs) ⟨by omega,rfl⟩ fun (k,w) ⟨hk,hw⟩=>?_
 have hwl:w.length=80:=by rw [hw];exact zBI k
 by_cases vR:(k:Int)<e
 ·refine zAd 1<|zAa<|zAh<|zA5 ((↑k:Int)<e) (by omega)<|zAl<|zAh<|zAk 1<|zAg<|zAc 2<|S_a [(7,.ret (hdV (zCz n w)) [])] (ap (f84 n cs w (by omega) (by omega)) an)<|zAc 1<|zAa<|zAg<|S_a [(1,.v (I (↑(k+1):Int)))] (ap (wrN k) an)<|zAc 1<|zAa ?_
  exact ⟨(k+1,zCz n w),⟨by omega,by rw [hw];rfl⟩,by simp only;omega,by kernel_rfl,by kernel_rfl⟩
 ·refine zAd 1<|zAa<|zAh<|zBd ((↑k:Int)<e) (by omega)<|zAO 0<|zAd 2<|zAa<|zAn<|E_a [] an (PV.agg (zAt w 80)) [] ?_ rfl
  rw [hw,show k=e.toNat by omega]
theorem f42 (n:Nw) (cs:List (Int×Int)) (w:List Int) (ho:NwOk n) (hw:w.length=80):FG 42 [zDT n cs,hdV w] (.own 2 ((zBy n w).map prV)):=by
 have hb:=ho.h
 have wB:=ho.nl
 refine zAe Try.f42 ?_
 refine zAd 2<|zAa<|zAd 1<|zAa<|zAh<|zAd 6<|zAa<|zAk 0 ?_
 refine zAz (fun (h,l)=>h≤n.h.toNat∧l=zP3 n w h) (fun (h,l)=>[(5,.own 2 (l.map prV)),(13,I (h:Nat))]) (fun (h,_)=>n.h.toNat-h) ((0:Nat),([]:List (Int×Int))) ⟨by omega,rfl⟩ fun (h,l) ⟨hh,hl⟩=>?_
 have qd:l.length≤h*8:=by
  have h1:=zLE (n:=n) (w:=w) h
  rw [← hl] at h1
  exact Nat.le_trans h1 (Nat.mul_le_mul (Nat.le_refl _) (by omega))
 by_cases gw:(h:Int)<n.h
 ·have yH:=zJU (n:=n) (w:=w) (h:=h)
  rw [← hl] at yH
  refine zAd 1<|zAa<|zAh<|zA5 ((↑h:Int)<n.h) (by omega)<|zAl<|zAh<|zAk 1<|zAd 2<|zAa<|zAd 5<|S_a [(0,.n n.n.length)] (ap (lnS ntV n.n) an)<|zAc 1<|zAa<|zAk 2 ?_
  refine zAz (fun (i,m)=>i≤n.n.length∧m=l++zJV n w h i) (fun (i,m)=>[(5,.own 2 (m.map prV)),(22,I (i:Nat))]) (fun (i,_)=>n.n.length-i) ((0:Nat),l) ⟨by omega,by simp [zJV]⟩ fun (i,m) ⟨hi,hm⟩=>?_
  have hml:m.length≤88:=by
   have:=zOv (n:=n) (w:=w) (h:=h) (k:=i)
   rw [hm,List.length_append];omega
  by_cases yR:i<n.n.length
  ·have j3:=zR9 (n:=n) (w:=w) (h:=h) (k:=i)
   have hfb:=zCA ho i yR
   have gj:0≤(zAj n).getD i 0∧(zAj n).getD i 0<8:=by omega
   clear yH
   have ju:zSu n w h i=false→m=l++zJV n w h (i+1):=fun hg=>by rw [j3,if_neg (by rw [hg];simp)];exact hm
   refine zAd 1<|zAa<|zAh<|zA5 ((↑i:Int)<(↑n.n.length:Int)) (by omega)<|zAl<|zAh<|zAk 3<|zAd 2<|zAa<|zAd 5<|S_a [(2,.ob),(0,.v ((I ((zAj n).getD i 0)).ref))] (ap ((by exact zAp (by omega)):decide (i<8)=true)<|ap (zGt (F:=zAj n) (m:=8) (j:=i) (by omega):zCl (PV.agg (zAt (zAj n) 8)).ref (i*(fun x=>x.size) Try.prog.types[3]) none=some (I ((zAj n).getD i 0)).ref) an)<|zAc 1<|S_a [(2,.ob)] (ap ((by exact zAp (by omega)):decide (h<10)=true) an)<|S_a [(0,.ob),(1,.ob)] (ap ((by exact zAp (by omega)):decide (0≤(zAj n).getD i 0)=true)<|ap ((by exact zAp (by omega)):decide (((zAj n).getD i 0).toNat<8)=true) an)<|S_a [(0,.cs true ([I (w.getD (h*8+((zAj n).getD i 0).toNat) 0)]))] (ap (zC8 (q:=(PV.agg (zAt w 80)).box) (xs:=[PV.agg (zAt w 80)]) (x:=PV.agg (zAt w 80)) rfl rfl (zEY (F:=w) (m:=80) (j:=h*8+((zAj n).getD i 0).toNat) (by first | rfl | exact zB1 (by kernel_rfl) | exact zB6 (by kernel_rfl) | exact zB0 (by kernel_rfl) (by kernel_rfl) | exact zB8 (by kernel_rfl) | exact zCa (by kernel_rfl) (by kernel_rfl) | exact zB5 (by kernel_rfl) | (simp;done)) (by omega)):zAs 3 (PV.agg (zAt w 80)).box [] 0 (0+(↑h:Int).toNat*(fun x=>x.size) Try.prog.types[89]+((zAj n).getD i 0).toNat*(fun x=>x.size) Try.prog.types[3]) 1=some (true,[I (w.getD (h*8+((zAj n).getD i 0).toNat) 0)])) an)<|zAc 3<|zIR 37 (w.getD (h*8+((zAj n).getD i 0).toNat) 0=(↑i:Int)) (fun k0=>(zAc 4<|S_a [(2,.ob),(0,.v ((I ((zAU n).getD i 0)).ref))] (ap ((by exact zAp (by omega)):decide (i<8)=true)<|ap (zGt (F:=zAU n) (m:=8) (j:=i) (by omega):zCl (PV.agg (zAt (zAU n) 8)).ref (i*(fun x=>x.size) Try.prog.types[3]) none=some (I ((zAU n).getD i 0)).ref) an)<|zAc 4<|zAa<|zD9 ((zAU n).getD i 0=(↑i:Int)) (fun k1=>(zAg<|zAc 5<|S_a [(4,.ob),(0,.ob),(0,.yes),(2,.v (PV.own 2 (List.map prV (m++[((↑h:Int),(↑i:Int))]))))] (ap (blz (List.map prV m))<|ap ((by exact zBb (by simp only [List.length_map,zzLn,zAY]<;>omega)):((List.map prV m).length + [PV.agg [I (↑h:Int),I (↑i:Int)]].length).ble zAY=true)<|ap ((by exact zBR (by simp<;>omega)):(0+(List.map prV m).length).beq (List.map prV m).length=true)<|ap ((zA8 (zBV (by kernel_rfl))):PV.own 2 (List.map prV m++[PV.agg [I (↑h:Int),I (↑i:Int)]])=PV.own 2 (List.map prV (m++[((↑h:Int),(↑i:Int))]))) an)<|zAc 1<|zAa<|zAg<|S_a [(1,.v (I (↑(i+1):Int)))] (ap (wrN i) an)<|zAc 1<|zAa ?_)) (fun k1=>(zAl<|zAg<|S_a [(1,.v (I (↑(i+1):Int)))] (ap (wrN i) an)<|zAc 1<|zAa ?_)))) (fun k0=>(zAc 9<|zAa<|zAN<|zAl<|zAg<|S_a [(1,.v (I (↑(i+1):Int)))] (ap (wrN i) an)<|zAc 1<|zAa ?_))
   ·have hg:zSu n w h i=true:=by simp only [zSu,decide_eq_true k0,Bool.true_and,decide_eq_true_eq];exact k1
    exact ⟨(i+1,m++[((h:Int),(i:Int))]),⟨by omega,by rw [j3,if_pos hg,hm,List.append_assoc]⟩,by simp only;omega,by kernel_rfl,by kernel_rfl⟩
   ·exact ⟨(i+1,m),⟨by omega,ju (by simp only [zSu,decide_eq_true k0,Bool.true_and,decide_eq_false_iff_not];exact fun h=>h k1)⟩,by simp only;omega,by kernel_rfl,by kernel_rfl⟩
   ·exact ⟨(i+1,m),⟨by omega,ju (by simp only [zSu,decide_eq_false k0,Bool.false_and])⟩,by simp only;omega,by kernel_rfl,by kernel_rfl⟩
  ·refine zAd 1<|zAa<|zAh<|zBd ((↑i:Int)<(↑n.n.length:Int)) (by omega)<|zAO 2<|zAg<|S_a [(1,.v (I (↑(h+1):Int)))] (ap (wrN h) an)<|zAc 1<|zAa ?_
   exact ⟨(h+1,m),⟨by omega,by rw [yH,hm,show i=n.n.length by omega]⟩,by simp only;omega,by kernel_rfl,by kernel_rfl⟩
 ·have e:h=n.h.toNat:=by omega
  subst e
  refine zAd 1<|zAa<|zAh<|zBd ((↑n.h.toNat:Int)<n.h) (by omega)<|zAO 0<|zAd 1<|S_a [(2,.yes)] (ap ((by exact zBR (by simp<;>omega)):(Nat.beq 0 0&&(List.map prV l).length.beq (List.map prV l).length)=true) an)<|zAa<|zAn<|E_a [(1,.yes),(1,.v (PV.own 2 (List.map prV l)))] (ap (blz (List.map prV l))<|ap ((zA8 zBx):PV.own 2 (List.take (List.map prV l).length (List.drop 0 (List.map prV l)))=PV.own 2 (List.map prV l)) an) (PV.own 2 (List.map prV l)) [] ?_ rfl
  rw [hl];rfl
theorem f9_1 (n:Nw) (cs:List (Int×Int)) (e:Int) (ho:EvOk n cs e):FG 9 [nwV n,prs cs,I e] (.tup [.own 2 ((zBy n (zBe n cs e.toNat)).map prV),I 0]):=by
 have hc:=ho.cr
 have wH:=hc.w
 have hn:=hc.nw
 have he:=ho.ev
 have hw:=zBI (n:=n) (cs:=cs) e.toNat
 refine zAe Try.f9 ?_
 refine zAd 3<|zAa<|zAd 3<|S_a [(10,.ret (PV.tup [zDT n cs,I 0]) [])] (ap (f41_1 n cs e (by omega)) an)<|zAc 5<|zAa<|zAh<|zAd 2<|zAa<|zAN<|zAl<|zAd 3<|S_a [(7,.ret (hdV (zBe n cs e.toNat)) [])] (ap (f43 n cs e (by omega) (by omega)) an)<|S_a [(7,.ret (PV.own 2 (List.map prV (zBy n (zBe n cs e.toNat)))) [])] (ap (f42 n cs (zBe n cs e.toNat) (by omega) (by omega)) an)<|zAc 2<|zAa<|zAn<|E_a [(1,.yes),(1,.v (PV.own 2 (List.map prV (zBy n (zBe n cs e.toNat)))))] (ap (blz (List.map prV (zBy n (zBe n cs e.toNat))))<|ap ((zA8 zBx):PV.own 2 (List.take (List.map prV (zBy n (zBe n cs e.toNat))).length (List.drop 0 (List.map prV (zBy n (zBe n cs e.toNat)))))=PV.own 2 (List.map prV (zBy n (zBe n cs e.toNat)))) an) (PV.tup [PV.own 2 (List.map prV (zBy n (zBe n cs e.toNat))),I 0]) [] rfl rfl
def msl (n:Nw) (l:List (Int×Int)):List Int:=(l.filter fun g => !(n.n.getD g.2.toNat default).2).map Prod.fst
theorem zTB {n:Nw} {l:List (Int×Int)} {i:Nat} (hi:i<l.length):msl n (l.take (i+1))=if (n.n.getD (l.getD i default).2.toNat default).2=true then msl n (l.take i) else msl n (l.take i)++[(l.getD i default).1]:=by
 unfold msl;rw [zDm (d:=default) hi,List.filter_append,List.map_append]
 generalize l.getD i default=g
 cases hb:(n.n.getD g.2.toNat default).2
 ·rw [List.filter_cons_of_pos (by rw [hb];rfl)];rfl
 ·rw [List.filter_cons_of_neg (by rw [hb];simp)];simp
theorem zNm {n:Nw} {w:List Int} {g:Int×Int} (hg:g∈zBy n w):∃ h i:Nat,h<n.h.toNat∧i<n.n.length∧g=((h:Int),(i:Int))∧zSu n w h i=true:=by
 simp only [zBy,zP3,List.mem_flatMap,List.mem_range,zJV,List.mem_map,List.mem_filter] at hg
 obtain ⟨h,hh,i,⟨hi,hb⟩,rfl⟩:=hg
 exact ⟨h,i,hh,hi,rfl,hb⟩
theorem f15_1 (n:Nw) (cs:List (Int×Int)) (e:Int) (ho:EvOk n cs e):FG 15 [nwV n,prs cs,I e] (.tup [.own 1 ((zFB (msl n (zBy n (zBe n cs e.toNat)))).map I),I 0]):=by
 have hn:=ho.cr.nw
 have hZ:=zGS (w:=zBe n cs e.toNat) hn
 have yt:∀ g∈zBy n (zBe n cs e.toNat),0≤g.2∧g.2<n.n.length:=fun g hg=>by
  obtain ⟨h,i,h1,h2,rfl,_⟩:=zNm hg
  simp only;omega
 have h1:=f9_1 n cs e ho
 generalize zBy n (zBe n cs e.toNat)=G at *
 refine zAe Try.f15 ?_
 refine zAd 3<|zAa<|zAd 3<|S_a [(10,.ret (PV.tup [PV.own 2 (List.map prV G),I 0]) [])] (ap h1 an)<|zAc 5<|zAa<|zAh<|zAd 2<|zAa<|zAN<|zAl<|zAd 1<|zAa<|zAh<|zAd 1<|S_a [(0,.n G.length)] (ap (lnS prV G) an)<|zAc 1<|zAa<|zAk 0 ?_
 refine zAz (fun (i,l)=>i≤G.length∧l=msl n (G.take i)) (fun (i,l)=>[(10,.own 1 (l.map I)),(25,I (i:Nat))]) (fun (i,_)=>G.length-i) ((0:Nat),([]:List Int)) ⟨by omega,by simp [msl]⟩ fun (i,l) ⟨hi,hl⟩=>?_
 have qd:l.length≤i:=by
  rw [hl,msl,List.length_map]
  exact Nat.le_trans (List.length_filter_le _ _) (by rw [List.length_take];omega)
 by_cases yR:i<G.length
 ·have yw:=zTB (n:=n) yR
  rw [← hl] at yw
  have hgi:=zCp (d:=default) yt i yR
  clear h1 yt
  refine zAd 1<|zAa<|zAh<|zA5 ((↑i:Int)<(↑G.length:Int)) (by omega)<|zAl<|zAh<|zAk 1<|zAh<|zAg<|S_a [(2,.ob),(1,.n i)] (ap ((by exact zAp (by simp only [List.length_map,zzLn]<;>omega)):decide (i<(List.map prV G).length)=true)<|ap ((by simp):some (0+i)=some i) an)<|S_a [(0,.cs true ([I (G.getD i default).fst,I (G.getD i default).snd]))] (ap (zC8 (q:=PV.own 2 (List.map prV G)) (xs:=List.map prV G) (x:=PV.agg [I (G.getD i default).fst,I (G.getD i default).snd]) rfl (zCG default (by omega)):zAs 8 (PV.own 2 (List.map prV G)) [] i 0 Try.prog.types[42].size=some (true,[I (G.getD i default).fst,I (G.getD i default).snd])) an)<|zAc 2<|zAa<|zAd 4<|S_a [(0,.ob),(1,.v (PV.agg [I (n.n.getD (G.getD i default).snd.toNat default).fst,PV.bool (n.n.getD (G.getD i default).snd.toNat default).snd]))] (ap ((by exact zAp (by omega)):decide (0≤(G.getD i default).snd)=true)<|ap (zCG default (by omega):(List.map ntV n.n)[(G.getD i default).snd.toNat]? = some (PV.agg [I (n.n.getD (G.getD i default).snd.toNat default).fst,PV.bool (n.n.getD (G.getD i default).snd.toNat default).snd])) an)<|zAc 3<|zAa<|zED (!(n.n.getD (G.getD i default).snd.toNat default).snd) (fun k0=>(zAg<|zAc 4<|S_a [(4,.ob),(0,.ob),(0,.yes),(2,.v (PV.own 1 (List.map I (l++[(G.getD i default).fst]))))] (ap (blz (List.map I l))<|ap ((by exact zBb (by simp only [List.length_map,zzLn,zAY]<;>omega)):((List.map I l).length + [I (G.getD i default).fst].length).ble zAY=true)<|ap ((by exact zBR (by simp<;>omega)):(0+(List.map I l).length).beq (List.map I l).length=true)<|ap ((zA8 (zBV (by kernel_rfl))):PV.own 1 (List.map I l++[I (G.getD i default).fst])=PV.own 1 (List.map I (l++[(G.getD i default).fst]))) an)<|zAc 1<|zAa<|zAg<|S_a [(1,.v (I (↑(i+1):Int)))] (ap (wrN i) an)<|zAc 1<|zAa ?_)) (fun k0=>(zAl<|zAg<|S_a [(1,.v (I (↑(i+1):Int)))] (ap (wrN i) an)<|zAc 1<|zAa ?_))
  ·rw [Bool.not_eq_true'] at k0
   rw [if_neg (by rw [k0];simp)] at yw
   exact ⟨(i+1,l++[(G.getD i default).1]),⟨by omega,yw.symm⟩,by simp only;omega,by kernel_rfl,by kernel_rfl⟩
  ·rw [Bool.not_eq_false'] at k0
   rw [if_pos k0] at yw
   exact ⟨(i+1,l),⟨by omega,yw.symm⟩,by simp only;omega,by kernel_rfl,by kernel_rfl⟩
 ·rw [List.take_of_length_le (by omega)] at hl
  rw [← hl]
  clear h1 yt
  refine zAd 1<|zAa<|zAh<|zBd ((↑i:Int)<(↑G.length:Int)) (by omega)<|zAO 0<|zAd 1<|S_a [(3,.ob),(1,.v (PV.own 1 (List.map I l))),(2,.ret (PV.own 1 (List.map I (zFB l))) [])] (ap ((by exact zBb (by simp only [List.length_map,zzLn,zAY]<;>omega)):(List.map I l).length.ble (List.map I l).length=true)<|ap ((zA8 zBx):PV.own 1 (List.take (List.map I l).length (List.drop 0 (List.map I l)))=PV.own 1 (List.map I l))<|ap (f54 l (by omega)) an)<|zAc 2<|zAa<|zAn<|E_a [(1,.yes),(1,.v (PV.own 1 (List.map I (zFB l))))] (ap (blz (List.map I (zFB l)))<|ap ((zA8 zBx):PV.own 1 (List.take (List.map I (zFB l)).length (List.drop 0 (List.map I (zFB l))))=PV.own 1 (List.map I (zFB l))) an) (PV.tup [PV.own 1 (List.map I (zFB l)),I 0]) [] rfl rfl
theorem f48_1 (n:Nw) (cs:List (Int×Int)) (k:Nat) (ho:CrOk n cs) (hk:k≤1000) (he:zBe n cs (k+1)=zBe n cs k) (hm:∀ j,j<k→zBe n cs (j+1)≠zBe n cs j):FG 48 [nwV n,prs cs] (.tup [I k,I 0]):=by
 have hn:=ho.nw
 have wH:=ho.w
 have y1:=zOm (n:=n) (cs:=cs)
 refine zAe Try.f48 ?_
 refine zAd 3<|zAa<|zAd 2<|S_a [(8,.ret (PV.tup [zDT n cs,I 0]) [])] (ap (f82_1 n cs (by omega)) an)<|zAc 5<|zAa<|zAh<|zAd 2<|zAa<|zAN<|zAl<|zAd 1<|S_a [(5,.ret (hdV (zMF n cs)) [])] (ap (f83 n cs (by omega)) an)<|zAc 3<|zAa<|zAh<|zAd 2<|S_a [(7,.ret (hdV (zCz n (zMF n cs))) [])] (ap (f84 n cs (zMF n cs) (by omega) (by omega)) an)<|zAc 2<|zAa<|zAk 0 ?_
 refine zAz (fun j=>j≤k) (fun (j:Nat)=>[(8,I (j:Nat)),(9,.box (hdV (zBe n cs j))),(10,.box (hdV (zBe n cs (j+1))))]) (fun j=>k-j) (0:Nat) (by omega) fun j hj=>?_
 have v8:=zBI (n:=n) (cs:=cs) j
 have ws:=zBI (n:=n) (cs:=cs) (j+1)
 by_cases gU:j<k
 ·have hI:=hm j gU
  refine zAh<|zAd 2<|S_a [(0,.v (PV.bool !decide (zBe n cs (j+1)=zBe n cs j)))] (ap (zQ9 80 (by omega) (by omega):zH4 Try.prog BinOp.neq 91 (PV.agg (zAt (zBe n cs (j+1)) 80)) (PV.agg (zAt (zBe n cs j) 80))=some (PV.bool !decide (zBe n cs (j+1)=zBe n cs j))) an)<|zAa<|zLw (zBe n cs (j+1)=zBe n cs j) (by omega)<|zAl<|zAh<|zAk 1<|zAd 2<|zAa<|zAg<|zAc 1<|S_a [(1,.v (I (↑(j+1):Int)))] (ap (wrN j) an)<|zAc 1<|zAa<|zAh<|zAd 1<|zAa<|zAg<|zAc 2<|zAa<|zAg<|zAc 2<|S_a [(7,.ret (hdV (zCz n (zBe n cs (j+1)))) [])] (ap (f84 n cs (zBe n cs (j+1)) (by omega) (by omega)) an)<|zAc 1<|zAa ?_
  exact ⟨j+1,by omega,by omega,by kernel_rfl,by kernel_rfl⟩
 ·have e:j=k:=by omega
  subst e
  refine zAh<|zAd 2<|S_a [(0,.v (PV.bool !decide (zBe n cs (j+1)=zBe n cs j)))] (ap (zQ9 80 (by omega) (by omega):zH4 Try.prog BinOp.neq 91 (PV.agg (zAt (zBe n cs (j+1)) 80)) (PV.agg (zAt (zBe n cs j) 80))=some (PV.bool !decide (zBe n cs (j+1)=zBe n cs j))) an)<|zAa<|zNX (zBe n cs (j+1)=zBe n cs j) (by omega)<|zAO 0<|zAd 3<|zAa<|zAn<|E_a [] an (PV.tup [I (↑j:Int),I 0]) [] rfl rfl
def zUH (n:Nw) (cs:List (Int×Int)) (k:Nat):Int:=(List.range k).foldl (fun a k=>if zBy n (zBe n cs k)=[] then a else (k:Int)+1) 0
theorem zRq {n:Nw} {cs:List (Int×Int)} {k:Nat}:zUH n cs (k+1)=if zBy n (zBe n cs k)=[] then zUH n cs k else (k:Int)+1:=by
 simp only [zUH,List.range_succ,List.foldl_append,List.foldl_cons,List.foldl_nil]
theorem f52_1 (n:Nw) (cs:List (Int×Int)) (ho:CrOk n cs):FG 52 [nwV n,prs cs] (.tup [if zBy n (zBe n cs 12)=[] then I (zUH n cs 12) else I 0,if zBy n (zBe n cs 12)=[] then I 0 else I 6]):=by
 have hn:=ho.nw
 have wH:=ho.w
 refine zAe Try.f52 ?_
 refine zAd 3<|zAa<|zAd 2<|S_a [(8,.ret (PV.tup [zDT n cs,I 0]) [])] (ap (f82_1 n cs (by omega)) an)<|zAc 5<|zAa<|zAh<|zAd 2<|zAa<|zAN<|zAl<|zAd 1<|S_a [(5,.ret (hdV (zMF n cs)) [])] (ap (f83 n cs (by omega)) an)<|zAc 3<|zAa<|zAh<|zAd 1<|zAa<|zAk 0 ?_
 refine zAz (fun k=>k≤12) (fun (k:Nat)=>[(8,I (zUH n cs k)),(9,.box (hdV (zBe n cs k))),(22,I (k:Nat))]) (fun k=>12-k) (0:Nat) (by omega) fun k hk=>?_
 have v8:=zBI (n:=n) (cs:=cs) k
 have hgl:=zGS (w:=zBe n cs k) hn
 by_cases vR:k<12
 ·have j3:=zRq (n:=n) (cs:=cs) (k:=k)
  refine zAd 1<|zAa<|zAh<|zA5 ((↑k:Int)<12) (by omega)<|zAl<|zAh<|zAk 1<|zAd 2<|zAa<|zAh<|zAd 2<|S_a [(7,.ret (PV.own 2 (List.map prV (zBy n (zBe n cs k)))) [])] (ap (f42 n cs (zBe n cs k) (by omega) (by omega)) an)<|S_a [(0,.n ((zBy n (zBe n cs k)).length))] (ap (lnS prV (zBy n (zBe n cs k))) an)<|zAc 1<|zAa<|zDa ((↑(zBy n (zBe n cs k)).length:Int)>0) (fun k1=>(zAg<|zAc 1<|S_a [(1,.v (I (↑(k+1):Int)))] (ap (wrN k) an)<|zAc 1<|zAa<|zAg<|zAc 2<|S_a [(7,.ret (hdV (zCz n (zBe n cs k))) [])] (ap (f84 n cs (zBe n cs k) (by omega) (by omega)) an)<|zAc 1<|zAa<|zAg<|S_a [(1,.v (I (↑(k+1):Int)))] (ap (wrN k) an)<|zAc 1<|zAa ?_)) (fun k1=>(zAl<|zAg<|zAc 2<|S_a [(7,.ret (hdV (zCz n (zBe n cs k))) [])] (ap (f84 n cs (zBe n cs k) (by omega) (by omega)) an)<|zAc 1<|zAa<|zAg<|S_a [(1,.v (I (↑(k+1):Int)))] (ap (wrN k) an)<|zAc 1<|zAa ?_))
  ·rw [if_neg (by intro h;rw [h] at k1;simp at k1)] at j3
   exact ⟨k+1,by omega,by omega,by rw [j3];kernel_rfl,by kernel_rfl⟩
  ·rw [if_pos (List.eq_nil_of_length_eq_zero (by omega))] at j3
   exact ⟨k+1,by omega,by omega,by rw [j3];kernel_rfl,by kernel_rfl⟩
 ·have e:k=12:=by omega
  subst e
  refine zAd 1<|zAa<|zAh<|zAN<|zAO 0<|zAh<|zAd 2<|S_a [(7,.ret (PV.own 2 (List.map prV (zBy n (zBe n cs 12)))) [])] (ap (f42 n cs (zBe n cs 12) (by omega) (by omega)) an)<|S_a [(0,.n ((zBy n (zBe n cs 12)).length))] (ap (lnS prV (zBy n (zBe n cs 12))) an)<|zAc 1<|zAa<|zDa ((↑(zBy n (zBe n cs 12)).length:Int)>0) (fun k0=>(zAd 2<|zAa<|zAn<|E_a [] an (PV.tup [I 0,I 6]) [] ?_ rfl)) (fun k0=>(zAl<|zAd 3<|zAa<|zAn<|E_a [] an (PV.tup [I (zUH n cs 12),I 0]) [] ?_ rfl))
  ·have h:¬ zBy n (zBe n cs 12)=[]:=by intro h;rw [h] at k0;simp at k0
   rw [if_neg h,if_neg h]
  ·have h:zBy n (zBe n cs 12)=[]:=List.eq_nil_of_length_eq_zero (by omega)
   rw [if_pos h,if_pos h]
end Go.Eng
namespace Go.Eng
open Go Go.Proofs
theorem zGW {n:Nw} (ho:NwOk n) (j:Nat):∀ i,j<i→i≤n.n.length→(zOQ n.n i).getD j 0=(zOQ n.n (j+1)).getD j 0
 | 0,h,_=>absurd h (Nat.not_lt_zero j)
 | i + 1,h,hi=>by
  have h8:=ho.nl.2
  by_cases hj:j=i
  ·subst hj;rfl
  ·rw [zOQ,zIC (zGH i) (by omega) (ho.na i (by omega)),if_neg hj]
   exact zGW ho j i (by omega) (by omega)
theorem zMX {n:Nw} (ho:NwOk n) {i:Nat} (hi:i<n.n.length):(zAj n).getD i 0=if (n.n.getD i default).1 = -1 then (i:Int) else (zAj n).getD (n.n.getD i default).1.toNat 0:=by
 have h8:=ho.nl.2
 have ha:=ho.na i hi
 unfold zAj
 rw [zGW ho i n.n.length hi (Nat.le_refl _),zOQ,zIC (zGH i) (by omega) ha,if_pos rfl]
 split
 ·rfl
 ·rename_i hI
  rw [zGW ho (n.n.getD i default).1.toNat i (by omega) (by omega),zGW ho (n.n.getD i default).1.toNat n.n.length (by omega) (Nat.le_refl _)]
def chn (n:Nw) (i j:Nat):Prop:=(zAj n).getD i 0=(zAj n).getD j 0
theorem zS5 {n:Nw} (ho:NwOk n):∀ (j i:Nat),i<j→j<n.n.length→chn n i j→∃ k,i<k∧k≤j∧k<n.n.length∧(n.n.getD k default).1=i∧chn n k j:=by
 intro j
 induction j using Nat.strongRecOn with
 | ind j ih =>
  intro i hij hj hc
  have ha:=ho.na j hj
  have hr:=zMX ho hj
  have uM:=zCA ho i (by omega)
  by_cases h:(n.n.getD j default).1 = -1
  ·rw [if_pos h] at hr
   unfold chn at hc
   omega
  ·rw [if_neg h] at hr
   by_cases he:(n.n.getD j default).1=(i:Int)
   ·exact ⟨j,hij,Nat.le_refl _,hj,he,rfl⟩
   ·by_cases yC:(i:Int)<(n.n.getD j default).1
    ·obtain ⟨k,h1,h2,h3,h4,h5⟩:=ih (n.n.getD j default).1.toNat (by omega) i (by omega) (by omega) (by unfold chn at hc ⊢;rw [hc,hr])
     exact ⟨k,h1,by omega,h3,h4,by unfold chn at h5 ⊢;rw [h5,hr]⟩
    ·
     exfalso
     obtain ⟨k,h1,h2,h3,h4,_⟩:=ih i hij (n.n.getD j default).1.toNat (by omega) (by omega) (by unfold chn at hc ⊢;rw [← hr,hc])
     exact ho.nd j k (by omega) hj h (by rw [h4];omega)
theorem zF8 {F L:List Int} {i j:Nat} (h:i≠j):∀ k,(zSA F i L k).getD j 0=L.getD j 0
 | 0=>rfl
 | k+1=>by
  rw [zHg,zLR]
  split
  ·rw [zBZ,if_neg (fun h2=>h h2.1)];exact zF8 h k
  ·exact zF8 h k
theorem zRo {F L:List Int} {i:Nat} (hL:L.length=8) (hi:i<8) (h0:L.getD i 0=0):∀ k,∃ l:Nat,(zSA F i L k).getD i 0=l∧(l=0∨l<k∧F.getD l 0=F.getD i 0)∧∀ j,j<k→F.getD j 0=F.getD i 0→j≤l
 | 0=>⟨0,h0,.inl rfl,fun j hj=>absurd hj (Nat.not_lt_zero j)⟩
 | k + 1 => by
  obtain ⟨l,h1,h2,h3⟩:=zRo hL hi h0 k
  rw [zHg,zLR]
  split
  ·rename_i hk
   refine ⟨max l k,?_,?_,fun j hj hf=>?_⟩
   ·rw [zBZ,if_pos ⟨rfl,by rw [zIc];omega⟩,h1];omega
   ·by_cases yE:l≤k
    ·right;rw [Nat.max_eq_right yE];exact ⟨by omega,hk⟩
    ·rw [Nat.max_eq_left (by omega)]
     rcases h2 with h2 | ⟨h2,h4⟩
     ·exact .inl h2
     ·exact .inr ⟨by omega,h4⟩
   ·by_cases gU:j=k
    ·omega
    ·have:=h3 j (by omega) hf;omega
  ·rename_i hk
   refine ⟨l,h1,?_,fun j hj hf=>?_⟩
   ·rcases h2 with h2 | ⟨h2,h4⟩
    ·exact .inl h2
    ·exact .inr ⟨by omega,h4⟩
   ·by_cases gU:j=k
    ·subst gU;exact absurd hf hk
    ·exact h3 j (by omega) hf
theorem zM5 {F:List Int} {m:Nat}:∀ i j,i≤j→(zP4 F m i).getD j 0=0
 | 0,j,_=>by
  simp only [zP4,List.range_zero,List.foldl_nil,List.getD_eq_getElem?_getD,List.getElem?_replicate]
  split<;>rfl
 | i+1,j,h=>by rw [zFH,zF8 (by omega)];exact zM5 i j (by omega)
theorem zMe {F:List Int} {m j:Nat}:∀ i,j<i→(zP4 F m i).getD j 0=(zP4 F m (j+1)).getD j 0
 | 0,h=>absurd h (Nat.not_lt_zero j)
 | i+1,h=>by
  by_cases hj:j=i
  ·subst hj;rfl
  ·rw [zFH,zF8 (by omega)];exact zMe i (by omega)
theorem zHa {n:Nw} (ho:NwOk n) {i:Nat} (hi:i<n.n.length):∃ l:Nat,(zAU n).getD i 0=l∧l<n.n.length∧chn n l i∧i≤l∧∀ k,k<n.n.length→chn n k i→k≤l:=by
 have h8:=ho.nl.2
 obtain ⟨l,h1,h2,h3⟩:=zRo (F:=zAj n) (i:=i) (zKO (F:=zAj n) (m:=n.n.length) i) (by omega) (zM5 i i (Nat.le_refl i)) n.n.length
 have yR:=h3 i hi rfl
 refine ⟨l,?_,?_,?_,yR,fun k hk hc=>h3 k hk hc⟩
 ·unfold zAU
  rw [zMe n.n.length hi,zFH];exact h1
 ·rcases h2 with h2 | ⟨h2,_⟩<;>omega
 ·rcases h2 with h2 | ⟨_,h4⟩
  ·have:i=l:=by omega
   subst this;rfl
  ·exact h4
end Go.Eng
set_option maxRecDepth 10000
set_option maxHeartbeats 4000000
namespace Go.Eng
open Go Go.Proofs
def zNw (a b:Int) (x:Int×Int):Bool:=decide (x.1=a∧x.2=b∨x.1=b∧x.2=a)
def zWd (n:Nw) (a b:Int):Bool:=n.l.any (zNw a b)
theorem zUo {a b:Int} {x:Int×Int}:pr2 x=pr2 (a,b)↔x.1=a∧x.2=b∨x.1=b∧x.2=a:=by
 obtain ⟨c,d⟩:=x
 simp only [pr2,Prod.mk.injEq]
 constructor
 ·rintro ⟨h1,h2⟩
  repeat' split at h1
  all_goals (repeat' split at h2)
  all_goals omega
 ·intro h
  constructor
  ·repeat' split
   all_goals omega
  ·repeat' split
   all_goals omega
theorem zVh {n:Nw} {a b:Int}:zWd n a b=zDP n a b:=by
 rw [Bool.eq_iff_iff]
 simp only [zWd,zDP,List.any_eq_true,zNw,decide_eq_true_eq,List.mem_map]
 constructor
 ·rintro ⟨x,hx,h⟩;exact ⟨x,hx,zUo.2 h⟩
 ·rintro ⟨x,hx,h⟩;exact ⟨x,hx,zUo.1 h⟩
end Go.Eng
set_option maxRecDepth 10000
set_option maxHeartbeats 4000000
namespace Go.Eng
open Go Go.Proofs
abbrev bls (l:List Bool):PV := .sl (l.map PV.bool)
def kn (K:List (List Bool)) (h i:Nat):Bool:=(K.getD h []).getD i false
structure RelK (n:Nw) (K:List (List Bool)) (w:List Int):Prop where
 len:K.length=n.h.toNat
 row:∀ r∈K,r.length=n.n.length
 wl:w.length=80
 top:∀ h i,h<n.h.toNat→i<n.n.length→kn K h i=true→(i:Int)≤w.getD (h*8+((zAj n).getD i 0).toNat) 0
 at_:∀ h c,h<n.h.toNat→c<8→w.getD (h*8+c) 0 = -1∨∃ i,i<n.n.length∧(zAj n).getD i 0=c∧w.getD (h*8+c) 0=i∧kn K h i=true
def hld (n:Nw) (w:List Int) (h i:Nat):Bool:=decide (w.getD (h*8+((zAj n).getD i 0).toNat) 0=i)
theorem zU2 {n:Nw} (ho:NwOk n) {i k:Nat} (hk:k<n.n.length) (h:(n.n.getD k default).1=i):i<k∧chn n k i:=by
 have ha:=ho.na k hk
 have hr:=zMX ho hk
 refine ⟨by omega,?_⟩
 rw [if_neg (by omega),h,Int.toNat_natCast] at hr
 exact hr
end Go.Eng
set_option maxRecDepth 10000
set_option maxHeartbeats 4000000
namespace Go.Eng
open Go Go.Proofs
def hrB (n:Nw) (h i:Int) (c:Int×Int):Bool:=decide (c.1=i)&&has (n.s.getD c.2.toNat []) h
def zJ2 (n:Nw) (cs:List (Int×Int)) (h i:Int):Bool:=cs.any (hrB n h i)
end Go.Eng
set_option maxRecDepth 10000
set_option maxHeartbeats 4000000
namespace Go.Eng
open Go Go.Proofs
abbrev lsB (l:List Bool):PV := .own 1 (l.map PV.bool)
instance:FrzOf lsB bls:=⟨fun x=>by simp only [zAS,zET]⟩
end Go.Eng
namespace Go.Eng
open Go Go.Proofs
structure Tr (n:Nw) (w:List Int) (S:Nat→Nat→Prop):Prop where
 wl:w.length=80
 at_:∀ h c,h<n.h.toNat→c<8→w.getD (h*8+c) 0 = -1∨∃ i,i<n.n.length∧(zAj n).getD i 0=(c:Int)∧w.getD (h*8+c) 0=i∧S h i
 top:∀ h i,h<n.h.toNat→i<n.n.length→S h i→(i:Int)≤w.getD (h*8+((zAj n).getD i 0).toNat) 0
theorem zIw {w:List Int} {i j:Nat} {x:Int} (hi:i<w.length):(zP5 w i x).getD j 0=if i=j then max (w.getD j 0) x else w.getD j 0:=by
 unfold zP5
 rw [zBZ]
 by_cases h:i=j
 ·subst h;rw [if_pos ⟨rfl,hi⟩,if_pos rfl]
 ·rw [if_neg (fun h2=>h h2.1),if_neg h]
theorem Tr.upd {n:Nw} {w:List Int} {S:Nat→Nat→Prop} (ho:NwOk n) (ht:Tr n w S) {h0 i0:Nat} (hh:h0<n.h.toNat) (hi:i0<n.n.length):Tr n (zP5 w (h0*8+((zAj n).getD i0 0).toNat) i0) (fun h i=>S h i∨h=h0∧i=i0):=by
 have wB:=ho.nl.2
 have hH:=ho.h.2
 have hf0:=zCA ho i0 hi
 have yC:h0*8+((zAj n).getD i0 0).toNat<w.length:=by rw [ht.wl];omega
 refine ⟨by rw [zIo];exact ht.wl,fun h c qm hc=>?_,fun h i qm hi1 hS=>?_⟩
 ·rw [zIw yC]
  split
  ·rename_i he
   have e1:h=h0:=by omega
   have e2:((zAj n).getD i0 0).toNat=c:=by omega
   have e3:(zAj n).getD i0 0=(c:Int):=by omega
   subst e1
   have hw:=ht.at_ h c qm hc
   by_cases hm:w.getD (h*8+c) 0≤(i0:Int)
   ·right
    exact ⟨i0,hi,e3,by rw [Int.max_eq_right hm],.inr ⟨rfl,rfl⟩⟩
   ·rcases hw with hw | ⟨i,g1,g2,g3,g4⟩
    ·omega
    ·right;exact ⟨i,g1,g2,by rw [Int.max_eq_left (by omega)];exact g3,.inl g4⟩
  ·rcases ht.at_ h c qm hc with hw | ⟨i,g1,g2,g3,g4⟩
   ·exact .inl hw
   ·exact .inr ⟨i,g1,g2,g3,.inl g4⟩
 ·rw [zIw yC]
  have gj:=zCA ho i hi1
  rcases hS with hS | ⟨rfl,rfl⟩
  ·have:=ht.top h i qm hi1 hS
   split<;>omega
  ·rw [if_pos rfl];omega
theorem Tr.same {n:Nw} {w:List Int} {S S':Nat→Nat→Prop} (ht:Tr n w S) (h:∀ a i,a<n.h.toNat→i<n.n.length→(S a i↔S' a i)):Tr n w S' :=
 ⟨ht.wl,fun a c ha hc=>by
  rcases ht.at_ a c ha hc with h1 | ⟨i,g1,g2,g3,g4⟩
  ·exact .inl h1
  ·exact .inr ⟨i,g1,g2,g3,(h a i ha g1).1 g4⟩,fun a i ha hi hs=>ht.top a i ha hi ((h a i ha hi).2 hs)⟩
theorem Tr.none (n:Nw) (ho:NwOk n):Tr n (List.replicate 80 (-1)) (fun _ _=>False):=by
 have hH:=ho.h.2
 refine ⟨by simp,fun h c hh hc => .inl ?_,fun _ _ _ _ h=>h.elim⟩
 rw [zAB (by rw [List.length_replicate];omega),List.getElem_replicate]
end Go.Eng
namespace Go.Eng
open Go Go.Proofs
theorem Tr.begC {n:Nw} {w:List Int} {S:Nat→Nat→Prop} (ho:NwOk n) (ht:Tr n w S) {h:Nat} (hh:h<n.h.toNat) {c:Int×Int} (hc:0≤c.1∧c.1<n.n.length):Tr n (begC n h w c) (fun a i=>S a i∨a=h∧hrB n h i c=true):=by
 unfold Go.Eng.begC
 split
 ·rename_i hs
  have:=ht.upd ho hh (i0:=c.1.toNat) (by omega)
  rw [Int.toNat_of_nonneg hc.1] at this
  refine this.same fun a i _ _=>?_
  simp only [hrB,hs,Bool.and_true,decide_eq_true_eq]
  refine or_congr Iff.rfl (and_congr Iff.rfl ⟨fun e=>by omega,fun e=>by omega⟩)
 ·rename_i hs
  refine ht.same fun a i _ _=>?_
  have h2:has (n.s.getD c.2.toNat []) h=false:=by
   cases hx:has (n.s.getD c.2.toNat []) h
   ·rfl
   ·exact absurd hx hs
  simp only [hrB,h2,Bool.and_false,Bool.false_eq_true,and_false,or_false]
theorem Tr.begH {n:Nw} (ho:NwOk n) {h:Nat} (hh:h<n.h.toNat):∀ (cs:List (Int×Int)) {w:List Int} {S:Nat→Nat→Prop},Tr n w S→(∀ c∈cs,0≤c.1∧c.1<n.n.length)→Tr n (begH n h w cs) (fun a i=>S a i∨a=h∧zJ2 n cs h i=true)
 | [],w,S,ht,_=>ht.same fun a i _ _=>by simp [zJ2]
 | c::cs,w,S,ht,hc=>by
  have h1:=Tr.begH ho hh cs (ht.begC ho hh (hc c List.mem_cons_self)) fun d hd=>hc d (List.mem_cons_of_mem _ hd)
  refine Tr.same (w:=Go.Eng.begH n h w (c::cs)) h1 fun a i _ _=>?_
  simp only [zJ2,List.any_cons,Bool.or_eq_true,or_assoc,and_or_left]
theorem Tr.begN {n:Nw} {cs:List (Int×Int)} (ho:CrW n cs):∀ k,k≤n.h.toNat→Tr n (begN n cs k) (fun a i=>a<k∧zJ2 n cs a i=true)
 | 0,_=>(Tr.none n ho.nw).same fun a i _ _=>by simp
 | k + 1,hk=>by
  rw [zIM]
  refine (Tr.begH ho.nw (by omega) cs (Tr.begN ho k (by omega)) fun c hc=>(ho.cs c hc).1).same fun a i _ _=>?_
  constructor
  ·rintro (⟨h1,h2⟩ | ⟨rfl,h2⟩)
   ·exact ⟨by omega,h2⟩
   ·exact ⟨by omega,h2⟩
  ·rintro ⟨h1,h2⟩
   by_cases e:a=k
   ·subst e;exact .inr ⟨rfl,h2⟩
   ·exact .inl ⟨by omega,h2⟩
end Go.Eng
namespace Go.Eng
open Go Go.Proofs
theorem Tr.skip {n:Nw} {w:List Int} {S:Nat→Nat→Prop} (ho:NwOk n) (ht:Tr n w S) {h0 c0:Nat} (hh:h0<n.h.toNat) (hc:c0<8):Tr n (zP5 w (h0*8+c0) (-1)) S:=by
 have hH:=ho.h.2
 have yC:h0*8+c0<w.length:=by rw [ht.wl];omega
 have hge : -1≤w.getD (h0*8+c0) 0:=by
  rcases ht.at_ h0 c0 hh hc with h | ⟨i,_,_,h,_⟩<;>omega
 have he:∀ j,(zP5 w (h0*8+c0) (-1)).getD j 0=w.getD j 0:=fun j=>by
  rw [zIw yC]
  split
  ·rename_i e;subst e;exact Int.max_eq_left hge
  ·rfl
 exact ⟨by rw [zIo];exact ht.wl,fun h c h1 h2=>by rw [he];exact ht.at_ h c h1 h2,fun h i h1 h2 h3=>by rw [he];exact ht.top h i h1 h2 h3⟩
theorem Tr.nxtR {n:Nw} {now:List Int} {S0:Nat→Nat→Prop} (ho:NwOk n) (h0:Tr n now S0) {h o:Nat} (hh:h<n.h.toNat) (qe:o<n.h.toNat) {w:List Int} {S:Nat→Nat→Prop} (ht:Tr n w S):∀ k,k≤8→Tr n (nxtR now h o w k) (fun a i=>S a i∨a=h∧(zAj n).getD i 0<(k:Int)∧hld n now o i=true)
 | 0,_=>Tr.same (w:=Go.Eng.nxtR now h o w 0) ht fun a i _ hi=>by
  have:=zCA ho i hi
  exact ⟨.inl,fun h=>h.elim id fun h=>by have:=h.2.1;omega⟩
 | k + 1,hk=>by
  have ih:=Tr.nxtR ho h0 hh qe ht k (by omega)
  have e:Go.Eng.nxtR now h o w (k+1)=zP5 (Go.Eng.nxtR now h o w k) (h*8+k) (now.getD (o*8+k) 0):=by
   simp only [Go.Eng.nxtR,List.range_succ,List.foldl_append,List.foldl_cons,List.foldl_nil]
  rw [e]
  rcases h0.at_ o k qe (by omega) with hm | ⟨j,g1,g2,g3,_⟩
  ·rw [hm]
   refine (ih.skip ho hh (by omega)).same fun a i _ hi=>or_congr Iff.rfl (and_congr Iff.rfl ⟨fun ⟨x,y⟩=>⟨by omega,y⟩,fun ⟨x,y⟩=>⟨?_,y⟩⟩)
   have hf:=zCA ho i hi
   by_cases ek:(zAj n).getD i 0=(k:Int)
   ·simp only [hld,decide_eq_true_eq,ek,Int.toNat_natCast,hm] at y
    omega
   ·omega
  ·have:=ih.upd ho hh g1
   rw [g2,Int.toNat_natCast] at this
   rw [g3]
   refine this.same fun a i _ hi=>?_
   have hf:=zCA ho i hi
   constructor
   ·rintro ((x | ⟨x,y,z⟩) | ⟨rfl,rfl⟩)
    ·exact .inl x
    ·exact .inr ⟨x,by omega,z⟩
    ·refine .inr ⟨rfl,by omega,?_⟩
     simp only [hld,decide_eq_true_eq,g2,Int.toNat_natCast,g3]
   ·rintro (x | ⟨rfl,y,z⟩)
    ·exact .inl (.inl x)
    ·by_cases ek:(zAj n).getD i 0=(k:Int)
     ·simp only [hld,decide_eq_true_eq,ek,Int.toNat_natCast,g3] at z
      exact .inr ⟨rfl,by omega⟩
     ·exact .inl (.inr ⟨rfl,by omega,z⟩)
theorem Tr.nxtH {n:Nw} {now:List Int} {S0:Nat→Nat→Prop} (ho:NwOk n) (h0:Tr n now S0) {h:Nat} (hh:h<n.h.toNat):∀ (l:List Nat),(∀ o∈l,o<n.h.toNat)→∀ {w:List Int} {S:Nat→Nat→Prop},Tr n w S→Tr n (nxtH now h w l) (fun a i=>S a i∨a=h∧(l.any fun o=>hld n now o i)=true)
 | [],_,w,S,ht=>Tr.same (w:=Go.Eng.nxtH now h w []) ht fun a i _ _=>by simp
 | o::l,hl,w,S,ht=>by
  have h1:=Tr.nxtH ho h0 hh l (fun x hx=>hl x (List.mem_cons_of_mem _ hx)) (Tr.nxtR ho h0 hh (hl o List.mem_cons_self) ht 8 (Nat.le_refl _))
  refine Tr.same (w:=Go.Eng.nxtH now h w (o::l)) h1 fun a i _ hi=>?_
  have hf:=zCA ho i hi
  have wB:=ho.nl.2
  simp only [List.any_cons,Bool.or_eq_true,and_or_left,or_assoc]
  refine or_congr Iff.rfl (or_congr (and_congr Iff.rfl ⟨fun x=>x.2,fun x=>⟨by omega,x⟩⟩) Iff.rfl)
theorem Tr.nxtN {n:Nw} {now:List Int} {S0:Nat→Nat→Prop} (ho:NwOk n) (h0:Tr n now S0):∀ k,k≤n.h.toNat→Tr n (nxtN n now k) (fun a i=>S0 a i∨a<k∧((zHT n a n.h.toNat).any fun o=>hld n now o i)=true)
 | 0,_=>Tr.same (w:=Go.Eng.nxtN n now 0) h0 fun a i _ _=>by simp
 | k + 1,hk=>by
  have ih:=Tr.nxtN ho h0 k (by omega)
  have e:Go.Eng.nxtN n now (k+1)=Go.Eng.nxtH now k (Go.Eng.nxtN n now k) (zHT n k n.h.toNat):=by
   simp only [Go.Eng.nxtN,List.range_succ,List.foldl_append,List.foldl_cons,List.foldl_nil]
  rw [e]
  refine (Tr.nxtH ho h0 (by omega) _ (fun o hm=>List.mem_range.1 (List.mem_filter.1 hm).1) ih).same fun a i _ _=>?_
  constructor
  ·rintro ((x | ⟨x,y⟩) | ⟨rfl,y⟩)
   ·exact .inl x
   ·exact .inr ⟨by omega,y⟩
   ·exact .inr ⟨by omega,y⟩
  ·rintro (x | ⟨x,y⟩)
   ·exact .inl (.inl x)
   ·by_cases ea:a=k
    ·subst ea;exact .inr ⟨rfl,y⟩
    ·exact .inl (.inr ⟨by omega,y⟩)
end Go.Eng
set_option maxRecDepth 10000
set_option maxHeartbeats 4000000
namespace Go.Eng
open Go Go.Proofs
instance (n:Nw) (i j:Nat):Decidable (chn n i j):=inferInstanceAs (Decidable ((zAj n).getD i 0=(zAj n).getD j 0))
end Go.Eng
set_option maxRecDepth 10000
set_option maxHeartbeats 4000000
namespace Go.Eng
open Go Go.Proofs
end Go.Eng
set_option maxRecDepth 10000
set_option maxHeartbeats 4000000
namespace Go.Eng
open Go Go.Proofs
end Go.Eng
set_option maxRecDepth 10000
set_option maxHeartbeats 4000000
namespace Go.Eng
open Go Go.Proofs
end Go.Eng
namespace Go.Eng
open Go Go.Proofs
end Go.Eng
namespace Go.Eng
open Go Go.Proofs
theorem zKm {α:Type} {p q:α→Bool}:∀ {l:List α},(∀ x∈l,p x=true→q x=true)→l.countP p≤l.countP q
 | [],_=>Nat.le_refl _
 | a::l,h=>by
  have ih:=zKm (l:=l) fun x hx=>h x (List.mem_cons_of_mem _ hx)
  have h1:=h a List.mem_cons_self
  rw [List.countP_cons,List.countP_cons]
  cases hp:p a
  ·rw [if_neg (by simp)];split<;>omega
  ·rw [h1 hp,if_pos rfl];omega
theorem zKf {α:Type} {p q:α→Bool}:∀ {l:List α},(∀ x∈l,p x=true→q x=true)→(∃ x∈l,q x=true∧p x=false)→l.countP p<l.countP q
 | [],_,⟨_,h,_⟩=>absurd h List.not_mem_nil
 | a :: l,h,⟨x,hx,h1,h2⟩=>by
  have hl:=fun x (hx:x∈l)=>h x (List.mem_cons_of_mem _ hx)
  have ha:=h a List.mem_cons_self
  rw [List.countP_cons,List.countP_cons]
  rcases List.mem_cons.1 hx with e | hm
  ·subst e
   have ih:=zKm hl
   rw [h2,if_neg (by simp),h1,if_pos rfl];omega
  ·have ih:=zKf hl ⟨x,hm,h1,h2⟩
   cases hp:p a
   ·rw [if_neg (by simp)];split<;>omega
   ·rw [ha hp,if_pos rfl];omega
theorem zXK {H:Nat} (p:Nat→Nat→Bool) (hm:∀ e h,h<H→p e h=true→p (e+1) h=true) (hd:∀ e,(∀ h,h<H→p (e+1) h=p e h)→∀ h,h<H→p (e+1+1) h=p (e+1) h) (h0:(∀ h,h<H→p 0 h=false)→∀ h,h<H→p 1 h=false) {e:Nat} (he:H≤e+1):∀ h,h<H→p (e+1) h=p e h:=by
 have kW:∀ k e,(∀ h,h<H→p (e+1) h=p e h)→∀ h,h<H→p (e+k+1) h=p (e+k) h:=by
  intro k
  induction k with
  | zero=>intro e h;exact h
  | succ k ih=>intro e h;exact hd (e+k) (ih e h)
 apply Classical.byContradiction
 intro hI
 have wQ:∀ e',e'≤e→∃ h,h<H∧p (e'+1) h=true∧p e' h=false:=by
  intro e' h1
  apply Classical.byContradiction
  intro h2
  apply hI
  have h3:∀ h,h<H→p (e'+1) h=p e' h:=by
   intro h hh
   cases hp:p e' h
   ·cases hq:p (e'+1) h
    ·rfl
    ·exact absurd ⟨h,hh,hq,hp⟩ h2
   ·exact hm e' h hh hp
  have:=kW (e-e') e' h3
  rwa [show e'+(e-e')=e by omega] at this
 have hc:∀ k,k≤e+1→k+1≤(List.range H).countP (p k):=by
  intro k
  induction k with
  | zero =>
   intro _
   apply Classical.byContradiction
   intro hz
   have js:(List.range H).countP (p 0)=0:=by omega
   rw [List.countP_eq_zero] at js
   obtain ⟨h,hh,h1,_⟩:=wQ 0 (Nat.zero_le _)
   have:=h0 (fun h hh=>by simpa using js h (List.mem_range.2 hh)) h hh
   rw [this] at h1;cases h1
  | succ k ih =>
   intro hk
   have ih:=ih (by omega)
   obtain ⟨h,hh,h1,h2⟩:=wQ k (by omega)
   have:=zKf (l:=List.range H) (fun x hx=>hm k x (List.mem_range.1 hx)) ⟨h,List.mem_range.2 hh,h1,h2⟩
   omega
 have h1:=hc (e+1) (Nat.le_refl _)
 have h2:=List.countP_le_length (p:=p (e+1)) (l:=List.range H)
 rw [List.length_range] at h2
 omega
theorem zUL {a b v:Int}:v≤max a b↔v≤a∨v≤b:=by omega
theorem zQI {now w:List Int} {h o:Nat} (hw:w.length=80) (hh:h<10) {j:Nat} {v:Int}:∀ k,k≤8→(v≤(nxtR now h o w k).getD j 0↔v≤w.getD j 0∨∃ c,c<k∧j=h*8+c∧v≤now.getD (o*8+c) 0)
 | 0,_=>by
  refine ⟨.inl,fun h=>h.elim id fun ⟨c,h,_⟩=>absurd h (Nat.not_lt_zero c)⟩
 | k + 1,hk=>by
  have ih:=zQI (now:=now) (o:=o) hw hh (j:=j) (v:=v) k (by omega)
  rw [zJu,zIw (by rw [zGV,hw];omega)]
  split
  ·rename_i e
   rw [zUL,ih]
   constructor
   ·rintro ((h1 | ⟨c,h1,h2,h3⟩) | h1)
    ·exact .inl h1
    ·exact .inr ⟨c,by omega,h2,h3⟩
    ·exact .inr ⟨k,by omega,e.symm,h1⟩
   ·rintro (h1 | ⟨c,h1,h2,h3⟩)
    ·exact .inl (.inl h1)
    ·obtain rfl:c=k:=by omega
     exact .inr h3
  ·rename_i e
   rw [ih]
   refine or_congr Iff.rfl ⟨fun ⟨c,h1,h2,h3⟩=>⟨c,by omega,h2,h3⟩,fun ⟨c,h1,h2,h3⟩=>⟨c,?_,h2,h3⟩⟩
   by_cases hc:c=k
   ·subst hc;exact absurd h2.symm e
   ·omega
theorem zRV {now:List Int} {h:Nat} (hh:h<10) {j:Nat} {v:Int}:∀ (l:List Nat) {w:List Int},w.length=80→(v≤(nxtH now h w l).getD j 0↔v≤w.getD j 0∨∃ o∈l,∃ c,c<8∧j=h*8+c∧v≤now.getD (o*8+c) 0)
 | [],w,hw=>⟨.inl,fun h=>h.elim id fun ⟨o,h,_⟩=>absurd h List.not_mem_nil⟩
 | o :: l,w,hw=>by
  have ih:=zRV (now:=now) hh (j:=j) (v:=v) l (w:=nxtR now h o w 8) (by rw [zGV,hw])
  show v≤(nxtH now h (nxtR now h o w 8) l).getD j 0↔_
  rw [ih,zQI hw hh 8 (Nat.le_refl _)]
  constructor
  ·rintro ((h1 | h1) | ⟨o2,h1,h2⟩)
   ·exact .inl h1
   ·exact .inr ⟨o,List.mem_cons_self,h1⟩
   ·exact .inr ⟨o2,List.mem_cons_of_mem _ h1,h2⟩
  ·rintro (h1 | ⟨o2,h1,h2⟩)
   ·exact .inl (.inl h1)
   ·rcases List.mem_cons.1 h1 with e | h3
    ·subst e;exact .inl (.inr h2)
    ·exact .inr ⟨o2,h3,h2⟩
theorem zLn {n:Nw} {now:List Int} (hw:now.length=80) {j:Nat} {v:Int}:∀ k,k≤10→(v≤(nxtN n now k).getD j 0↔v≤now.getD j 0∨∃ h,h<k∧∃ o∈zHT n h n.h.toNat,∃ c,c<8∧j=h*8+c∧v≤now.getD (o*8+c) 0)
 | 0,_=>⟨.inl,fun h=>h.elim id fun ⟨c,h,_⟩=>absurd h (Nat.not_lt_zero c)⟩
 | k + 1,hk=>by
  have ih:=zLn (n:=n) hw (j:=j) (v:=v) k (by omega)
  rw [zJz,zRV (by omega) _ (by rw [zH8,hw]),ih]
  constructor
  ·rintro ((h1 | ⟨h,h1,h2⟩) | h2)
   ·exact .inl h1
   ·exact .inr ⟨h,by omega,h2⟩
   ·exact .inr ⟨k,by omega,h2⟩
  ·rintro (h1 | ⟨h,h1,h2⟩)
   ·exact .inl (.inl h1)
   ·by_cases e:h=k
    ·subst e;exact .inr h2
    ·exact .inl (.inr ⟨h,by omega,h2⟩)
theorem zNv {n:Nw} (ho:NwOk n) {w:List Int} (hw:w.length=80) {h c:Nat} (hh:h<n.h.toNat) (hc:c<8) {v:Int}:v≤(zCz n w).getD (h*8+c) 0↔v≤w.getD (h*8+c) 0∨∃ o∈zHT n h n.h.toNat,v≤w.getD (o*8+c) 0:=by
 have hH:=ho.h
 unfold zCz
 rw [zLn hw _ (by omega)]
 refine or_congr Iff.rfl ⟨fun ⟨h2,h3,o,h4,c2,h5,h6,h7⟩=>?_,fun ⟨o,h1,h2⟩=>⟨h,hh,o,h1,c,hc,rfl,h2⟩⟩
 obtain rfl:h2=h:=by omega
 obtain rfl:c2=c:=by omega
 exact ⟨o,h4,h7⟩
theorem zRe {n:Nw} (ho:NwOk n) {w:List Int} (hw:w.length=80) {j:Nat} (hj:n.h.toNat*8≤j):(zCz n w).getD j 0=w.getD j 0:=by
 have hH:=ho.h
 have key:∀ v:Int,v≤(zCz n w).getD j 0↔v≤w.getD j 0:=fun v=>by
  unfold zCz
  rw [zLn hw _ (by omega)]
  refine ⟨fun h=>h.elim id fun ⟨h2,h3,o,h4,c2,h5,h6,h7⟩=>?_,.inl⟩
  omega
 have h1:=(key _).1 (Int.le_refl _)
 have h2:=(key _).2 (Int.le_refl _)
 omega
theorem zQm {n:Nw} (ho:NwOk n) {w:List Int} (hw:w.length=80) (j:Nat):w.getD j 0≤(zCz n w).getD j 0:=by
 have hH:=ho.h
 unfold zCz
 rw [zLn hw _ (by omega)]
 exact .inl (Int.le_refl _)
theorem zOW {n:Nw} {cs:List (Int×Int)} (ho:NwOk n) {e k:Nat} (j:Nat) (hek:e≤k):(zBe n cs e).getD j 0≤(zBe n cs k).getD j 0:=by
 induction hek with
 | refl=>exact Int.le_refl _
 | step h ih=>exact Int.le_trans ih (zQm ho (zBI _) j)
theorem zLB {n:Nw} {cs:List (Int×Int)} (ho:NwOk n) {j:Nat} (hj:n.h.toNat*8≤j):∀ e,(zBe n cs e).getD j 0=(zBe n cs 0).getD j 0
 | 0=>rfl
 | e+1=>by
  show (zCz n (zBe n cs e)).getD j 0=_
  rw [zRe ho (zBI e) hj,zLB ho hj e]
theorem zUJ {a b:List Int} (hl:a.length=b.length) (h:∀ j,j<a.length→a.getD j 0=b.getD j 0):a=b :=
 List.ext_getElem hl fun j h1 h2=>by have:=h j h1;rwa [zAB h1,zAB h2] at this
theorem zP6 {n:Nw} {cs:List (Int×Int)} (ho:NwOk n) {e:Nat} (he:n.h.toNat≤e+1):zBe n cs (e+1)=zBe n cs e:=by
 refine zUJ (by rw [zBI,zBI]) fun j hj=>?_
 rw [zBI] at hj
 by_cases hr:n.h.toNat*8≤j
 ·rw [zLB ho hr,zLB (n:=n) ho hr e]
 ·have hc:j % 8<8:=Nat.mod_lt _ (by omega)
  have hh:j / 8<n.h.toNat:=by omega
  have hj2:j=j / 8*8+j % 8:=by omega
  have key:∀ v:Int,v≤(zBe n cs (e+1)).getD j 0↔v≤(zBe n cs e).getD j 0:=fun v=>by
   have yH:∀ k h,h<n.h.toNat→(v≤(zBe n cs (k+1)).getD (h*8+j % 8) 0↔v≤(zBe n cs k).getD (h*8+j % 8) 0∨∃ o∈zHT n h n.h.toNat,v≤(zBe n cs k).getD (o*8+j % 8) 0):=fun k h hh=>zNv ho (zBI k) hh hc
   have wq:∀ h o,o∈zHT n h n.h.toNat→o<n.h.toNat:=fun h o hm=>List.mem_range.1 (List.mem_filter.1 hm).1
   have:=zXK (H:=n.h.toNat) (fun k h=>decide (v≤(zBe n cs k).getD (h*8+j % 8) 0)) (fun k h hh h1=>?_) (fun k h1 h hh=>?_) (fun h1 h hh=>?_) he (j / 8) hh
   ·simp only [decide_eq_decide] at this
    rw [← hj2] at this
    exact this
   ·simp only [decide_eq_true_eq] at h1 ⊢
    exact (yH k h hh).2 (.inl h1)
   ·simp only [decide_eq_decide] at h1 ⊢
    rw [yH (k+1) h hh,yH k h hh]
    constructor
    ·rintro (h2 | ⟨o,h2,h3⟩)
     ·exact h2
     ·exact .inr ⟨o,h2,(h1 o (wq h o h2)).1 h3⟩
    ·exact .inl
   ·simp only [decide_eq_false_iff_not] at h1 ⊢
    rw [yH 0 h hh]
    rintro (h2 | ⟨o,h2,h3⟩)
    ·exact h1 h hh h2
    ·exact h1 o (wq h o h2) h3
  have h1:=(key _).1 (Int.le_refl _)
  have h2:=(key _).2 (Int.le_refl _)
  omega
end Go.Eng
set_option maxRecDepth 10000
set_option maxHeartbeats 4000000
namespace Go.Eng
open Go Go.Proofs
def zNS (n:Nw) (i:Nat):Bool:=decide ((zAU n).getD i 0=i) && !(n.n.getD i default).2
def zDh (p:Nat→Bool) (k:Nat):List Int:=((List.range k).filter p).map fun (i:Nat)=>(i:Int)
theorem zHs {p:Nat→Bool} {k:Nat}:zDh p (k+1)=if p k=true then zDh p k++[(k:Int)] else zDh p k:=by
 unfold zDh;rw [List.range_succ,List.filter_append,List.map_append]
 by_cases hn:p k=true
 ·rw [if_pos hn];simp [hn]
 ·rw [if_neg hn];simp [hn]
theorem zJh {p:Nat→Bool} {k:Nat}:(zDh p k).length≤k:=by
 unfold zDh;rw [List.length_map];exact Nat.le_trans (List.length_filter_le _ _) (by simp)
theorem f16_1 (n:Nw) (ho:NwOk n):FG 16 [nwV n] (.tup [.own 1 ((zDh (zNS n) n.n.length).map I),I 0]):=by
 have wB:=ho.nl
 refine zAe Try.f16 ?_
 refine zAd 3<|zAa<|zAd 1<|S_a [(6,.ret (PV.tup [(zCN n (PV.own 2 []) (zVx (List.map pr2 n.l)) (zAj n) (zAU n)).box,I 0]) [])] (ap (f55_1 n (by omega)) an)<|zAc 5<|zAa<|zAh<|zAd 2<|zAa<|zAN<|zAl<|zAd 1<|zAa<|zAh<|zAd 2<|S_a [(0,.n n.n.length)] (ap (lnS ntV n.n) an)<|zAc 1<|zAa<|zAk 0 ?_
 refine zAz (fun (i,l)=>i≤n.n.length∧l=zDh (zNS n) i) (fun (i,l)=>[(6,.own 1 (l.map I)),(20,I (i:Nat))]) (fun (i,_)=>n.n.length-i) ((0:Nat),([]:List Int)) ⟨by omega,by simp [zDh]⟩ fun (i,l) ⟨hi,hl⟩=>?_
 have qd:l.length≤i:=by rw [hl];exact zJh
 by_cases yR:i<n.n.length
 ·have yw:=zHs (p:=zNS n) (k:=i)
  rw [← hl] at yw
  have ju:zNS n i=false→l=zDh (zNS n) (i+1):=fun h=>by rw [yw,if_neg (by rw [h];simp)]
  refine zAd 1<|zAa<|zAh<|zA5 ((↑i:Int)<(↑n.n.length:Int)) (by omega)<|zAl<|zAh<|zAk 1<|zAd 1<|S_a [(2,.v (PV.agg [I (n.n.getD i default).fst,PV.bool (n.n.getD i default).snd]))] (ap (zCG default (by omega):(List.map ntV n.n)[i]? = some (PV.agg [I (n.n.getD i default).fst,PV.bool (n.n.getD i default).snd])) an)<|zAc 4<|zAa<|zAd 4<|S_a [(2,.ob),(1,.v (PV.addr 4 [] 0 (14+i) none))] (ap ((by exact zAp (by omega)):decide (i<8)=true)<|ap ((zFL (by kernel_rfl)):PV.addr 4 [] 0 (14+i*(fun x=>x.size) Try.prog.types[3]) none=PV.addr 4 [] 0 (14+i) none) an)<|S_a [(0,.cs true ([I ((zAU n).getD i 0)]))] (ap (zC8 (q:=(PV.agg (I n.h::prs n.l::PV.sl (List.map ntV n.n)::PV.sl (List.map zBi n.s)::PV.own 2 []::PV.omap (List.map zBE (List.map pr2 n.l))::(zAt (zAj n) 8++zAt (zAU n) 8))).box) (xs:=[PV.agg (I n.h::prs n.l::PV.sl (List.map ntV n.n)::PV.sl (List.map zBi n.s)::PV.own 2 []::PV.omap (List.map zBE (List.map pr2 n.l))::(zAt (zAj n) 8++zAt (zAU n) 8))]) (x:=PV.agg (I n.h::prs n.l::PV.sl (List.map ntV n.n)::PV.sl (List.map zBi n.s)::PV.own 2 []::PV.omap (List.map zBE (List.map pr2 n.l))::(zAt (zAj n) 8++zAt (zAU n) 8))) rfl rfl (zKz (A:=I n.h::prs n.l::PV.sl (List.map ntV n.n)::PV.sl (List.map zBi n.s)::PV.own 2 []::PV.omap (List.map zBE (List.map pr2 n.l))::zAt (zAj n) 8) (B:=[]) (F:=zAU n) (m:=8) (j:=i) (by first | rfl | exact zB1 (by kernel_rfl) | exact zB6 (by kernel_rfl) | exact zB0 (by kernel_rfl) (by kernel_rfl) | exact zB8 (by kernel_rfl) | exact zCa (by kernel_rfl) (by kernel_rfl) | exact zB5 (by kernel_rfl) | (simp;done)) (by omega)):zAs 4 (PV.agg (I n.h::prs n.l::PV.sl (List.map ntV n.n)::PV.sl (List.map zBi n.s)::PV.own 2 []::PV.omap (List.map zBE (List.map pr2 n.l))::(zAt (zAj n) 8++zAt (zAU n) 8))).box [] 0 (14+i) 1=some (true,[I ((zAU n).getD i 0)])) an)<|zAc 3<|zIR 33 ((zAU n).getD i 0=(↑i:Int)) (fun k0=>(zAc 4<|zAa<|zED (!(n.n.getD i default).snd) (fun k1=>(zAg<|zAc 3<|S_a [(4,.ob),(0,.ob),(0,.yes),(2,.v (PV.own 1 (List.map I (l++[(↑i:Int)]))))] (ap (blz (List.map I l))<|ap ((by exact zBb (by simp only [List.length_map,zzLn,zAY]<;>omega)):((List.map I l).length + [I (↑i:Int)].length).ble zAY=true)<|ap ((by exact zBR (by simp<;>omega)):(0+(List.map I l).length).beq (List.map I l).length=true)<|ap ((zA8 (zBV (by kernel_rfl))):PV.own 1 (List.map I l++[I (↑i:Int)])=PV.own 1 (List.map I (l++[(↑i:Int)]))) an)<|zAc 1<|zAa<|zAg<|S_a [(1,.v (I (↑(i+1):Int)))] (ap (wrN i) an)<|zAc 1<|zAa ?_)) (fun k1=>(zAl<|zAg<|S_a [(1,.v (I (↑(i+1):Int)))] (ap (wrN i) an)<|zAc 1<|zAa ?_)))) (fun k0=>(zAc 4<|zAa<|zAN<|zAl<|zAg<|S_a [(1,.v (I (↑(i+1):Int)))] (ap (wrN i) an)<|zAc 1<|zAa ?_))
  ·rw [if_pos (by simp only [zNS,decide_eq_true k0,k1];rfl)] at yw
   exact ⟨(i+1,l++[(i:Int)]),⟨by omega,yw.symm⟩,by simp only;omega,by kernel_rfl,by kernel_rfl⟩
  ·exact ⟨(i+1,l),⟨by omega,ju (by simp only [zNS,decide_eq_true k0,k1];rfl)⟩,by simp only;omega,by kernel_rfl,by kernel_rfl⟩
  ·exact ⟨(i+1,l),⟨by omega,ju (by simp only [zNS,decide_eq_false k0,Bool.false_and])⟩,by simp only;omega,by kernel_rfl,by kernel_rfl⟩
 ·refine zAd 1<|zAa<|zAh<|zBd ((↑i:Int)<(↑n.n.length:Int)) (by omega)<|zAO 0<|zAd 1<|S_a [(2,.yes)] (ap ((by exact zBR (by simp<;>omega)):(Nat.beq 0 0&&(List.map I l).length.beq (List.map I l).length)=true) an)<|zAc 1<|zAa<|zAn<|E_a [(1,.yes),(1,.v (PV.own 1 (List.map I l)))] (ap (blz (List.map I l))<|ap ((zA8 zBx):PV.own 1 (List.take (List.map I l).length (List.drop 0 (List.map I l)))=PV.own 1 (List.map I l)) an) (PV.tup [PV.own 1 (List.map I l),I 0]) [] ?_ rfl
  rw [hl,show i=n.n.length by omega]
def bkL (n:Nw) (cs:List (Int×Int)) (c:Nat) (x:Int):Nat→List Int→List Int
 | 0,out=>out
 | k+1,out=>bkL n cs c x k (match (zHT n (out.getD 0 0).toNat n.h.toNat).find? fun o=>decide ((zBe n cs k).getD (o*8+c) 0=x) with | some o=>(o:Int)::out | none=>out)
abbrev zT2 (S:List (List Int)):PV := .box (.own 80 (S.map hdV))
def zQB (n:Nw) (cs:List (Int×Int)) (k:Nat):List (List Int):=(List.range k).map fun k=>zBe n cs k
theorem zMc {n:Nw} {cs:List (Int×Int)} {k:Nat}:zQB n cs (k+1)=zQB n cs k++[zBe n cs k]:=by
 simp only [zQB,List.range_succ,List.map_append,List.map_cons,List.map_nil]
theorem zK5 {n:Nw} {cs:List (Int×Int)} {k j:Nat} (h:j<k):(zQB n cs k).getD j []=zBe n cs j:=by
 simp [zQB,List.getD_eq_getElem?_getD,h]
theorem zUu (n:Nw) (cs:List (Int×Int)) (h:Int) (ho:NwOk n) (hh:0≤h∧h<n.h):zFY 112 [] [.ref (zDT n cs),.ref (I h)] (zJR n h.toNat n.h.toNat):=by
 obtain ⟨g,rfl⟩:∃ g:Nat,h=g:=⟨h.toNat,by omega⟩
 exact zT7 n cs g ho hh.2
theorem zKN {p:Nat→Bool}:∀ {l:List Nat} {j o:Nat},l[j]? = some o→p o=true→(∀ i,i<j→p (l.getD i 0)=false)→l.find? p=some o
 | [],j,o,h,_,_=>by cases h
 | x::l,0,o,h,hp,_=>by
  simp only [List.getElem?_cons_zero,Option.some.injEq] at h
  subst h;rw [List.find?_cons,hp]
 | x::l,j+1,o,h,hp,ha=>by
  have h0:=ha 0 (by omega)
  simp only [List.getD_cons_zero] at h0
  rw [List.find?_cons,h0]
  exact zKN (by simpa using h) hp fun i hi=>by simpa using ha (i+1) (by omega)
theorem zPD {p:Nat→Bool} {l:List Nat} (ha:∀ i,i<l.length→p (l.getD i 0)=false):l.find? p=none:=by
 rw [List.find?_eq_none]
 intro x hx
 obtain ⟨i,hi,rfl⟩:=List.getElem_of_mem hx
 have:=ha i hi
 rw [zAB hi] at this
 simp [this]
theorem f49_1 (n:Nw) (cs:List (Int×Int)) (h:Int) (x:Int) (k:Nat) (ho:CrOk n cs) (hh:0≤h∧h<n.h) (hx:0≤x∧x<n.n.length) (hk:k≤12) (kD:(zBe n cs k).getD (h.toNat*8+((zAj n).getD x.toNat 0).toNat) 0=x) (hm:∀ j,j<k→(zBe n cs j).getD (h.toNat*8+((zAj n).getD x.toNat 0).toNat) 0≠x):FG 49 [nwV n,prs cs,I h,I x] (.tup [.own 1 ((bkL n cs ((zAj n).getD x.toNat 0).toNat x k [h]).map I),I 0]):=by
 have hn:=ho.nw
 have wH:=ho.w
 have hb:=hn.h
 have wB:=hn.nl
 have hin:inB x 0 (n.n.length-1)=true:=by simp only [inB,Bool.and_eq_true,decide_eq_true_eq];omega
 have hih:inB h 0 (n.h-1)=true:=by simp only [inB,Bool.and_eq_true,decide_eq_true_eq];omega
 have hfb:=zCA hn x.toNat (by omega)
 refine zAe Try.f49 ?_
 refine zAd 4<|zAa<|zAd 2<|S_a [(8,.ret (PV.tup [zDT n cs,I 0]) [])] (ap (f82_1 n cs (by omega)) an)<|zAc 5<|zAa<|zAh<|zAk 0<|zAd 3<|zAa<|zAN<|zAd 2<|S_a [(8,.ret (PV.bool (inB h 0 (n.h-1))) [])] (ap (f69 n h (by omega)) an)<|zAc 2<|zFp 32 (!inB h 0 (n.h-1)) (fun k1=>(zAc 6<|zAa<|zEb<|zAd 2<|zAa<|zAn<|E_a [] an (PV.tup [PV.own 1 [],I 1]) [] ?_ rfl)) (fun k1=>(zAc 2<|S_a [(8,.ret (PV.bool (inB x 0 ((↑n.n.length:Int)-1))) [])] (ap (f73 n x (by first | omega | (simp<;>omega))) an)<|zAc 3<|zAa<|zED (!inB x 0 ((↑n.n.length:Int)-1)) (fun k2=>(zAd 2<|zAa<|zAn<|E_a [] an (PV.tup [PV.own 1 [],I 1]) [] ?_ rfl)) (fun k2=>(zAl<|zAd 4<|S_a [(0,.ob),(1,.ob),(0,.v ((I ((zAj n).getD x.toNat 0)).ref))] (ap ((by exact zAp (by omega)):decide (0≤x)=true)<|ap ((by exact zAp (by omega)):decide (x.toNat<8)=true)<|ap (zGt (F:=zAj n) (m:=8) (j:=x.toNat) (by omega):zCl (PV.agg (zAt (zAj n) 8)).ref (x.toNat*(fun x=>x.size) Try.prog.types[3]) none=some (I ((zAj n).getD x.toNat 0)).ref) an)<|zAc 3<|zAa<|zAd 1<|S_a [(5,.ret (hdV (zMF n cs)) [])] (ap (f83 n cs (by omega)) an)<|zAc 3<|zAa<|zAh<|zAk 1 ?_))))
 ·rw [hih] at k1;cases k1
 ·rw [hin] at k2;cases k2
 ·generalize hc:((zAj n).getD x.toNat 0)=c at *
  refine zAz (fun (j,S)=>j≤k∧S=zQB n cs (j+1)) (fun (j,S)=>[(13,zT2 S)]) (fun (j,_)=>k-j) ((0:Nat),[zMF n cs]) ⟨by omega,rfl⟩ fun (j,S) ⟨hj,hS⟩=>?_
  have gx:S.length=j+1:=by rw [hS];simp [zQB]
  have wx:S.getD (S.length-1) []=zBe n cs j:=by rw [gx,hS];exact zK5 (by omega)
  have hwl:(S.getD (S.length-1) []).length=80:=by rw [wx];exact zBI j
  by_cases gU:j<k
  ·have hI:=hm j gU
   rw [← wx] at hI
   have hSS:S++[zCz n (S.getD (S.length-1) [])]=zQB n cs (j+1+1):=by rw [zMc (k:=j+1),← hS,wx];rfl
   refine zAh<|zAh<|zAg<|S_a [(1,.v (PV.bor 13 [(0,0)] 80 0 S.length))] (ap ((by simp):PV.bor 13 [(0,0)] 80 0 (List.map hdV S).length=PV.bor 13 [(0,0)] 80 0 S.length) an)<|S_a [(1,.v (PV.bor 13 [(0,0)] 80 0 S.length))] (ap ((by simp):PV.bor 13 [(0,0)] 80 0 (List.map hdV S).length=PV.bor 13 [(0,0)] 80 0 S.length) an)<|zAc 1<|S_a [(1,.v (I (↑(S.length-1):Int)))] (ap ((zCq (by omega) (by omega)):I (IntKind.i64.wrap ((↑S.length:Int)-1))=I (↑(S.length-1):Int)) an)<|zAc 2<|S_a [(2,.ob),(1,.n (S.length-1))] (ap ((by exact zAp (by omega)):decide (S.length-1<S.length)=true)<|ap ((by simp):some (0+(S.length-1))=some (S.length-1)) an)<|S_a [(0,.ob),(1,.ob)] (ap ((by exact zAp (by omega)):decide (0≤h)=true)<|ap ((by exact zAp (by omega)):decide (h.toNat<10)=true) an)<|S_a [(0,.ob),(1,.ob)] (ap ((by exact zAp (by omega)):decide (0≤c)=true)<|ap ((by exact zAp (by omega)):decide (c.toNat<8)=true) an)<|S_a [(0,.cs true ([I ((S.getD (S.length-1) []).getD (h.toNat*8+c.toNat) 0)]))] (ap (zC8 (q:=PV.own 80 (List.map hdV S)) (xs:=List.map hdV S) (x:=PV.agg (zAt (S.getD (S.length-1) []) 80)) (zLN (xs:=[PV.own 80 (List.map hdV S)]) (x:=PV.own 80 (List.map hdV S)) (y:=PV.own 80 (List.map hdV S)) rfl rfl) (zCG [] (by omega)) (zEY (F:=S.getD (S.length-1) []) (m:=80) (j:=h.toNat*8+c.toNat) (by first | rfl | exact zB1 (by kernel_rfl) | exact zB6 (by kernel_rfl) | exact zB0 (by kernel_rfl) (by kernel_rfl) | exact zB8 (by kernel_rfl) | exact zCa (by kernel_rfl) (by kernel_rfl) | exact zB5 (by kernel_rfl) | (simp;done)) (by omega)):zAs 13 (PV.own 80 (List.map hdV S)).box [(0,0)] (S.length-1) (0+h.toNat*(fun x=>x.size) Try.prog.types[89]+c.toNat*(fun x=>x.size) Try.prog.types[3]) 1=some (true,[I ((S.getD (S.length-1) []).getD (h.toNat*8+c.toNat) 0)])) an)<|zAc 2<|zAa<|zLw ((S.getD (S.length-1) []).getD (h.toNat*8+c.toNat) 0=x) (by omega)<|zAl<|zAk 2<|zAh<|zAh<|zAg<|S_a [(1,.v (PV.bor 13 [(0,0)] 80 0 S.length))] (ap ((by simp):PV.bor 13 [(0,0)] 80 0 (List.map hdV S).length=PV.bor 13 [(0,0)] 80 0 S.length) an)<|zAc 2<|zAa<|zBd ((↑S.length:Int)>12) (by omega)<|zAl<|zAg<|S_a [(1,.v (PV.bor 13 [(0,0)] 80 0 S.length))] (ap ((by simp):PV.bor 13 [(0,0)] 80 0 (List.map hdV S).length=PV.bor 13 [(0,0)] 80 0 S.length) an)<|zAc 1<|S_a [(1,.v (PV.bor 13 [(0,0)] 80 0 S.length))] (ap ((by simp):PV.bor 13 [(0,0)] 80 0 (List.map hdV S).length=PV.bor 13 [(0,0)] 80 0 S.length) an)<|S_a [(1,.v (PV.bor 13 [(0,0)] 80 0 S.length))] (ap ((by simp):PV.bor 13 [(0,0)] 80 0 (List.map hdV S).length=PV.bor 13 [(0,0)] 80 0 S.length) an)<|zAc 1<|S_a [(1,.v (I (↑(S.length-1):Int)))] (ap ((zCq (by omega) (by omega)):I (IntKind.i64.wrap ((↑S.length:Int)-1))=I (↑(S.length-1):Int)) an)<|S_a [(2,.ob),(1,.n (S.length-1))] (ap ((by exact zAp (by omega)):decide (S.length-1<S.length)=true)<|ap ((by simp):some (0+(S.length-1))=some (S.length-1)) an)<|S_a [(0,.cs true (zAt (S.getD (S.length-1) []) 80))] (ap (zC8 (q:=PV.own 80 (List.map hdV S)) (xs:=List.map hdV S) (x:=PV.agg (zAt (S.getD (S.length-1) []) 80)) (zLN (xs:=[PV.own 80 (List.map hdV S)]) (x:=PV.own 80 (List.map hdV S)) (y:=PV.own 80 (List.map hdV S)) rfl rfl) (zCG [] (by omega)):zAs 13 (PV.own 80 (List.map hdV S)).box [(0,0)] (S.length-1) 0 Try.prog.types[91].size=some (true,zAt (S.getD (S.length-1) []) 80)) an)<|S_a [(7,.ret (hdV (zCz n (S.getD (S.length-1) []))) [])] (ap (f84 n cs (S.getD (S.length-1) []) (by omega) (by omega)) an)<|zAc 1<|S_a [(4,.ob),(0,.ob),(0,.yes),(2,.v (PV.own 80 (List.map hdV (S++[zCz n (S.getD (S.length-1) [])]))))] (ap ((by exact zBb (by simp only [List.length_map,zzLn,zAY]<;>omega)):(0+S.length).ble (List.map hdV S).length=true)<|ap ((by exact zBb (by simp only [List.length_map,zzLn,zAY]<;>omega)):((List.map hdV S).length + [PV.agg (zAt (zCz n (S.getD (S.length-1) [])) 80)].length).ble zAY=true)<|ap ((by exact zBR (by simp<;>omega)):(0+S.length).beq (List.map hdV S).length=true)<|ap ((zA8 (zBV (by kernel_rfl))):PV.own 80 (List.map hdV S++[PV.agg (zAt (zCz n (S.getD (S.length-1) [])) 80)])=PV.own 80 (List.map hdV (S++[zCz n (S.getD (S.length-1) [])]))) an)<|zAc 1<|zAa ?_
   exact ⟨(j+1,S++[zCz n (S.getD (S.length-1) [])]),⟨by omega,hSS⟩,by simp only;omega,by kernel_rfl,by kernel_rfl⟩
  ·have e:j=k:=by omega
   subst e
   rw [← wx] at kD
   refine zAh<|zAh<|zAg<|S_a [(1,.v (PV.bor 13 [(0,0)] 80 0 S.length))] (ap ((by simp):PV.bor 13 [(0,0)] 80 0 (List.map hdV S).length=PV.bor 13 [(0,0)] 80 0 S.length) an)<|S_a [(1,.v (PV.bor 13 [(0,0)] 80 0 S.length))] (ap ((by simp):PV.bor 13 [(0,0)] 80 0 (List.map hdV S).length=PV.bor 13 [(0,0)] 80 0 S.length) an)<|zAc 1<|S_a [(1,.v (I (↑(S.length-1):Int)))] (ap ((zCq (by omega) (by omega)):I (IntKind.i64.wrap ((↑S.length:Int)-1))=I (↑(S.length-1):Int)) an)<|zAc 2<|S_a [(2,.ob),(1,.n (S.length-1))] (ap ((by exact zAp (by omega)):decide (S.length-1<S.length)=true)<|ap ((by simp):some (0+(S.length-1))=some (S.length-1)) an)<|S_a [(0,.ob),(1,.ob)] (ap ((by exact zAp (by omega)):decide (0≤h)=true)<|ap ((by exact zAp (by omega)):decide (h.toNat<10)=true) an)<|S_a [(0,.ob),(1,.ob)] (ap ((by exact zAp (by omega)):decide (0≤c)=true)<|ap ((by exact zAp (by omega)):decide (c.toNat<8)=true) an)<|S_a [(0,.cs true ([I ((S.getD (S.length-1) []).getD (h.toNat*8+c.toNat) 0)]))] (ap (zC8 (q:=PV.own 80 (List.map hdV S)) (xs:=List.map hdV S) (x:=PV.agg (zAt (S.getD (S.length-1) []) 80)) (zLN (xs:=[PV.own 80 (List.map hdV S)]) (x:=PV.own 80 (List.map hdV S)) (y:=PV.own 80 (List.map hdV S)) rfl rfl) (zCG [] (by omega)) (zEY (F:=S.getD (S.length-1) []) (m:=80) (j:=h.toNat*8+c.toNat) (by first | rfl | exact zB1 (by kernel_rfl) | exact zB6 (by kernel_rfl) | exact zB0 (by kernel_rfl) (by kernel_rfl) | exact zB8 (by kernel_rfl) | exact zCa (by kernel_rfl) (by kernel_rfl) | exact zB5 (by kernel_rfl) | (simp;done)) (by omega)):zAs 13 (PV.own 80 (List.map hdV S)).box [(0,0)] (S.length-1) (0+h.toNat*(fun x=>x.size) Try.prog.types[89]+c.toNat*(fun x=>x.size) Try.prog.types[3]) 1=some (true,[I ((S.getD (S.length-1) []).getD (h.toNat*8+c.toNat) 0)])) an)<|zAc 2<|zAa<|zNX ((S.getD (S.length-1) []).getD (h.toNat*8+c.toNat) 0=x) (by omega)<|zAO 1<|zAd 4<|zAa<|zAh<|zAh<|zAg<|S_a [(1,.v (PV.bor 13 [(0,0)] 80 0 S.length))] (ap ((by simp):PV.bor 13 [(0,0)] 80 0 (List.map hdV S).length=PV.bor 13 [(0,0)] 80 0 S.length) an)<|zAc 1<|S_a [(1,.v (I ((↑S.length:Int)-2)))] (ap ((zCq rfl (by omega)):I (IntKind.i64.wrap ((↑S.length:Int)-2))=I ((↑S.length:Int)-2)) an)<|zAc 2<|zAa<|zAk 3 ?_
   have hS0:∀ r:Nat,r<S.length→(S.getD r []).length=80∧S.getD r []=zBe n cs r:=fun r hr=>by
    rw [hS,zK5 (by omega)];exact ⟨zBI r,rfl⟩
   have hSm:((S.length:Nat):Int)-2=(j:Int)-1:=by omega
   generalize yK:bkL n cs c.toNat x j [h]=fin
   clear hS wx hwl kD hm
   refine zAz (fun ((m:Int),(out:List Int))=>-1≤m∧m<j∧out.length≤20-m∧0<out.length∧(0≤out.getD 0 0∧out.getD 0 0<n.h)∧bkL n cs c.toNat x (m+1).toNat out=fin) (fun (m,out)=>[(14,.box (.own 1 (out.map I))),(15,.box (I m))]) (fun (m,_)=>(m+1).toNat) (((S.length:Nat):Int)-2,[h]) ⟨by omega,by omega,by simp only [List.length_cons,List.length_nil];omega,by simp,by simpa using hh,by rw [← yK];congr 1;omega⟩ fun (m,out) ⟨hm1,vL,ho1,gy,ho3,gV⟩=>?_
   by_cases gB:0≤m
   ·have hA:=zUu n cs (out.getD 0 0) hn ho3
    obtain ⟨ub,uO⟩:=hS0 m.toNat (by omega)
    rw [show (m+1).toNat=m.toNat+1 by omega,bkL,← uO] at gV
    refine zAh<|zAd 2<|zAa<|zA5 (m≥0) (by omega)<|zAl<|zAh<|zAk 4<|zU0<|zAh<|zUA (zAd 1<|S_a [(1,.v (PV.bor 14 [(0,0)] 1 0 out.length))] (ap ((by simp):PV.bor 14 [(0,0)] 1 0 (List.map I out).length=PV.bor 14 [(0,0)] 1 0 out.length) an)<|S_a [(2,.ob)] (ap ((by exact zAp (by omega)):decide (0<out.length)=true) an)<|S_a [(0,.cs false ([I (out.getD 0 0)]))] (ap (zC8 (q:=PV.own 1 (List.map I out)) (xs:=List.map I out) (x:=I (out.getD 0 0)) (zLN (xs:=[PV.own 1 (List.map I out)]) (x:=PV.own 1 (List.map I out)) (y:=PV.own 1 (List.map I out)) rfl rfl) (zCG (0) (by omega)):zAs 14 (PV.own 1 (List.map I out)).box [(0,0)] 0 0 1=some (false,[I (out.getD 0 0)])) an)<|S_a [(7,.ret (PV.func 112 [] [(zDT n cs).ref,(I (out.getD 0 0)).ref]) [])] (ap (f87 n cs (out.getD 0 0)) an)<|zAa<|zAk 5 ?_)
    refine zOI (t:=86) hA (fun i (_:Unit)=>∀ r,r<i→decide ((S.getD m.toNat []).getD ((zHT n (out.getD 0 0).toNat n.h.toNat).getD r 0*8+c.toNat) 0=x)=false) (fun _=>[]) () (fun r hr=>absurd hr (Nat.not_lt_zero r)) (fun i y _ hy hi=>?_) (fun _ hi=>?_)
    ·rw [List.getElem?_map] at hy
     obtain ⟨o,hmo,rfl⟩:=Option.map_eq_some_iff.1 hy
     have hol:o<n.h.toNat:=zQ7 (List.mem_of_getElem? hmo)
     refine zOE ?_
     refine zAg<|zAc 1<|zAa ?_
     have jS:(zHT n (out.getD 0 0).toNat n.h.toNat).getD i 0=o:=by rw [List.getD_eq_getElem?_getD,hmo];rfl
     refine ⟨rfl,by kernel_rfl,?_⟩
     refine zAk 6<|zAh<|zAg<|S_a [(1,.v (PV.bor 13 [(0,0)] 80 0 S.length))] (ap ((by simp):PV.bor 13 [(0,0)] 80 0 (List.map hdV S).length=PV.bor 13 [(0,0)] 80 0 S.length) an)<|zAc 3<|S_a [(0,.ob),(1,.ob),(1,.n m.toNat)] (ap ((by exact zAp (by omega)):decide (0≤m)=true)<|ap ((by exact zAp (by omega)):decide (m.toNat<S.length)=true)<|ap ((by simp):some (0+m.toNat)=some m.toNat) an)<|S_a [(2,.ob)] (ap ((by exact zAp (by omega)):decide (o<10)=true) an)<|S_a [(0,.ob),(1,.ob)] (ap ((by exact zAp (by omega)):decide (0≤c)=true)<|ap ((by exact zAp (by omega)):decide (c.toNat<8)=true) an)<|S_a [(0,.cs true ([I ((S.getD m.toNat []).getD (o*8+c.toNat) 0)]))] (ap (zC8 (q:=PV.own 80 (List.map hdV S)) (xs:=List.map hdV S) (x:=PV.agg (zAt (S.getD m.toNat []) 80)) (zLN (xs:=[PV.own 80 (List.map hdV S)]) (x:=PV.own 80 (List.map hdV S)) (y:=PV.own 80 (List.map hdV S)) rfl rfl) (zCG [] (by omega)) (zEY (F:=S.getD m.toNat []) (m:=80) (j:=o*8+c.toNat) (by first | rfl | exact zB1 (by kernel_rfl) | exact zB6 (by kernel_rfl) | exact zB0 (by kernel_rfl) (by kernel_rfl) | exact zB8 (by kernel_rfl) | exact zCa (by kernel_rfl) (by kernel_rfl) | exact zB5 (by kernel_rfl) | (simp;done)) (by omega)):zAs 13 (PV.own 80 (List.map hdV S)).box [(0,0)] m.toNat (0+(↑o:Int).toNat*(fun x=>x.size) Try.prog.types[89]+c.toNat*(fun x=>x.size) Try.prog.types[3]) 1=some (true,[I ((S.getD m.toNat []).getD (o*8+c.toNat) 0)])) an)<|zAc 2<|zAa<|zDa ((S.getD m.toNat []).getD (o*8+c.toNat) 0=x) (fun k2=>(zAd 2<|S_a [(1,.v (PV.bor 14 [(0,0)] 1 0 out.length))] (ap ((by simp):PV.bor 14 [(0,0)] 1 0 (List.map I out).length=PV.bor 14 [(0,0)] 1 0 out.length) an)<|S_a [(1,.ob),(0,.vs (List.map I out)),(0,.ob),(0,.ob),(0,.ob),(3,.ob)] (ap ((by exact zBb (by simp only [List.length_map,zzLn,zAY]<;>omega)):(0+out.length).ble (List.map I out).length=true)<|ap ((by simp [zDg]):List.take out.length (List.drop 0 (List.map I out))=List.map I out)<|ap ((by exact all_map _):((List.map I out).all fun x=>x.plain)=true)<|ap ((by exact all_map _):((List.map I out).all fun y=>y.cells.length.beq ((fun x=>x.size) Try.prog.types[3])&&y.cells.all fun q=>q.oneCell)=true)<|ap ((by exact List.isEmpty_iff.2 (zRD _)):(zBv (List.map I out)).isEmpty=true)<|ap ((by exact zBb (by simp only [List.length_map,zzLn,zAY]<;>omega)):([I (↑o:Int)].length+(List.map I out).length).ble zAY=true) an)<|zAc 1<|zAa<|zAO 5 ?_)) (fun k2=>(zAl ?_))
     ·rw [zKN hmo (decide_eq_true (by assumption)) hi] at gV
      clear hi hmo hA
      refine ⟨by kernel_rfl,?_⟩
      refine zAh<|zAd 1<|zAa<|zAg<|zAc 2<|zAa<|zAg<|zAc 1<|S_a [(1,.v (I (m-1)))] (ap ((zCq rfl (by omega)):I (IntKind.i64.wrap (m-1))=I (m-1)) an)<|zAc 1<|zAa ?_
      exact ⟨(m-1,(o:Int)::out),⟨by omega,by omega,by simp only [List.length_cons];omega,by simp,by simp only [List.getD_cons_zero];omega,by rw [show (m-1+1).toNat=m.toNat by omega];exact gV⟩,by simp only;omega,by kernel_rfl,by kernel_rfl⟩
     ·refine ⟨by kernel_rfl,(),fun r hr=>?_,by kernel_rfl⟩
      rcases Nat.lt_succ_iff_lt_or_eq.1 hr with h | rfl
      ·exact hi r h
      ·rw [jS];exact decide_eq_false (by assumption)
    ·rw [zPD (by simpa using hi)] at gV
     clear hi hA
     show W _ _ _ _ _ _ _ _
     refine zAh<|zAd 1<|zAa<|zAg<|zAc 2<|zAa<|zAg<|zAc 1<|S_a [(1,.v (I (m-1)))] (ap ((zCq rfl (by omega)):I (IntKind.i64.wrap (m-1))=I (m-1)) an)<|zAc 1<|zAa ?_
     exact ⟨(m-1,out),⟨by omega,by omega,by omega,gy,ho3,by rw [show (m-1+1).toNat=m.toNat by omega];exact gV⟩,by simp only;omega,by kernel_rfl,by kernel_rfl⟩
   ·have hm3:(m+1).toNat=0:=by omega
    rw [hm3,bkL] at gV
    rw [← gV]
    refine zAh<|zAd 2<|zAa<|zBd (m≥0) (by omega)<|zAO 3<|zAh<|zAg<|S_a [(1,.v (PV.bor 14 [(0,0)] 1 0 out.length))] (ap ((by simp):PV.bor 14 [(0,0)] 1 0 (List.map I out).length=PV.bor 14 [(0,0)] 1 0 out.length) an)<|S_a [(2,.yes)] (ap ((by exact zBR (by simp<;>omega)):(Nat.beq 0 0&&out.length.beq (List.map I out).length)=true) an)<|zAc 1<|zAa<|zAn<|E_a [(1,.yes),(1,.v (PV.own 1 (List.map I out)))] (ap (blz (List.map I out))<|ap ((zA8 zBx):PV.own 1 (List.take (List.map I out).length (List.drop 0 (List.map I out)))=PV.own 1 (List.map I out)) an) (PV.tup [PV.own 1 (List.map I out),I 0]) [] rfl rfl
end Go.Eng
namespace Go.Eng
open Go Go.Proofs
theorem zNZ {p q:Nat→Bool} {k:Nat} (h:∀ i,i<k→p i=q i):zDh p k=zDh q k:=by
 unfold zDh
 rw [List.filter_congr fun i hi=>h i (List.mem_range.1 hi)]
theorem zHc {p:Nat→Bool} {k:Nat} {x:Int}:x∈zDh p k↔∃ i:Nat,i<k∧p i=true∧x=i:=by
 simp only [zDh,List.mem_map,List.mem_filter,List.mem_range]
 exact ⟨fun ⟨i,⟨h1,h2⟩,h3⟩=>⟨i,h1,h2,h3.symm⟩,fun ⟨i,h1,h2,h3⟩=>⟨i,⟨h1,h2⟩,h3.symm⟩⟩
def zSv (n:Nw) (G:List (Int×Int)) (h:Nat):Bool:=G.any fun g=>decide (g.1=(h:Int)) && !(n.n.getD g.2.toNat default).2
theorem zOZ {x:Int}:∀ (k:Nat) (o:List Int),(List.replicate k x).foldl zOL o=if k=0 then o else zOL o x
 | 0,o=>rfl
 | k + 1,o=>by
  rw [List.replicate_succ,List.foldl_cons,zOZ k,if_neg (Nat.succ_ne_zero k)]
  split
  ·rfl
  ·show zOL (zOL o x) x=_
   rw [zOL,if_pos (zL2 o x)]
theorem zTO {o:List Int} {x:Int} (h:x∉o):zOL o x=o++[x]:=by
 rw [zOL,if_neg]
 intro he
 exact h (List.mem_of_getLast? he)
theorem zT0 {n:Nw} {w:List Int}:∀ k,zFB (msl n (zP3 n w k))=zDh (fun h=>zSv n (zJV n w h n.n.length) h) k
 | 0=>by simp [zP3,msl,zFB,zDh]
 | k + 1=>by
  have ih:=zT0 (n:=n) (w:=w) k
  have hO:msl n (zJV n w k n.n.length)=List.replicate (msl n (zJV n w k n.n.length)).length (k:Int):=by
   rw [List.eq_replicate_iff]
   refine ⟨rfl,fun x hx=>?_⟩
   simp only [msl,zJV,List.mem_map,List.mem_filter] at hx
   obtain ⟨g,⟨⟨i,_,rfl⟩,_⟩,rfl⟩:=hx
   rfl
  have jQ:(k:Int)∉zDh (fun h=>zSv n (zJV n w h n.n.length) h) k:=by
   rw [zHc]
   rintro ⟨i,h1,_,h2⟩
   omega
  have happ:msl n (zP3 n w (k+1))=msl n (zP3 n w k)++msl n (zJV n w k n.n.length):=by
   simp [msl,zJU,List.filter_append]
  rw [happ,zFB,List.foldl_append,← zFB,ih,hO,zOZ,zHs]
  have hb:zSv n (zJV n w k n.n.length) k=true↔¬ (msl n (zJV n w k n.n.length)).length=0:=by
   rw [zSv,List.any_eq_true,List.length_eq_zero_iff,msl,List.map_eq_nil_iff,List.filter_eq_nil_iff]
   constructor
   ·rintro ⟨g,h1,h2⟩ h3
    simp only [Bool.and_eq_true] at h2
    exact h3 g h1 h2.2
   ·intro h3
    apply Classical.byContradiction
    intro h4
    refine h3 fun g hg hb=>h4 ⟨g,hg,?_⟩
    have v0:=hg
    simp only [zJV,List.mem_map] at v0
    obtain ⟨i,_,rfl⟩:=v0
    rw [hb];simp
  split
  ·rename_i h0
   rw [if_neg (fun h=>(hb.1 h) h0)]
  ·rename_i h0
   rw [if_pos (hb.2 h0),zTO jQ]
theorem zVk {n:Nw} {w:List Int}:zFB (msl n (zBy n w))=zDh (zSv n (zBy n w)) n.h.toNat:=by
 rw [zBy,zT0]
 refine zNZ fun h hh=>?_
 rw [Bool.eq_iff_iff]
 simp only [zSv,List.any_eq_true,Bool.and_eq_true,decide_eq_true_eq]
 constructor
 ·rintro ⟨g,h1,h2⟩
  exact ⟨g,List.mem_flatMap.2 ⟨h,List.mem_range.2 hh,h1⟩,h2⟩
 ·rintro ⟨g,h1,h2,h3⟩
  obtain ⟨k,h4,h5⟩:=List.mem_flatMap.1 h1
  have h6:=h5
  simp only [zJV,List.mem_map] at h6
  obtain ⟨i,_,rfl⟩:=h6
  obtain rfl:k=h:=by simp only at h2;omega
  exact ⟨_,h5,h2,h3⟩
end Go.Eng
namespace Go.Eng
open Go Go.Proofs
def zO5 (n:Nw):Int:=if zCO n.h n.l=0 then if zDU n.n=0 then if (!n.s.all fun x=>zKb n.h x)=true then 1 else if (!n.s.all fun x=>zD2 x)=true then 4 else 0 else zDU n.n else zCO n.h n.l
theorem zVr {n:Nw} (h1:(!inB n.h 1 10)=false) (h2:¬ (n.l.length:Int)>15) (h3:(!inB n.n.length 1 8)=false) (h4:(!inB n.s.length 1 6)=false):zGF n=zO5 n:=by
 simp only [zGF,h1,h2,h3,h4,if_false];rfl
theorem zXw {n:Nw} (h:∀ i,i<n.n.length→inB (n.n.getD i default).1 (-1) ((i:Int)-1)=true):zQY n.n=true:=by
 simp only [zQY,List.all_eq_true,List.mem_range];exact h
theorem zWF {l:List (Int×Bool)} {i:Nat} (hi:i<l.length) (hr:inB (l.getD i default).1 (-1) ((i:Int)-1)=true):zLU l i=true↔∃ k,k<i∧0≤(l.getD i default).1∧(l.getD i default).1=(l.getD k default).1:=by
 have hr:=zFG hr
 simp only [zLU,Bool.and_eq_true,decide_eq_true_eq,List.any_eq_true]
 constructor
 ·rintro ⟨h1,x,h2,h3⟩
  obtain ⟨k,hk,rfl⟩:=List.getElem_of_mem h2
  rw [List.length_take] at hk
  refine ⟨k,by omega,by omega,?_⟩
  rw [zAB (l:=l) (i:=k) (by omega)]
  rw [List.getElem_take] at h3
  exact h3.symm
 ·rintro ⟨k,h1,h2,h3⟩
  refine ⟨by omega, (l.take i)[k]'(by rw [List.length_take]; omega), List.getElem_mem _, ?_⟩
  rw [List.getElem_take,h3,zAB (l:=l) (i:=k) (by omega)]
theorem zV1 {n:Nw} (hn:zQY n.n=true) (h:∀ i,i<n.n.length→∀ k,k<i→¬ ((n.n.getD i default).1≥0∧(n.n.getD i default).1=(n.n.getD k default).1)):zDU n.n=0:=by
 have:(List.range n.n.length).any (zLU n.n)=false:=by
  simp only [List.any_eq_false,List.mem_range]
  intro i hi ht
  have hr:inB (n.n.getD i default).1 (-1) ((i:Int)-1)=true:=by
   simp only [zQY,List.all_eq_true,List.mem_range] at hn;exact hn i hi
  obtain ⟨k,h1,h2,h3⟩:=(zWF hi hr).1 ht
  exact h i hi k h1 ⟨h2,h3⟩
 simp only [zDU,hn,this,if_true];rfl
theorem zVU {n:Nw} (hl:zCO n.h n.l=0) (hn:zDU n.n=0) (hs:(n.s.all fun x=>zKb n.h x)=true) (ho:(n.s.all fun x=>zD2 x)=true):zO5 n=0:=by
 simp only [zO5,hl,hn,hs,ho];rfl
end Go.Eng
namespace Go.Eng
open Go Go.Proofs
structure LkOk (q:List (Int×Int)) (h:Int):Prop where
 rng:∀ x∈q,1≤x.1∧x.1<h∧0≤x.2∧x.2<x.1
 nd:(q.map pr2).Nodup
 len:(q.length:Int)<h
theorem zUj {x:Int×Int} (h:x.2<x.1):pr2 x=(x.2,x.1):=by
 simp only [pr2];rw [if_pos h,if_neg (by omega)]
theorem LkOk.snoc {q:List (Int×Int)} {h s:Int} (hq:LkOk q h) (hh:1≤h) (hs:0≤s∧s<h):LkOk (q++[(h,s)]) (h+1):=by
 refine ⟨fun x hx=>?_,?_,by have:=hq.len;simp;omega⟩
 ·rcases List.mem_append.1 hx with hx | hx
  ·have:=hq.rng x hx;omega
  ·rw [List.mem_singleton] at hx;subst hx;simp only;omega
 ·rw [List.map_append,List.nodup_append]
  refine ⟨hq.nd,by simp,fun a ha b hb=>?_⟩
  obtain ⟨x,hx,rfl⟩:=List.mem_map.1 ha
  simp only [List.map_cons,List.map_nil,List.mem_singleton] at hb
  subst hb
  have:=hq.rng x hx
  rw [zUj (by omega),zUj (x:=(h,s)) (by simp only;omega)]
  intro e
  have:=congrArg Prod.snd e
  simp only at this;omega
theorem LkOk.skip {q:List (Int×Int)} {h:Int} (hq:LkOk q h):LkOk q (h+1):=⟨fun x hx=>by have:=hq.rng x hx;omega,hq.nd,by have:=hq.len;omega⟩
structure LkEnd (q:List (Int×Int)) (H:Int):Prop where
 rng:∀ x∈q,(0≤x.1∧x.1<H)∧(0≤x.2∧x.2<H)∧x.1≠x.2
 nd:(q.map pr2).Nodup
 len:(q.length:Int)≤H
theorem LkOk.fin {q:List (Int×Int)} {H:Int} (hq:LkOk q H):LkEnd q H:=⟨fun x hx=>by have:=hq.rng x hx;omega,hq.nd,by have:=hq.len;omega⟩
theorem LkOk.far {n:Nw} (hq:LkOk n.l n.h) (hh:1<n.h) (hn:zDP n 0 (n.h-1)=false):LkEnd (n.l++[(0,n.h-1)]) n.h:=by
 refine ⟨fun x hx=>?_,?_,by have:=hq.len;simp;omega⟩
 ·rcases List.mem_append.1 hx with hx | hx
  ·have:=hq.rng x hx;omega
  ·rw [List.mem_singleton] at hx;subst hx;simp only;omega
 ·rw [List.map_append,List.nodup_append]
  refine ⟨hq.nd,by simp,fun a ha b hb=>?_⟩
  simp only [List.map_cons,List.map_nil,List.mem_singleton] at hb
  subst hb
  intro e;subst e
  simp only [zDP,decide_eq_false_iff_not] at hn
  exact hn ha
structure NtOk (F:List Int) (N:List (Int×Bool)) (i:Nat):Prop where
 len:N.length=i
 fl:F.length≤i
 fr:∀ f∈F,0≤f∧f<i
 fnd:F.Nodup
 na:∀ j,j<i→-1≤(N.getD j default).1∧(N.getD j default).1<j
 nd:∀ j k,k<j→j<i→(N.getD j default).1≠-1→(N.getD k default).1≠(N.getD j default).1
 un:∀ f∈F,∀ j,j<i→(N.getD j default).1≠f
theorem zP9 {N:List (Int×Bool)} {x:Int×Bool} {i j:Nat} (hl:N.length=i) (hj:j<i+1):(N++[x]).getD j default=if j=i then x else N.getD j default:=by
 split
 ·rename_i h;subst h;subst hl
  simp [List.getD_eq_getElem?_getD]
 ·rw [List.getD_eq_getElem?_getD,List.getElem?_append_left (by omega),← List.getD_eq_getElem?_getD]
theorem NtOk.step {F G:List Int} {N:List (Int×Bool)} {i:Nat} {y:Int} {b:Bool} (h:NtOk F N i) (hG:∀ f∈G,f∈F) (hGn:G.Nodup) (hGl:G.length≤i) (hy:y = -1∨y∈F∧y∉G):NtOk (G++[(i:Int)]) (N++[(y,b)]) (i+1):=by
 have hyr : -1≤y∧y<i:=by
  rcases hy with rfl | ⟨h1,_⟩
  ·omega
  ·have:=h.fr y h1;omega
 have hg:=fun j (hj:j<i+1)=>zP9 (x:=(y,b)) h.len hj
 refine ⟨by simp [h.len],by simp;omega,fun f hf=>?_,?_,fun j hj=>?_,fun j k LB hj hI=>?_,fun f hf j hj=>?_⟩
 ·rcases List.mem_append.1 hf with hf | hf
  ·have:=h.fr f (hG f hf);omega
  ·rw [List.mem_singleton] at hf;omega
 ·rw [List.nodup_append]
  refine ⟨hGn,by simp,fun a ha c hc=>?_⟩
  rw [List.mem_singleton] at hc;subst hc
  have:=h.fr a (hG a ha);omega
 ·rw [hg j hj]
  split
  ·simp only;omega
  ·exact h.na j (by omega)
 ·rw [hg j hj] at hI ⊢
  rw [hg k (by omega),if_neg (by omega)]
  split
  ·rename_i e;rw [if_pos e] at hI;simp only at hI ⊢
   rcases hy with e2 | ⟨h1,_⟩
   ·exact absurd e2 hI
   ·exact h.un y h1 k (by omega)
  ·rename_i e;rw [if_neg e] at hI
   exact h.nd j k LB (by omega) hI
 ·rw [hg j hj]
  split
  ·simp only
   rcases List.mem_append.1 hf with hf | hf
   ·rcases hy with e2 | ⟨_,h2⟩
    ·have:=h.fr f (hG f hf);omega
    ·exact fun e=>h2 (e▸hf)
   ·rw [List.mem_singleton] at hf;omega
  ·rcases List.mem_append.1 hf with hf | hf
   ·exact h.un f (hG f hf) j (by omega)
   ·rw [List.mem_singleton] at hf
    have:=h.na j (by omega);omega
theorem NtOk.one {F:List Int} {N:List (Int×Bool)} {i:Nat} {b:Bool} (h:NtOk F N i):NtOk (F++[(i:Int)]) (N++[(-1,b)]) (i+1):=h.step (fun _ h=>h) h.fnd h.fl (.inl rfl)
theorem NtOk.more {F:List Int} {N:List (Int×Bool)} {i k:Nat} {b:Bool} (h:NtOk F N i) (hk:k<F.length):NtOk (F.eraseIdx k++[(i:Int)]) (N++[(F.getD k 0,b)]) (i+1):=by
 refine h.step (fun f hf=>List.mem_of_mem_eraseIdx hf) (h.fnd.eraseIdx k) (Nat.le_trans (List.length_eraseIdx_le _ _) h.fl) (.inr ⟨?_,?_⟩)
 ·rw [zAB hk];exact List.getElem_mem hk
 ·rw [zAB hk]
  intro hm
  have hn:(F.take k++F[k]::F.drop (k+1)).Nodup:=by rw [← List.drop_eq_getElem_cons hk,List.take_append_drop];exact h.fnd
  rw [List.nodup_append] at hn
  rw [List.eraseIdx_eq_take_drop_succ] at hm
  rcases List.mem_append.1 hm with hm | hm
  ·exact hn.2.2 _ hm _ List.mem_cons_self rfl
  ·exact (List.nodup_cons.1 hn.2.1).1 hm
structure RwOk (r:List Int) (h:Nat):Prop where
 rng:∀ x∈r,0≤x∧x<h
 inc:zSb r=true
 len:r.length≤h
theorem zSc {p:List Int} {c:Int} (h:zSb p=true) (hc:∀ y∈p,y<c):zSb (p++[c])=true:=by
 simp only [zSb,List.all_eq_true,List.mem_range,decide_eq_true_eq,List.length_append,List.length_singleton] at h ⊢
 intro j hj
 rw [List.getD_eq_getElem?_getD,List.getD_eq_getElem?_getD,List.getElem?_append_left (by omega)]
 by_cases e:j+1<p.length
 ·rw [List.getElem?_append_left e,← List.getD_eq_getElem?_getD,← List.getD_eq_getElem?_getD]
  exact h j (by omega)
 ·rw [List.getElem?_append_right (by omega),show j+1-p.length=0 by omega]
  have jD:j<p.length:=by omega
  rw [List.getElem?_eq_getElem jD]
  exact hc _ (List.getElem_mem jD)
theorem RwOk.snoc {r:List Int} {h:Nat} (hr:RwOk r h):RwOk (r++[(h:Int)]) (h+1):=by
 refine ⟨fun x hx=>?_,zSc hr.inc fun y hy=>(hr.rng y hy).2,by have:=hr.len;simp;omega⟩
 rcases List.mem_append.1 hx with hx | hx
 ·have:=hr.rng x hx;omega
 ·rw [List.mem_singleton] at hx;omega
theorem RwOk.skip {r:List Int} {h:Nat} (hr:RwOk r h):RwOk r (h+1):=⟨fun x hx=>by have:=hr.rng x hx;omega,hr.inc,by have:=hr.len;omega⟩
theorem zVB {H:Int} {q:List (Int×Int)} {F:List Int} {N:List (Int×Bool)} {S:List (List Int)} {m:Nat} (hH:1≤H∧H≤10) (hq:LkEnd q H) (hN:NtOk F N m) (hm:1≤m∧m≤8) (hS:∀ r∈S,RwOk r H.toNat) (gx:1≤S.length∧S.length≤6):zGF ⟨H,q,N,S⟩=0:=by
 have hml:=hN.len
 have e:zGF ⟨H,q,N,S⟩=zO5 ⟨H,q,N,S⟩:=by
  refine zVr ?_ ?_ ?_ ?_
  ·simp only [inB,Bool.not_eq_false',Bool.and_eq_true,decide_eq_true_eq];omega
  ·have:=hq.len;simp only;omega
  ·simp only [inB,Bool.not_eq_false',Bool.and_eq_true,decide_eq_true_eq];omega
  ·simp only [inB,Bool.not_eq_false',Bool.and_eq_true,decide_eq_true_eq];omega
 rw [e]
 refine zVU ?_ ?_ ?_ ?_
 ·have h1:(q.all fun x=>zIY H x)=true:=List.all_eq_true.2 fun x hx=>by
   have:=hq.rng x hx
   simp only [zIY,inB,Bool.and_eq_true,decide_eq_true_eq];omega
  have h2:(q.all fun x=>zJW x)=true:=List.all_eq_true.2 fun x hx=>by
   have:=hq.rng x hx
   simp only [zJW,decide_eq_true_eq];exact this.2.2
  have h3:=hq.nd
  simp only [zCO,h1,h2,h3,if_true]
 ·refine zV1 (n:=⟨H,q,N,S⟩) (zXw (n:=⟨H,q,N,S⟩) fun i hi=>?_) fun i hi k hk=>?_
  ·have:=hN.na i (by simp only at hi;omega)
   simp only [inB,Bool.and_eq_true,decide_eq_true_eq];omega
  ·rintro ⟨h1,h2⟩
   exact hN.nd i k hk (by simp only at hi;omega) (by simp only at h1;omega) h2.symm
 ·exact List.all_eq_true.2 fun r hr=>List.all_eq_true.2 fun x hx=>by
   have:=(hS r hr).rng x hx
   simp only [inB,Bool.and_eq_true,decide_eq_true_eq];omega
 ·exact List.all_eq_true.2 fun r hr=>by rw [zKJ];exact (hS r hr).inc
end Go.Eng
set_option maxRecDepth 10000
set_option maxHeartbeats 4000000
namespace Go.Eng
open Go Go.Proofs
section
variable [Yo]
theorem f81 (x:Int×Int) (a b:Int):FG 81 [prV x,.ref (I a),.ref (I b)] (.bool (zNw a b x)):=by
 refine zAe Try.f81 ?_
 refine zAd 2<|zAa<|zAd 4<|S_a [(0,.v (PV.bool (decide (x.fst=a)&&decide (x.snd=b))))] (ap (zQM:zH4 Try.prog BinOp.eql 79 (PV.agg [I x.fst,I x.snd]) (PV.agg [I a,I b])=some (PV.bool (decide (x.fst=a)&&decide (x.snd=b)))) an)<|zAc 1<|zFp 10 (decide (x.fst=a)&&decide (x.snd=b)) (fun k0=>(zAc 7<|zAa<|zAn<|E_a [] an (PV.bool true) [] ?_ rfl)) (fun k0=>(zAc 4<|S_a [(0,.v (PV.bool (decide (x.fst=b)&&decide (x.snd=a))))] (ap (zQM:zH4 Try.prog BinOp.eql 79 (PV.agg [I x.fst,I x.snd]) (PV.agg [I b,I a])=some (PV.bool (decide (x.fst=b)&&decide (x.snd=a)))) an)<|zAc 2<|zAa<|zAn<|E_a [] an (PV.bool (decide (x.fst=b)&&decide (x.snd=a))) [] ?_ rfl))
 ·have e:zNw a b x=true:=by
   simp only [Bool.and_eq_true,decide_eq_true_eq] at k0
   simp only [zNw,decide_eq_true_eq];exact .inl k0
  rw [e]
 ·congr 1
  rw [Bool.eq_iff_iff]
  have:¬ (x.1=a∧x.2=b):=fun h=>by simp [h.1,h.2] at k0
  simp only [Bool.and_eq_true,decide_eq_true_eq,zNw]
  exact ⟨.inr,fun h=>h.elim (fun h=>absurd h this) id⟩
theorem f109_5 (a b:Int) (l:List (Int×Int)) (hl:l.length<4294967296):FG 109 [.sl (l.map prV),.func 81 [] [.ref (I a),.ref (I b)]] (I (zD4 (fun x=>zNw a b x) l)):=by
 refine zAe Try.f109 ?_
 refine zAd 1<|zAa<|zAh<|zAd 1<|S_a [(0,.n l.length)] (ap (lnS prV l) an)<|zAc 1<|zAa<|zAk 0 ?_
 refine zAz (fun i=>i≤l.length∧∀ j,j<i→(fun x=>zNw a b x) (l.getD j default)=false) (fun i=>[(8,I (i:Nat))]) (fun i=>l.length-i) (0:Nat) (by simp) fun i ⟨hi,ha⟩=>?_
 refine zAd 1<|zAa<|zAh<|zDa ((↑i:Int)<(↑l.length:Int)) (fun k0=>(zAl<|zAh<|zAk 1<|zAd 2<|zAa<|zAd 3<|S_a [(2,.v (PV.agg [I (l.getD i default).fst,I (l.getD i default).snd]))] (ap (zCG default (by omega):(List.map prV l)[i]? = some (PV.agg [I (l.getD i default).fst,I (l.getD i default).snd])) an)<|zAc 1<|S_a [(8,.ret (PV.bool (zNw a b (l.getD i default))) [])] (ap (f81 (l.getD i default) a b) an)<|zAa<|zED (zNw a b (l.getD i default)) (fun k1=>(zAd 2<|zAa<|zAn<|E_a [] an (I (↑i:Int)) [] ?_ rfl)) (fun k1=>(zAl<|zAg<|S_a [(1,.v (I (↑(i+1):Int)))] (ap (wrN i) an)<|zAc 1<|zAa ?_)))) (fun k0=>(zAO 0<|zAd 1<|zAa<|zAn<|E_a [] an (I (-1)) [] ?_ rfl))
 ·rw [zBN (i:=i) (by omega) (fun j hj=>by rw [← zAB (d:=default)];exact ha j hj) (by rw [← zAB (d:=default)];first | assumption | exact decide_eq_true ‹_› | (simp only [Bool.not_eq_true',decide_eq_false_iff_not];assumption))]
 ·refine ⟨i+1,⟨by omega,fun j hj=>?_⟩,by omega,by kernel_rfl,by kernel_rfl⟩
  rcases Nat.lt_succ_iff_lt_or_eq.1 hj with h | rfl
  ·exact ha j h
  ·first | assumption | exact decide_eq_false ‹_› | (simp only [Bool.not_eq_false',decide_eq_true_eq];first | assumption | (apply Decidable.of_not_not;assumption))
 ·rw [zB2 fun j hj=>by rw [← zAB (d:=default)];exact ha j (by omega)]
theorem f80_5 (a b:Int) (l:List (Int×Int)) (hl:l.length<4294967296):FG 80 [.sl (l.map prV),.func 81 [] [.ref (I a),.ref (I b)]] (.bool (l.any (fun x=>zNw a b x))):=by
 refine zAe Try.f80 ?_
 refine zAd 1<|zAa<|zAd 2<|S_a [(7,.ret (I (zD4 (fun x=>zNw a b x) l)) [])] (ap (f109_5 a b l (by omega)) an)<|zAc 2<|zAa<|zAn<|E_a [] an (PV.bool (decide (zD4 (fun x=>zNw a b x) l≥0))) [] ?_ rfl
 rw [zDB]
theorem f39 (n:Nw) (a b:Int) (hl:n.l.length<1000000):FG 39 [nwV n,I a,I b] (.bool (zDP n a b)):=by
 rw [← zVh]
 refine zAe Try.f39 ?_
 refine zAd 4<|zAa<|zAd 3<|S_a [(19,.ret (PV.bool (n.l.any fun x=>zNw a b x)) [])] (ap (f80_5 a b n.l (by omega)) an)<|zAc 1<|zAa<|zAn<|E_a [] an (PV.bool (n.l.any fun x=>zNw a b x)) [] rfl rfl
theorem f40_10 (p0:Int):zBD Try.prog zBO 40 [.bor 50000000 [] 1 0 1,I 0,I 1] [.own 1 [I p0]] (.bor 50000000 [] 1 0 0) [.own 1 [I 0]]:=by
 refine zAe Try.f40 ?_
 refine zAd 1<|zAa<|zAd 6<|zAa<|zAh<|zAd 3<|zAa<|zAN<|zAl<|zAd 3<|zAa<|zAd 2<|zAc 1<|zAc 3<|zAc 1<|zAc 1<|zAa<|zAd 4<|zAc 1<|zAc 1<|zAa<|zAd 1<|zAc 1<|zAa<|zAn<|E_a [] an (PV.bor 50000000 [] 1 0 0) ([PV.own 1 [I 0]]) rfl rfl
theorem f40_20 (p0 p1:Int):zBD Try.prog zBO 40 [.bor 50000000 [] 1 0 2,I 0,I 1] [.own 1 [I p0,I p1]] (.bor 50000000 [] 1 0 1) [.own 1 [I p1,I 0]]:=by
 refine zAe Try.f40 ?_
 refine zAd 1<|zAa<|zAd 6<|zAa<|zAh<|zAd 3<|zAa<|zAN<|zAl<|zAd 3<|zAa<|zAd 2<|zAc 1<|zAc 2<|zAc 1<|zAc 1<|zAc 1<|zAa<|zAd 4<|zAc 1<|zAc 1<|zAa<|zAd 1<|zAc 1<|zAa<|zAn<|E_a [] an (PV.bor 50000000 [] 1 0 1) ([PV.own 1 [I p1,I 0]]) rfl rfl
theorem f40_21 (p0 p1:Int):zBD Try.prog zBO 40 [.bor 50000000 [] 1 0 2,I 1,I 2] [.own 1 [I p0,I p1]] (.bor 50000000 [] 1 0 1) [.own 1 [I p0,I 0]]:=by
 refine zAe Try.f40 ?_
 refine zAd 1<|zAa<|zAd 6<|zAa<|zAh<|zAd 3<|zAa<|zAN<|zAl<|zAd 3<|zAa<|zAd 2<|zAc 1<|zAc 3<|zAc 1<|zAc 1<|zAa<|zAd 4<|zAc 1<|zAc 1<|zAa<|zAd 1<|zAc 1<|zAa<|zAn<|E_a [] an (PV.bor 50000000 [] 1 0 1) ([PV.own 1 [I p0,I 0]]) rfl rfl
theorem f40_30 (p0 p1 p2:Int):zBD Try.prog zBO 40 [.bor 50000000 [] 1 0 3,I 0,I 1] [.own 1 [I p0,I p1,I p2]] (.bor 50000000 [] 1 0 2) [.own 1 [I p1,I p2,I 0]]:=by
 refine zAe Try.f40 ?_
 refine zAd 1<|zAa<|zAd 6<|zAa<|zAh<|zAd 3<|zAa<|zAN<|zAl<|zAd 3<|zAa<|zAd 2<|zAc 1<|zAc 2<|zAc 1<|zAc 1<|zAc 1<|zAa<|zAd 4<|zAc 1<|zAc 1<|zAa<|zAd 1<|zAc 1<|zAa<|zAn<|E_a [] an (PV.bor 50000000 [] 1 0 2) ([PV.own 1 [I p1,I p2,I 0]]) rfl rfl
theorem f40_31 (p0 p1 p2:Int):zBD Try.prog zBO 40 [.bor 50000000 [] 1 0 3,I 1,I 2] [.own 1 [I p0,I p1,I p2]] (.bor 50000000 [] 1 0 2) [.own 1 [I p0,I p2,I 0]]:=by
 refine zAe Try.f40 ?_
 refine zAd 1<|zAa<|zAd 6<|zAa<|zAh<|zAd 3<|zAa<|zAN<|zAl<|zAd 3<|zAa<|zAd 2<|zAc 1<|zAc 2<|zAc 1<|zAc 1<|zAc 1<|zAa<|zAd 4<|zAc 1<|zAc 1<|zAa<|zAd 1<|zAc 1<|zAa<|zAn<|E_a [] an (PV.bor 50000000 [] 1 0 2) ([PV.own 1 [I p0,I p2,I 0]]) rfl rfl
theorem f40_32 (p0 p1 p2:Int):zBD Try.prog zBO 40 [.bor 50000000 [] 1 0 3,I 2,I 3] [.own 1 [I p0,I p1,I p2]] (.bor 50000000 [] 1 0 2) [.own 1 [I p0,I p1,I 0]]:=by
 refine zAe Try.f40 ?_
 refine zAd 1<|zAa<|zAd 6<|zAa<|zAh<|zAd 3<|zAa<|zAN<|zAl<|zAd 3<|zAa<|zAd 2<|zAc 1<|zAc 3<|zAc 1<|zAc 1<|zAa<|zAd 4<|zAc 1<|zAc 1<|zAa<|zAd 1<|zAc 1<|zAa<|zAn<|E_a [] an (PV.bor 50000000 [] 1 0 2) ([PV.own 1 [I p0,I p1,I 0]]) rfl rfl
theorem f40_40 (p0 p1 p2 p3:Int):zBD Try.prog zBO 40 [.bor 50000000 [] 1 0 4,I 0,I 1] [.own 1 [I p0,I p1,I p2,I p3]] (.bor 50000000 [] 1 0 3) [.own 1 [I p1,I p2,I p3,I 0]]:=by
 refine zAe Try.f40 ?_
 refine zAd 1<|zAa<|zAd 6<|zAa<|zAh<|zAd 3<|zAa<|zAN<|zAl<|zAd 3<|zAa<|zAd 2<|zAc 1<|zAc 2<|zAc 1<|zAc 1<|zAc 1<|zAa<|zAd 4<|zAc 1<|zAc 1<|zAa<|zAd 1<|zAc 1<|zAa<|zAn<|E_a [] an (PV.bor 50000000 [] 1 0 3) ([PV.own 1 [I p1,I p2,I p3,I 0]]) rfl rfl
theorem f40_41 (p0 p1 p2 p3:Int):zBD Try.prog zBO 40 [.bor 50000000 [] 1 0 4,I 1,I 2] [.own 1 [I p0,I p1,I p2,I p3]] (.bor 50000000 [] 1 0 3) [.own 1 [I p0,I p2,I p3,I 0]]:=by
 refine zAe Try.f40 ?_
 refine zAd 1<|zAa<|zAd 6<|zAa<|zAh<|zAd 3<|zAa<|zAN<|zAl<|zAd 3<|zAa<|zAd 2<|zAc 1<|zAc 2<|zAc 1<|zAc 1<|zAc 1<|zAa<|zAd 4<|zAc 1<|zAc 1<|zAa<|zAd 1<|zAc 1<|zAa<|zAn<|E_a [] an (PV.bor 50000000 [] 1 0 3) ([PV.own 1 [I p0,I p2,I p3,I 0]]) rfl rfl
theorem f40_42 (p0 p1 p2 p3:Int):zBD Try.prog zBO 40 [.bor 50000000 [] 1 0 4,I 2,I 3] [.own 1 [I p0,I p1,I p2,I p3]] (.bor 50000000 [] 1 0 3) [.own 1 [I p0,I p1,I p3,I 0]]:=by
 refine zAe Try.f40 ?_
 refine zAd 1<|zAa<|zAd 6<|zAa<|zAh<|zAd 3<|zAa<|zAN<|zAl<|zAd 3<|zAa<|zAd 2<|zAc 1<|zAc 2<|zAc 1<|zAc 1<|zAc 1<|zAa<|zAd 4<|zAc 1<|zAc 1<|zAa<|zAd 1<|zAc 1<|zAa<|zAn<|E_a [] an (PV.bor 50000000 [] 1 0 3) ([PV.own 1 [I p0,I p1,I p3,I 0]]) rfl rfl
theorem f40_43 (p0 p1 p2 p3:Int):zBD Try.prog zBO 40 [.bor 50000000 [] 1 0 4,I 3,I 4] [.own 1 [I p0,I p1,I p2,I p3]] (.bor 50000000 [] 1 0 3) [.own 1 [I p0,I p1,I p2,I 0]]:=by
 refine zAe Try.f40 ?_
 refine zAd 1<|zAa<|zAd 6<|zAa<|zAh<|zAd 3<|zAa<|zAN<|zAl<|zAd 3<|zAa<|zAd 2<|zAc 1<|zAc 3<|zAc 1<|zAc 1<|zAa<|zAd 4<|zAc 1<|zAc 1<|zAa<|zAd 1<|zAc 1<|zAa<|zAn<|E_a [] an (PV.bor 50000000 [] 1 0 3) ([PV.own 1 [I p0,I p1,I p2,I 0]]) rfl rfl
theorem f40_50 (p0 p1 p2 p3 p4:Int):zBD Try.prog zBO 40 [.bor 50000000 [] 1 0 5,I 0,I 1] [.own 1 [I p0,I p1,I p2,I p3,I p4]] (.bor 50000000 [] 1 0 4) [.own 1 [I p1,I p2,I p3,I p4,I 0]]:=by
 refine zAe Try.f40 ?_
 refine zAd 1<|zAa<|zAd 6<|zAa<|zAh<|zAd 3<|zAa<|zAN<|zAl<|zAd 3<|zAa<|zAd 2<|zAc 1<|zAc 2<|zAc 1<|zAc 1<|zAc 1<|zAa<|zAd 4<|zAc 1<|zAc 1<|zAa<|zAd 1<|zAc 1<|zAa<|zAn<|E_a [] an (PV.bor 50000000 [] 1 0 4) ([PV.own 1 [I p1,I p2,I p3,I p4,I 0]]) rfl rfl
theorem f40_51 (p0 p1 p2 p3 p4:Int):zBD Try.prog zBO 40 [.bor 50000000 [] 1 0 5,I 1,I 2] [.own 1 [I p0,I p1,I p2,I p3,I p4]] (.bor 50000000 [] 1 0 4) [.own 1 [I p0,I p2,I p3,I p4,I 0]]:=by
 refine zAe Try.f40 ?_
 refine zAd 1<|zAa<|zAd 6<|zAa<|zAh<|zAd 3<|zAa<|zAN<|zAl<|zAd 3<|zAa<|zAd 2<|zAc 1<|zAc 2<|zAc 1<|zAc 1<|zAc 1<|zAa<|zAd 4<|zAc 1<|zAc 1<|zAa<|zAd 1<|zAc 1<|zAa<|zAn<|E_a [] an (PV.bor 50000000 [] 1 0 4) ([PV.own 1 [I p0,I p2,I p3,I p4,I 0]]) rfl rfl
theorem f40_52 (p0 p1 p2 p3 p4:Int):zBD Try.prog zBO 40 [.bor 50000000 [] 1 0 5,I 2,I 3] [.own 1 [I p0,I p1,I p2,I p3,I p4]] (.bor 50000000 [] 1 0 4) [.own 1 [I p0,I p1,I p3,I p4,I 0]]:=by
 refine zAe Try.f40 ?_
 refine zAd 1<|zAa<|zAd 6<|zAa<|zAh<|zAd 3<|zAa<|zAN<|zAl<|zAd 3<|zAa<|zAd 2<|zAc 1<|zAc 2<|zAc 1<|zAc 1<|zAc 1<|zAa<|zAd 4<|zAc 1<|zAc 1<|zAa<|zAd 1<|zAc 1<|zAa<|zAn<|E_a [] an (PV.bor 50000000 [] 1 0 4) ([PV.own 1 [I p0,I p1,I p3,I p4,I 0]]) rfl rfl
theorem f40_53 (p0 p1 p2 p3 p4:Int):zBD Try.prog zBO 40 [.bor 50000000 [] 1 0 5,I 3,I 4] [.own 1 [I p0,I p1,I p2,I p3,I p4]] (.bor 50000000 [] 1 0 4) [.own 1 [I p0,I p1,I p2,I p4,I 0]]:=by
 refine zAe Try.f40 ?_
 refine zAd 1<|zAa<|zAd 6<|zAa<|zAh<|zAd 3<|zAa<|zAN<|zAl<|zAd 3<|zAa<|zAd 2<|zAc 1<|zAc 2<|zAc 1<|zAc 1<|zAc 1<|zAa<|zAd 4<|zAc 1<|zAc 1<|zAa<|zAd 1<|zAc 1<|zAa<|zAn<|E_a [] an (PV.bor 50000000 [] 1 0 4) ([PV.own 1 [I p0,I p1,I p2,I p4,I 0]]) rfl rfl
theorem f40_54 (p0 p1 p2 p3 p4:Int):zBD Try.prog zBO 40 [.bor 50000000 [] 1 0 5,I 4,I 5] [.own 1 [I p0,I p1,I p2,I p3,I p4]] (.bor 50000000 [] 1 0 4) [.own 1 [I p0,I p1,I p2,I p3,I 0]]:=by
 refine zAe Try.f40 ?_
 refine zAd 1<|zAa<|zAd 6<|zAa<|zAh<|zAd 3<|zAa<|zAN<|zAl<|zAd 3<|zAa<|zAd 2<|zAc 1<|zAc 3<|zAc 1<|zAc 1<|zAa<|zAd 4<|zAc 1<|zAc 1<|zAa<|zAd 1<|zAc 1<|zAa<|zAn<|E_a [] an (PV.bor 50000000 [] 1 0 4) ([PV.own 1 [I p0,I p1,I p2,I p3,I 0]]) rfl rfl
theorem f40g (l:List Int) (i:Nat) (h:i<l.length) (hl:l.length≤5):zBD Try.prog zBO 40 [.bor 50000000 [] 1 0 l.length,I (i:Nat),I ((i:Nat)+1:Int)] [.own 1 (l.map I)] (.bor 50000000 [] 1 0 (l.length-1)) [.own 1 ((l.eraseIdx i++[0]).map I)]:=by
 rcases l with _ | ⟨p0,_ | ⟨p1,_ | ⟨p2,_ | ⟨p3,_ | ⟨p4,_ | ⟨p5,l⟩⟩⟩⟩⟩⟩
 ·exact absurd h (Nat.not_lt_zero _)
 ·obtain rfl:i=0:=by simp at h;omega
  ·exact f40_10 p0
 ·obtain rfl | rfl:i=0∨i=1:=by simp at h;omega
  ·exact f40_20 p0 p1
  ·exact f40_21 p0 p1
 ·obtain rfl | rfl | rfl:i=0∨i=1∨i=2:=by simp at h;omega
  ·exact f40_30 p0 p1 p2
  ·exact f40_31 p0 p1 p2
  ·exact f40_32 p0 p1 p2
 ·obtain rfl | rfl | rfl | rfl:i=0∨i=1∨i=2∨i=3:=by simp at h;omega
  ·exact f40_40 p0 p1 p2 p3
  ·exact f40_41 p0 p1 p2 p3
  ·exact f40_42 p0 p1 p2 p3
  ·exact f40_43 p0 p1 p2 p3
 ·obtain rfl | rfl | rfl | rfl | rfl:i=0∨i=1∨i=2∨i=3∨i=4:=by simp at h;omega
  ·exact f40_50 p0 p1 p2 p3 p4
  ·exact f40_51 p0 p1 p2 p3 p4
  ·exact f40_52 p0 p1 p2 p3 p4
  ·exact f40_53 p0 p1 p2 p3 p4
  ·exact f40_54 p0 p1 p2 p3 p4
 ·simp at hl
end
end Go.Eng
