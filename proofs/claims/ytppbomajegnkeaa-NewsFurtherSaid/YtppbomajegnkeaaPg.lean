/- For whatever bytes, the law NewsFurther returns true and changes no argument: with a zEP cry of the last notice of a chain no j9 is left that was not, and the gaps that any cry mends are those that are there no more with it. -/
import Derived.Test.YtppbomajegnkeaaPf
import Derived.Test.YtppbomajegnkeaaPd
import Derived.Test.YtppbomajegnkeaaPe
set_option linter.unusedVariables false
set_option linter.unusedSimpArgs false
set_option linter.unusedSectionVars false
set_option maxRecDepth 10000
set_option maxHeartbeats 4000000
namespace Go.Eng
open Go Go.Proofs
def zPp (n:Nw) (w:List Int) (h i:Nat):Bool:=decide (w.getD (h*8+((zAj n).getD i 0).toNat) 0=i)&&decide ((zAZ n).getD i 0≠i)
def zPE (n:Nw) (w:List Int) (h k:Nat):List (Int×Int):=((List.range k).filter fun i=>zPp n w h i).map fun (i:Nat)=>((h:Int),(i:Int))
def zTf (n:Nw) (w:List Int) (h:Nat):List (Int×Int):=(List.range h).flatMap fun h=>zPE n w h n.n.length
def zA2 (n:Nw) (w:List Int):List (Int×Int):=zTf n w n.h.toNat
theorem zQk {n:Nw} {w:List Int} {h k:Nat}:zPE n w h (k+1)=if zPp n w h k=true then zPE n w h k++[((h:Int),(k:Int))] else zPE n w h k:=by
 unfold zPE;rw [List.range_succ,List.filter_append,List.map_append]
 by_cases hn:zPp n w h k=true
 ·rw [if_pos hn];simp [hn]
 ·rw [if_neg hn];simp [hn]
theorem zMS {n:Nw} {w:List Int} {h:Nat}:zTf n w (h+1)=zTf n w h++zPE n w h n.n.length:=by
 unfold zTf;rw [List.range_succ,List.flatMap_append];simp
theorem zOz {n:Nw} {w:List Int} {h k:Nat}:(zPE n w h k).length≤k:=by
 unfold zPE;rw [List.length_map];exact Nat.le_trans (List.length_filter_le _ _) (by simp)
theorem zK6 {n:Nw} {w:List Int}:∀ h,(zTf n w h).length≤h*n.n.length
 | 0=>by simp [zTf]
 | h+1=>by
  have h1:=zK6 (n:=n) (w:=w) h
  have h2:=zOz (n:=n) (w:=w) (h:=h) (k:=n.n.length)
  rw [zMS,List.length_append,Nat.succ_mul];omega
theorem zEH {n:Nw} {w:List Int} (ho:NwOk n):(zA2 n w).length≤80:=by
 have h1:=zK6 (n:=n) (w:=w) n.h.toNat
 have h2:=ho.h
 have h3:=ho.nl
 have h4:n.h.toNat*n.n.length≤10*8:=Nat.mul_le_mul (by omega) (by omega)
 unfold zA2;omega
theorem f43 (n:Nw) (cs:List (Int×Int)) (e:Int) (ho:CrW n cs) (he:0≤e∧e≤1000):FG 43 [zDO n cs,I e] (hdV (zAU n cs e.toNat)):=by
 have hn:=ho.nw
 refine zAf Try.f43 ?_
 refine zAd 1<|zAa<|zAd 1<|S_a [(5,.ret (hdV (zK9 n cs)) [])] (ap (f83 n cs (by omega)) an)<|zAc 2<|zAa<|zAh<|zAd 2<|zAa<|zAk 0 ?_
 refine zAD (fun (k,w)=>k≤e.toNat∧w=zAU n cs k) (fun (k,w)=>[(5,.box (hdV w)),(9,I (k:Nat))]) (fun (k,_)=>e.toNat-k) ((0:Nat),zK9 n cs) ⟨by omega,rfl⟩ fun (k,w) ⟨hk,hw⟩=>?_
 have LA:w.length=80:=by rw [hw];exact zBT k
 by_cases vW:(k:Int)<e
 ·refine zAd 1<|zAa<|zAh<|zBj ((↑k:Int)<e) (by omega)<|zAl<|zAh<|zAk 1<|zAg<|zAc 2<|S_a [(7,.ret (hdV (zCU n w)) [])] (ap (f84 n cs w (by omega) (by omega)) an)<|zAc 1<|zAa<|zAg<|S_a [(1,.v (I (↑(k+1):Int)))] (ap (wrN k) an)<|zAc 1<|zAa ?_
  exact ⟨(k+1,zCU n w),⟨by omega,by rw [hw];rfl⟩,by simp only;omega,by kernel_rfl,by kernel_rfl⟩
 ·refine zAd 1<|zAa<|zAh<|zBv ((↑k:Int)<e) (by omega)<|zAS 0<|zAd 2<|zAa<|zAn<|E_a [] an (PV.agg (zAt w 80)) [] ?_ rfl
  rw [hw,show k=e.toNat by omega]
theorem f42 (n:Nw) (cs:List (Int×Int)) (w:List Int) (ho:NwOk n) (hw:w.length=80):FG 42 [zDO n cs,hdV w] (.own 2 ((zA2 n w).map prV)):=by
 have hb:=ho.h
 have wD:=ho.nl
 refine zAf Try.f42 ?_
 refine zAd 2<|zAa<|zAd 1<|zAa<|zAh<|zAd 6<|zAa<|zAk 0 ?_
 refine zAD (fun (h,l)=>h≤n.h.toNat∧l=zTf n w h) (fun (h,l)=>[(5,.own 2 (l.map prV)),(13,I (h:Nat))]) (fun (h,_)=>n.h.toNat-h) ((0:Nat),([]:List (Int×Int))) ⟨by omega,rfl⟩ fun (h,l) ⟨hh,hl⟩=>?_
 have gW:l.length≤h*8:=by
  have h1:=zK6 (n:=n) (w:=w) h
  rw [← hl] at h1
  exact Nat.le_trans h1 (Nat.mul_le_mul (Nat.le_refl _) (by omega))
 by_cases hhl:(h:Int)<n.h
 ·have yM:=zMS (n:=n) (w:=w) (h:=h)
  rw [← hl] at yM
  refine zAd 1<|zAa<|zAh<|zBj ((↑h:Int)<n.h) (by omega)<|zAl<|zAh<|zAk 1<|zAd 2<|zAa<|zAd 5<|S_a [(0,.n n.n.length)] (ap (lnS ntV n.n) an)<|zAc 1<|zAa<|zAk 2 ?_
  refine zAD (fun (i,m)=>i≤n.n.length∧m=l++zPE n w h i) (fun (i,m)=>[(5,.own 2 (m.map prV)),(22,I (i:Nat))]) (fun (i,_)=>n.n.length-i) ((0:Nat),l) ⟨by omega,by simp [zPE]⟩ fun (i,m) ⟨hi,hm⟩=>?_
  have hml:m.length≤88:=by
   have:=zOz (n:=n) (w:=w) (h:=h) (k:=i)
   rw [hm,List.length_append];omega
  by_cases yW:i<n.n.length
  ·have uI:=zQk (n:=n) (w:=w) (h:=h) (k:=i)
   have hfb:=zCA ho i yW
   have gq:0≤(zAj n).getD i 0∧(zAj n).getD i 0<8:=by omega
   clear yM
   have kS:zPp n w h i=false→m=l++zPE n w h (i+1):=fun hg=>by rw [uI,if_neg (by rw [hg];simp)];exact hm
   refine zAd 1<|zAa<|zAh<|zBj ((↑i:Int)<(↑n.n.length:Int)) (by omega)<|zAl<|zAh<|zAk 3<|zAd 2<|zAa<|zAd 5<|S_a [(2,.ob),(0,.v ((I ((zAj n).getD i 0)).ref))] (ap ((by exact zAv (by omega)):decide (i<8)=true)<|ap (zGt (F:=zAj n) (m:=8) (j:=i) (by omega):zCj (PV.agg (zAt (zAj n) 8)).ref (i*(fun x=>x.size) Try.prog.types[3]) none=some (I ((zAj n).getD i 0)).ref) an)<|zAc 1<|S_a [(2,.ob)] (ap ((by exact zAv (by omega)):decide (h<10)=true) an)<|S_a [(0,.ob),(1,.ob)] (ap ((by exact zAv (by omega)):decide (0≤(zAj n).getD i 0)=true)<|ap ((by exact zAv (by omega)):decide (((zAj n).getD i 0).toNat<8)=true) an)<|S_a [(0,.cs true ([I (w.getD (h*8+((zAj n).getD i 0).toNat) 0)]))] (ap (zDd (q:=(PV.agg (zAt w 80)).box) (xs:=[PV.agg (zAt w 80)]) (x:=PV.agg (zAt w 80)) rfl rfl (zFd (F:=w) (m:=80) (j:=h*8+((zAj n).getD i 0).toNat) (by first | rfl | exact zB5 (by kernel_rfl) | exact zB1 (by kernel_rfl) | exact zBZ (by kernel_rfl) (by kernel_rfl) | exact zB6 (by kernel_rfl) | exact zB8 (by kernel_rfl) (by kernel_rfl) | exact zB2 (by kernel_rfl) | (simp;done)) (by omega)):zAr 3 (PV.agg (zAt w 80)).box [] 0 (0+(↑h:Int).toNat*(fun x=>x.size) Try.prog.types[89]+((zAj n).getD i 0).toNat*(fun x=>x.size) Try.prog.types[3]) 1=some (true,[I (w.getD (h*8+((zAj n).getD i 0).toNat) 0)])) an)<|zAc 3<|zLr 37 (w.getD (h*8+((zAj n).getD i 0).toNat) 0=(↑i:Int)) (fun k0=>(zAc 4<|S_a [(2,.ob),(0,.v ((I ((zAZ n).getD i 0)).ref))] (ap ((by exact zAv (by omega)):decide (i<8)=true)<|ap (zGt (F:=zAZ n) (m:=8) (j:=i) (by omega):zCj (PV.agg (zAt (zAZ n) 8)).ref (i*(fun x=>x.size) Try.prog.types[3]) none=some (I ((zAZ n).getD i 0)).ref) an)<|zAc 4<|zAa<|zEc ((zAZ n).getD i 0=(↑i:Int)) (fun k1=>(zAg<|zAc 5<|S_a [(4,.ob),(0,.ob),(0,.yes),(2,.v (PV.own 2 (List.map prV (m++[((↑h:Int),(↑i:Int))]))))] (ap (blz (List.map prV m))<|ap ((by exact zA8 (by simp only [List.length_map,zzLn,zAY]<;>omega)):((List.map prV m).length + [PV.agg [I (↑h:Int),I (↑i:Int)]].length).ble zAY=true)<|ap ((by exact zBL (by simp<;>omega)):(0+(List.map prV m).length).beq (List.map prV m).length=true)<|ap ((zA6 (zBP (by kernel_rfl))):PV.own 2 (List.map prV m++[PV.agg [I (↑h:Int),I (↑i:Int)]])=PV.own 2 (List.map prV (m++[((↑h:Int),(↑i:Int))]))) an)<|zAc 1<|zAa<|zAg<|S_a [(1,.v (I (↑(i+1):Int)))] (ap (wrN i) an)<|zAc 1<|zAa ?_)) (fun k1=>(zAl<|zAg<|S_a [(1,.v (I (↑(i+1):Int)))] (ap (wrN i) an)<|zAc 1<|zAa ?_)))) (fun k0=>(zAc 9<|zAa<|zAK<|zAl<|zAg<|S_a [(1,.v (I (↑(i+1):Int)))] (ap (wrN i) an)<|zAc 1<|zAa ?_))
   ·have hg:zPp n w h i=true:=by simp only [zPp,decide_eq_true k0,Bool.true_and,decide_eq_true_eq];exact k1
    exact ⟨(i+1,m++[((h:Int),(i:Int))]),⟨by omega,by rw [uI,if_pos hg,hm,List.append_assoc]⟩,by simp only;omega,by kernel_rfl,by kernel_rfl⟩
   ·exact ⟨(i+1,m),⟨by omega,kS (by simp only [zPp,decide_eq_true k0,Bool.true_and,decide_eq_false_iff_not];exact fun h=>h k1)⟩,by simp only;omega,by kernel_rfl,by kernel_rfl⟩
   ·exact ⟨(i+1,m),⟨by omega,kS (by simp only [zPp,decide_eq_false k0,Bool.false_and])⟩,by simp only;omega,by kernel_rfl,by kernel_rfl⟩
  ·refine zAd 1<|zAa<|zAh<|zBv ((↑i:Int)<(↑n.n.length:Int)) (by omega)<|zAS 2<|zAg<|S_a [(1,.v (I (↑(h+1):Int)))] (ap (wrN h) an)<|zAc 1<|zAa ?_
   exact ⟨(h+1,m),⟨by omega,by rw [yM,hm,show i=n.n.length by omega]⟩,by simp only;omega,by kernel_rfl,by kernel_rfl⟩
 ·have e:h=n.h.toNat:=by omega
  subst e
  refine zAd 1<|zAa<|zAh<|zBv ((↑n.h.toNat:Int)<n.h) (by omega)<|zAS 0<|zAd 1<|S_a [(2,.yes)] (ap ((by exact zBL (by simp<;>omega)):(Nat.beq 0 0&&(List.map prV l).length.beq (List.map prV l).length)=true) an)<|zAa<|zAn<|E_a [(1,.yes),(1,.v (PV.own 2 (List.map prV l)))] (ap (blz (List.map prV l))<|ap ((zA6 zBt):PV.own 2 (List.take (List.map prV l).length (List.drop 0 (List.map prV l)))=PV.own 2 (List.map prV l)) an) (PV.own 2 (List.map prV l)) [] ?_ rfl
  rw [hl];rfl
theorem f9_1 (n:Nw) (cs:List (Int×Int)) (e:Int) (ho:EvOk n cs e):FG 9 [nwV n,prs cs,I e] (.tup [.own 2 ((zA2 n (zAU n cs e.toNat)).map prV),I 0]):=by
 have hc:=ho.cr
 have qh:=hc.w
 have hn:=hc.nw
 have he:=ho.ev
 have hw:=zBT (n:=n) (cs:=cs) e.toNat
 refine zAf Try.f9 ?_
 refine zAd 3<|zAa<|zAd 3<|S_a [(10,.ret (PV.tup [zDO n cs,I 0]) [])] (ap (f41_1 n cs e (by omega)) an)<|zAc 5<|zAa<|zAh<|zAd 2<|zAa<|zAK<|zAl<|zAd 3<|S_a [(7,.ret (hdV (zAU n cs e.toNat)) [])] (ap (f43 n cs e (by omega) (by omega)) an)<|S_a [(7,.ret (PV.own 2 (List.map prV (zA2 n (zAU n cs e.toNat)))) [])] (ap (f42 n cs (zAU n cs e.toNat) (by omega) (by omega)) an)<|zAc 2<|zAa<|zAn<|E_a [(1,.yes),(1,.v (PV.own 2 (List.map prV (zA2 n (zAU n cs e.toNat)))))] (ap (blz (List.map prV (zA2 n (zAU n cs e.toNat))))<|ap ((zA6 zBt):PV.own 2 (List.take (List.map prV (zA2 n (zAU n cs e.toNat))).length (List.drop 0 (List.map prV (zA2 n (zAU n cs e.toNat)))))=PV.own 2 (List.map prV (zA2 n (zAU n cs e.toNat)))) an) (PV.tup [PV.own 2 (List.map prV (zA2 n (zAU n cs e.toNat))),I 0]) [] rfl rfl
def msl (n:Nw) (l:List (Int×Int)):List Int:=(l.filter fun g => !(n.n.getD g.2.toNat default).2).map Prod.fst
theorem zSS {n:Nw} {l:List (Int×Int)} {i:Nat} (hi:i<l.length):msl n (l.take (i+1))=if (n.n.getD (l.getD i default).2.toNat default).2=true then msl n (l.take i) else msl n (l.take i)++[(l.getD i default).1]:=by
 unfold msl;rw [zDk (d:=default) hi,List.filter_append,List.map_append]
 generalize l.getD i default=g
 cases hb:(n.n.getD g.2.toNat default).2
 ·rw [List.filter_cons_of_pos (by rw [hb];rfl)];rfl
 ·rw [List.filter_cons_of_neg (by rw [hb];simp)];simp
theorem zJt {n:Nw} {w:List Int} {g:Int×Int} (hg:g∈zA2 n w):∃ h i:Nat,h<n.h.toNat∧i<n.n.length∧g=((h:Int),(i:Int))∧zPp n w h i=true:=by
 simp only [zA2,zTf,List.mem_flatMap,List.mem_range,zPE,List.mem_map,List.mem_filter] at hg
 obtain ⟨h,hh,i,⟨hi,hb⟩,rfl⟩:=hg
 exact ⟨h,i,hh,hi,rfl,hb⟩
theorem f15_1 (n:Nw) (cs:List (Int×Int)) (e:Int) (ho:EvOk n cs e):FG 15 [nwV n,prs cs,I e] (.tup [.own 1 ((zGK (msl n (zA2 n (zAU n cs e.toNat)))).map I),I 0]):=by
 have hn:=ho.cr.nw
 have hZ:=zEH (w:=zAU n cs e.toNat) hn
 have yr:∀ g∈zA2 n (zAU n cs e.toNat),0≤g.2∧g.2<n.n.length:=fun g hg=>by
  obtain ⟨h,i,h1,h2,rfl,_⟩:=zJt hg
  simp only;omega
 have h1:=f9_1 n cs e ho
 generalize zA2 n (zAU n cs e.toNat)=G at *
 refine zAf Try.f15 ?_
 refine zAd 3<|zAa<|zAd 3<|S_a [(10,.ret (PV.tup [PV.own 2 (List.map prV G),I 0]) [])] (ap h1 an)<|zAc 5<|zAa<|zAh<|zAd 2<|zAa<|zAK<|zAl<|zAd 1<|zAa<|zAh<|zAd 1<|S_a [(0,.n G.length)] (ap (lnS prV G) an)<|zAc 1<|zAa<|zAk 0 ?_
 refine zAD (fun (i,l)=>i≤G.length∧l=msl n (G.take i)) (fun (i,l)=>[(10,.own 1 (l.map I)),(25,I (i:Nat))]) (fun (i,_)=>G.length-i) ((0:Nat),([]:List Int)) ⟨by omega,by simp [msl]⟩ fun (i,l) ⟨hi,hl⟩=>?_
 have gW:l.length≤i:=by
  rw [hl,msl,List.length_map]
  exact Nat.le_trans (List.length_filter_le _ _) (by rw [List.length_take];omega)
 by_cases yW:i<G.length
 ·have jC:=zSS (n:=n) yW
  rw [← hl] at jC
  have hgi:=zCu (d:=default) yr i yW
  clear h1 yr
  refine zAd 1<|zAa<|zAh<|zBj ((↑i:Int)<(↑G.length:Int)) (by omega)<|zAl<|zAh<|zAk 1<|zAh<|zAg<|S_a [(2,.ob),(1,.n i)] (ap ((by exact zAv (by simp only [List.length_map,zzLn]<;>omega)):decide (i<(List.map prV G).length)=true)<|ap ((by simp):some (0+i)=some i) an)<|S_a [(0,.cs true ([I (G.getD i default).fst,I (G.getD i default).snd]))] (ap (zDd (q:=PV.own 2 (List.map prV G)) (xs:=List.map prV G) (x:=PV.agg [I (G.getD i default).fst,I (G.getD i default).snd]) rfl (zDn default (by omega)):zAr 8 (PV.own 2 (List.map prV G)) [] i 0 Try.prog.types[42].size=some (true,[I (G.getD i default).fst,I (G.getD i default).snd])) an)<|zAc 2<|zAa<|zAd 4<|S_a [(0,.ob),(1,.v (PV.agg [I (n.n.getD (G.getD i default).snd.toNat default).fst,PV.bool (n.n.getD (G.getD i default).snd.toNat default).snd]))] (ap ((by exact zAv (by omega)):decide (0≤(G.getD i default).snd)=true)<|ap (zDn default (by omega):(List.map ntV n.n)[(G.getD i default).snd.toNat]? = some (PV.agg [I (n.n.getD (G.getD i default).snd.toNat default).fst,PV.bool (n.n.getD (G.getD i default).snd.toNat default).snd])) an)<|zAc 3<|zAa<|zFh (!(n.n.getD (G.getD i default).snd.toNat default).snd) (fun k0=>(zAg<|zAc 4<|S_a [(4,.ob),(0,.ob),(0,.yes),(2,.v (PV.own 1 (List.map I (l++[(G.getD i default).fst]))))] (ap (blz (List.map I l))<|ap ((by exact zA8 (by simp only [List.length_map,zzLn,zAY]<;>omega)):((List.map I l).length + [I (G.getD i default).fst].length).ble zAY=true)<|ap ((by exact zBL (by simp<;>omega)):(0+(List.map I l).length).beq (List.map I l).length=true)<|ap ((zA6 (zBP (by kernel_rfl))):PV.own 1 (List.map I l++[I (G.getD i default).fst])=PV.own 1 (List.map I (l++[(G.getD i default).fst]))) an)<|zAc 1<|zAa<|zAg<|S_a [(1,.v (I (↑(i+1):Int)))] (ap (wrN i) an)<|zAc 1<|zAa ?_)) (fun k0=>(zAl<|zAg<|S_a [(1,.v (I (↑(i+1):Int)))] (ap (wrN i) an)<|zAc 1<|zAa ?_))
  ·rw [Bool.not_eq_true'] at k0
   rw [if_neg (by rw [k0];simp)] at jC
   exact ⟨(i+1,l++[(G.getD i default).1]),⟨by omega,jC.symm⟩,by simp only;omega,by kernel_rfl,by kernel_rfl⟩
  ·rw [Bool.not_eq_false'] at k0
   rw [if_pos k0] at jC
   exact ⟨(i+1,l),⟨by omega,jC.symm⟩,by simp only;omega,by kernel_rfl,by kernel_rfl⟩
 ·rw [List.take_of_length_le (by omega)] at hl
  rw [← hl]
  clear h1 yr
  refine zAd 1<|zAa<|zAh<|zBv ((↑i:Int)<(↑G.length:Int)) (by omega)<|zAS 0<|zAd 1<|S_a [(3,.ob),(1,.v (PV.own 1 (List.map I l))),(2,.ret (PV.own 1 (List.map I (zGK l))) [])] (ap ((by exact zA8 (by simp only [List.length_map,zzLn,zAY]<;>omega)):(List.map I l).length.ble (List.map I l).length=true)<|ap ((zA6 zBt):PV.own 1 (List.take (List.map I l).length (List.drop 0 (List.map I l)))=PV.own 1 (List.map I l))<|ap (f54 l (by omega)) an)<|zAc 2<|zAa<|zAn<|E_a [(1,.yes),(1,.v (PV.own 1 (List.map I (zGK l))))] (ap (blz (List.map I (zGK l)))<|ap ((zA6 zBt):PV.own 1 (List.take (List.map I (zGK l)).length (List.drop 0 (List.map I (zGK l))))=PV.own 1 (List.map I (zGK l))) an) (PV.tup [PV.own 1 (List.map I (zGK l)),I 0]) [] rfl rfl
theorem f48_1 (n:Nw) (cs:List (Int×Int)) (k:Nat) (ho:CrOk n cs) (hk:k≤1000) (he:zAU n cs (k+1)=zAU n cs k) (hm:∀ j,j<k→zAU n cs (j+1)≠zAU n cs j):FG 48 [nwV n,prs cs] (.tup [I k,I 0]):=by
 have hn:=ho.nw
 have qh:=ho.w
 have yZ:=zOQ (n:=n) (cs:=cs)
 refine zAf Try.f48 ?_
 refine zAd 3<|zAa<|zAd 2<|S_a [(8,.ret (PV.tup [zDO n cs,I 0]) [])] (ap (f82_1 n cs (by omega)) an)<|zAc 5<|zAa<|zAh<|zAd 2<|zAa<|zAK<|zAl<|zAd 1<|S_a [(5,.ret (hdV (zK9 n cs)) [])] (ap (f83 n cs (by omega)) an)<|zAc 3<|zAa<|zAh<|zAd 2<|S_a [(7,.ret (hdV (zCU n (zK9 n cs))) [])] (ap (f84 n cs (zK9 n cs) (by omega) (by omega)) an)<|zAc 2<|zAa<|zAk 0 ?_
 refine zAD (fun j=>j≤k) (fun (j:Nat)=>[(8,I (j:Nat)),(9,.box (hdV (zAU n cs j))),(10,.box (hdV (zAU n cs (j+1))))]) (fun j=>k-j) (0:Nat) (by omega) fun j hj=>?_
 have vb:=zBT (n:=n) (cs:=cs) j
 have wq:=zBT (n:=n) (cs:=cs) (j+1)
 by_cases gY:j<k
 ·have hI:=hm j gY
  refine zAh<|zAd 2<|S_a [(0,.v (PV.bool !decide (zAU n cs (j+1)=zAU n cs j)))] (ap (zQD 80 (by omega) (by omega):zGI Try.prog BinOp.neq 91 (PV.agg (zAt (zAU n cs (j+1)) 80)) (PV.agg (zAt (zAU n cs j) 80))=some (PV.bool !decide (zAU n cs (j+1)=zAU n cs j))) an)<|zAa<|zKL (zAU n cs (j+1)=zAU n cs j) (by omega)<|zAl<|zAh<|zAk 1<|zAd 2<|zAa<|zAg<|zAc 1<|S_a [(1,.v (I (↑(j+1):Int)))] (ap (wrN j) an)<|zAc 1<|zAa<|zAh<|zAd 1<|zAa<|zAg<|zAc 2<|zAa<|zAg<|zAc 2<|S_a [(7,.ret (hdV (zCU n (zAU n cs (j+1)))) [])] (ap (f84 n cs (zAU n cs (j+1)) (by omega) (by omega)) an)<|zAc 1<|zAa ?_
  exact ⟨j+1,by omega,by omega,by kernel_rfl,by kernel_rfl⟩
 ·have e:j=k:=by omega
  subst e
  refine zAh<|zAd 2<|S_a [(0,.v (PV.bool !decide (zAU n cs (j+1)=zAU n cs j)))] (ap (zQD 80 (by omega) (by omega):zGI Try.prog BinOp.neq 91 (PV.agg (zAt (zAU n cs (j+1)) 80)) (PV.agg (zAt (zAU n cs j) 80))=some (PV.bool !decide (zAU n cs (j+1)=zAU n cs j))) an)<|zAa<|zNM (zAU n cs (j+1)=zAU n cs j) (by omega)<|zAS 0<|zAd 3<|zAa<|zAn<|E_a [] an (PV.tup [I (↑j:Int),I 0]) [] rfl rfl
def zVb (n:Nw) (cs:List (Int×Int)) (k:Nat):Int:=(List.range k).foldl (fun a k=>if zA2 n (zAU n cs k)=[] then a else (k:Int)+1) 0
theorem zRB {n:Nw} {cs:List (Int×Int)} {k:Nat}:zVb n cs (k+1)=if zA2 n (zAU n cs k)=[] then zVb n cs k else (k:Int)+1:=by
 simp only [zVb,List.range_succ,List.foldl_append,List.foldl_cons,List.foldl_nil]
theorem f52_1 (n:Nw) (cs:List (Int×Int)) (ho:CrOk n cs):FG 52 [nwV n,prs cs] (.tup [if zA2 n (zAU n cs 12)=[] then I (zVb n cs 12) else I 0,if zA2 n (zAU n cs 12)=[] then I 0 else I 6]):=by
 have hn:=ho.nw
 have qh:=ho.w
 refine zAf Try.f52 ?_
 refine zAd 3<|zAa<|zAd 2<|S_a [(8,.ret (PV.tup [zDO n cs,I 0]) [])] (ap (f82_1 n cs (by omega)) an)<|zAc 5<|zAa<|zAh<|zAd 2<|zAa<|zAK<|zAl<|zAd 1<|S_a [(5,.ret (hdV (zK9 n cs)) [])] (ap (f83 n cs (by omega)) an)<|zAc 3<|zAa<|zAh<|zAd 1<|zAa<|zAk 0 ?_
 refine zAD (fun k=>k≤12) (fun (k:Nat)=>[(8,I (zVb n cs k)),(9,.box (hdV (zAU n cs k))),(22,I (k:Nat))]) (fun k=>12-k) (0:Nat) (by omega) fun k hk=>?_
 have vb:=zBT (n:=n) (cs:=cs) k
 have hgl:=zEH (w:=zAU n cs k) hn
 by_cases vW:k<12
 ·have uI:=zRB (n:=n) (cs:=cs) (k:=k)
  refine zAd 1<|zAa<|zAh<|zBj ((↑k:Int)<12) (by omega)<|zAl<|zAh<|zAk 1<|zAd 2<|zAa<|zAh<|zAd 2<|S_a [(7,.ret (PV.own 2 (List.map prV (zA2 n (zAU n cs k)))) [])] (ap (f42 n cs (zAU n cs k) (by omega) (by omega)) an)<|S_a [(0,.n ((zA2 n (zAU n cs k)).length))] (ap (lnS prV (zA2 n (zAU n cs k))) an)<|zAc 1<|zAa<|zDo ((↑(zA2 n (zAU n cs k)).length:Int)>0) (fun k1=>(zAg<|zAc 1<|S_a [(1,.v (I (↑(k+1):Int)))] (ap (wrN k) an)<|zAc 1<|zAa<|zAg<|zAc 2<|S_a [(7,.ret (hdV (zCU n (zAU n cs k))) [])] (ap (f84 n cs (zAU n cs k) (by omega) (by omega)) an)<|zAc 1<|zAa<|zAg<|S_a [(1,.v (I (↑(k+1):Int)))] (ap (wrN k) an)<|zAc 1<|zAa ?_)) (fun k1=>(zAl<|zAg<|zAc 2<|S_a [(7,.ret (hdV (zCU n (zAU n cs k))) [])] (ap (f84 n cs (zAU n cs k) (by omega) (by omega)) an)<|zAc 1<|zAa<|zAg<|S_a [(1,.v (I (↑(k+1):Int)))] (ap (wrN k) an)<|zAc 1<|zAa ?_))
  ·rw [if_neg (by intro h;rw [h] at k1;simp at k1)] at uI
   exact ⟨k+1,by omega,by omega,by rw [uI];kernel_rfl,by kernel_rfl⟩
  ·rw [if_pos (List.eq_nil_of_length_eq_zero (by omega))] at uI
   exact ⟨k+1,by omega,by omega,by rw [uI];kernel_rfl,by kernel_rfl⟩
 ·have e:k=12:=by omega
  subst e
  refine zAd 1<|zAa<|zAh<|zAK<|zAS 0<|zAh<|zAd 2<|S_a [(7,.ret (PV.own 2 (List.map prV (zA2 n (zAU n cs 12)))) [])] (ap (f42 n cs (zAU n cs 12) (by omega) (by omega)) an)<|S_a [(0,.n ((zA2 n (zAU n cs 12)).length))] (ap (lnS prV (zA2 n (zAU n cs 12))) an)<|zAc 1<|zAa<|zDo ((↑(zA2 n (zAU n cs 12)).length:Int)>0) (fun k0=>(zAd 2<|zAa<|zAn<|E_a [] an (PV.tup [I 0,I 6]) [] ?_ rfl)) (fun k0=>(zAl<|zAd 3<|zAa<|zAn<|E_a [] an (PV.tup [I (zVb n cs 12),I 0]) [] ?_ rfl))
  ·have h:¬ zA2 n (zAU n cs 12)=[]:=by intro h;rw [h] at k0;simp at k0
   rw [if_neg h,if_neg h]
  ·have h:zA2 n (zAU n cs 12)=[]:=List.eq_nil_of_length_eq_zero (by omega)
   rw [if_pos h,if_pos h]
end Go.Eng
namespace Go.Eng
open Go Go.Proofs
theorem zG6 {n:Nw} (ho:NwOk n) (j:Nat):∀ i,j<i→i≤n.n.length→(zOR n.n i).getD j 0=(zOR n.n (j+1)).getD j 0
 | 0,h,_=>absurd h (Nat.not_lt_zero j)
 | i + 1,h,hi=>by
  have h8:=ho.nl.2
  by_cases hj:j=i
  ·subst hj;rfl
  ·rw [zOR,zJr (zHg i) (by omega) (ho.na i (by omega)),if_neg hj]
   exact zG6 ho j i (by omega) (by omega)
theorem zMu {n:Nw} (ho:NwOk n) {i:Nat} (hi:i<n.n.length):(zAj n).getD i 0=if (n.n.getD i default).1 = -1 then (i:Int) else (zAj n).getD (n.n.getD i default).1.toNat 0:=by
 have h8:=ho.nl.2
 have ha:=ho.na i hi
 unfold zAj
 rw [zG6 ho i n.n.length hi (Nat.le_refl _),zOR,zJr (zHg i) (by omega) ha,if_pos rfl]
 split
 ·rfl
 ·rename_i hI
  rw [zG6 ho (n.n.getD i default).1.toNat i (by omega) (by omega),zG6 ho (n.n.getD i default).1.toNat n.n.length (by omega) (Nat.le_refl _)]
def chn (n:Nw) (i j:Nat):Prop:=(zAj n).getD i 0=(zAj n).getD j 0
theorem zSO {n:Nw} (ho:NwOk n):∀ (j i:Nat),i<j→j<n.n.length→chn n i j→∃ k,i<k∧k≤j∧k<n.n.length∧(n.n.getD k default).1=i∧chn n k j:=by
 intro j
 induction j using Nat.strongRecOn with
 | ind j ih =>
  intro i hij hj hc
  have ha:=ho.na j hj
  have hr:=zMu ho hj
  have uN:=zCA ho i (by omega)
  by_cases h:(n.n.getD j default).1 = -1
  ·rw [if_pos h] at hr
   unfold chn at hc
   omega
  ·rw [if_neg h] at hr
   by_cases he:(n.n.getD j default).1=(i:Int)
   ·exact ⟨j,hij,Nat.le_refl _,hj,he,rfl⟩
   ·by_cases yJ:(i:Int)<(n.n.getD j default).1
    ·obtain ⟨k,h1,h2,h3,h4,h5⟩:=ih (n.n.getD j default).1.toNat (by omega) i (by omega) (by omega) (by unfold chn at hc ⊢;rw [hc,hr])
     exact ⟨k,h1,by omega,h3,h4,by unfold chn at h5 ⊢;rw [h5,hr]⟩
    ·
     exfalso
     obtain ⟨k,h1,h2,h3,h4,_⟩:=ih i hij (n.n.getD j default).1.toNat (by omega) (by omega) (by unfold chn at hc ⊢;rw [← hr,hc])
     exact ho.nd j k (by omega) hj h (by rw [h4];omega)
theorem zFU {F L:List Int} {i j:Nat} (h:i≠j):∀ k,(zSC F i L k).getD j 0=L.getD j 0
 | 0=>rfl
 | k+1=>by
  rw [zG4,zLY]
  split
  ·rw [zCS,if_neg (fun h2=>h h2.1)];exact zFU h k
  ·exact zFU h k
theorem zR6 {F L:List Int} {i:Nat} (hL:L.length=8) (hi:i<8) (h0:L.getD i 0=0):∀ k,∃ l:Nat,(zSC F i L k).getD i 0=l∧(l=0∨l<k∧F.getD l 0=F.getD i 0)∧∀ j,j<k→F.getD j 0=F.getD i 0→j≤l
 | 0=>⟨0,h0,.inl rfl,fun j hj=>absurd hj (Nat.not_lt_zero j)⟩
 | k + 1 => by
  obtain ⟨l,h1,h2,h3⟩:=zR6 hL hi h0 k
  rw [zG4,zLY]
  split
  ·rename_i hk
   refine ⟨max l k,?_,?_,fun j hj hf=>?_⟩
   ·rw [zCS,if_pos ⟨rfl,by rw [zIs];omega⟩,h1];omega
   ·by_cases yC:l≤k
    ·right;rw [Nat.max_eq_right yC];exact ⟨by omega,hk⟩
    ·rw [Nat.max_eq_left (by omega)]
     rcases h2 with h2 | ⟨h2,h4⟩
     ·exact .inl h2
     ·exact .inr ⟨by omega,h4⟩
   ·by_cases gY:j=k
    ·omega
    ·have:=h3 j (by omega) hf;omega
  ·rename_i hk
   refine ⟨l,h1,?_,fun j hj hf=>?_⟩
   ·rcases h2 with h2 | ⟨h2,h4⟩
    ·exact .inl h2
    ·exact .inr ⟨by omega,h4⟩
   ·by_cases gY:j=k
    ·subst gY;exact absurd hf hk
    ·exact h3 j (by omega) hf
theorem zLU {F:List Int} {m:Nat}:∀ i j,i≤j→(zPP F m i).getD j 0=0
 | 0,j,_=>by
  simp only [zPP,List.range_zero,List.foldl_nil,List.getD_eq_getElem?_getD,List.getElem?_replicate]
  split<;>rfl
 | i+1,j,h=>by rw [zFp,zFU (by omega)];exact zLU i j (by omega)
theorem zMU {F:List Int} {m j:Nat}:∀ i,j<i→(zPP F m i).getD j 0=(zPP F m (j+1)).getD j 0
 | 0,h=>absurd h (Nat.not_lt_zero j)
 | i+1,h=>by
  by_cases hj:j=i
  ·subst hj;rfl
  ·rw [zFp,zFU (by omega)];exact zMU i (by omega)
theorem zIH {n:Nw} (ho:NwOk n) {i:Nat} (hi:i<n.n.length):∃ l:Nat,(zAZ n).getD i 0=l∧l<n.n.length∧chn n l i∧i≤l∧∀ k,k<n.n.length→chn n k i→k≤l:=by
 have h8:=ho.nl.2
 obtain ⟨l,h1,h2,h3⟩:=zR6 (F:=zAj n) (i:=i) (zK5 (F:=zAj n) (m:=n.n.length) i) (by omega) (zLU i i (Nat.le_refl i)) n.n.length
 have yW:=h3 i hi rfl
 refine ⟨l,?_,?_,?_,yW,fun k hk hc=>h3 k hk hc⟩
 ·unfold zAZ
  rw [zMU n.n.length hi,zFp];exact h1
 ·rcases h2 with h2 | ⟨h2,_⟩<;>omega
 ·rcases h2 with h2 | ⟨_,h4⟩
  ·have:i=l:=by omega
   subst this;rfl
  ·exact h4
end Go.Eng
set_option maxRecDepth 10000
set_option maxHeartbeats 4000000
namespace Go.Eng
open Go Go.Proofs
def zM0 (a b:Int) (x:Int×Int):Bool:=decide (x.1=a∧x.2=b∨x.1=b∧x.2=a)
def zWf (n:Nw) (a b:Int):Bool:=n.l.any (zM0 a b)
theorem zT6 {a b:Int} {x:Int×Int}:pr2 x=pr2 (a,b)↔x.1=a∧x.2=b∨x.1=b∧x.2=a:=by
 obtain ⟨c,d⟩:=x
 simp only [pr2,Prod.mk.injEq]
 constructor
 ·rintro ⟨h1,h2⟩
  repeat' split at h1
  all_goals (repeat' split at h2)
  all_goals omega
 ·intro h
  constructor
  ·repeat' split
   all_goals omega
  ·repeat' split
   all_goals omega
theorem zU2 {n:Nw} {a b:Int}:zWf n a b=zGc n a b:=by
 rw [Bool.eq_iff_iff]
 simp only [zWf,zGc,List.any_eq_true,zM0,decide_eq_true_eq,List.mem_map]
 constructor
 ·rintro ⟨x,hx,h⟩;exact ⟨x,hx,zT6.2 h⟩
 ·rintro ⟨x,hx,h⟩;exact ⟨x,hx,zT6.1 h⟩
end Go.Eng
set_option maxRecDepth 10000
set_option maxHeartbeats 4000000
namespace Go.Eng
open Go Go.Proofs
abbrev bls (l:List Bool):PV := .sl (l.map PV.bool)
def kn (K:List (List Bool)) (h i:Nat):Bool:=(K.getD h []).getD i false
structure RelK (n:Nw) (K:List (List Bool)) (w:List Int):Prop where
 len:K.length=n.h.toNat
 row:∀ r∈K,r.length=n.n.length
 wl:w.length=80
 top:∀ h i,h<n.h.toNat→i<n.n.length→kn K h i=true→(i:Int)≤w.getD (h*8+((zAj n).getD i 0).toNat) 0
 at_:∀ h c,h<n.h.toNat→c<8→w.getD (h*8+c) 0 = -1∨∃ i,i<n.n.length∧(zAj n).getD i 0=c∧w.getD (h*8+c) 0=i∧kn K h i=true
def hld (n:Nw) (w:List Int) (h i:Nat):Bool:=decide (w.getD (h*8+((zAj n).getD i 0).toNat) 0=i)
theorem zUD {n:Nw} (ho:NwOk n) {i k:Nat} (hk:k<n.n.length) (h:(n.n.getD k default).1=i):i<k∧chn n k i:=by
 have ha:=ho.na k hk
 have hr:=zMu ho hk
 refine ⟨by omega,?_⟩
 rw [if_neg (by omega),h,Int.toNat_natCast] at hr
 exact hr
end Go.Eng
set_option maxRecDepth 10000
set_option maxHeartbeats 4000000
namespace Go.Eng
open Go Go.Proofs
def hrB (n:Nw) (h i:Int) (c:Int×Int):Bool:=decide (c.1=i)&&has (n.s.getD c.2.toNat []) h
def zI3 (n:Nw) (cs:List (Int×Int)) (h i:Int):Bool:=cs.any (hrB n h i)
end Go.Eng
set_option maxRecDepth 10000
set_option maxHeartbeats 4000000
namespace Go.Eng
open Go Go.Proofs
abbrev lsB (l:List Bool):PV := .own 1 (l.map PV.bool)
instance:FrzOf lsB bls:=⟨fun x=>by simp only [zAR,zFe]⟩
end Go.Eng
namespace Go.Eng
open Go Go.Proofs
structure Tr (n:Nw) (w:List Int) (S:Nat→Nat→Prop):Prop where
 wl:w.length=80
 at_:∀ h c,h<n.h.toNat→c<8→w.getD (h*8+c) 0 = -1∨∃ i,i<n.n.length∧(zAj n).getD i 0=(c:Int)∧w.getD (h*8+c) 0=i∧S h i
 top:∀ h i,h<n.h.toNat→i<n.n.length→S h i→(i:Int)≤w.getD (h*8+((zAj n).getD i 0).toNat) 0
theorem zIq {w:List Int} {i j:Nat} {x:Int} (hi:i<w.length):(zPO w i x).getD j 0=if i=j then max (w.getD j 0) x else w.getD j 0:=by
 unfold zPO
 rw [zCS]
 by_cases h:i=j
 ·subst h;rw [if_pos ⟨rfl,hi⟩,if_pos rfl]
 ·rw [if_neg (fun h2=>h h2.1),if_neg h]
theorem Tr.upd {n:Nw} {w:List Int} {S:Nat→Nat→Prop} (ho:NwOk n) (ht:Tr n w S) {h0 i0:Nat} (hh:h0<n.h.toNat) (hi:i0<n.n.length):Tr n (zPO w (h0*8+((zAj n).getD i0 0).toNat) i0) (fun h i=>S h i∨h=h0∧i=i0):=by
 have wD:=ho.nl.2
 have hH:=ho.h.2
 have hf0:=zCA ho i0 hi
 have yJ:h0*8+((zAj n).getD i0 0).toNat<w.length:=by rw [ht.wl];omega
 refine ⟨by rw [zH8];exact ht.wl,fun h c qo hc=>?_,fun h i qo hi1 hS=>?_⟩
 ·rw [zIq yJ]
  split
  ·rename_i he
   have e1:h=h0:=by omega
   have e2:((zAj n).getD i0 0).toNat=c:=by omega
   have e3:(zAj n).getD i0 0=(c:Int):=by omega
   subst e1
   have hw:=ht.at_ h c qo hc
   by_cases hm:w.getD (h*8+c) 0≤(i0:Int)
   ·right
    exact ⟨i0,hi,e3,by rw [Int.max_eq_right hm],.inr ⟨rfl,rfl⟩⟩
   ·rcases hw with hw | ⟨i,g1,g2,g3,g4⟩
    ·omega
    ·right;exact ⟨i,g1,g2,by rw [Int.max_eq_left (by omega)];exact g3,.inl g4⟩
  ·rcases ht.at_ h c qo hc with hw | ⟨i,g1,g2,g3,g4⟩
   ·exact .inl hw
   ·exact .inr ⟨i,g1,g2,g3,.inl g4⟩
 ·rw [zIq yJ]
  have gq:=zCA ho i hi1
  rcases hS with hS | ⟨rfl,rfl⟩
  ·have:=ht.top h i qo hi1 hS
   split<;>omega
  ·rw [if_pos rfl];omega
theorem Tr.same {n:Nw} {w:List Int} {S S':Nat→Nat→Prop} (ht:Tr n w S) (h:∀ a i,a<n.h.toNat→i<n.n.length→(S a i↔S' a i)):Tr n w S' :=
 ⟨ht.wl,fun a c ha hc=>by
  rcases ht.at_ a c ha hc with h1 | ⟨i,g1,g2,g3,g4⟩
  ·exact .inl h1
  ·exact .inr ⟨i,g1,g2,g3,(h a i ha g1).1 g4⟩,fun a i ha hi hs=>ht.top a i ha hi ((h a i ha hi).2 hs)⟩
theorem Tr.none (n:Nw) (ho:NwOk n):Tr n (List.replicate 80 (-1)) (fun _ _=>False):=by
 have hH:=ho.h.2
 refine ⟨by simp,fun h c hh hc => .inl ?_,fun _ _ _ _ h=>h.elim⟩
 rw [zAH (by rw [List.length_replicate];omega),List.getElem_replicate]
end Go.Eng
namespace Go.Eng
open Go Go.Proofs
theorem Tr.begC {n:Nw} {w:List Int} {S:Nat→Nat→Prop} (ho:NwOk n) (ht:Tr n w S) {h:Nat} (hh:h<n.h.toNat) {c:Int×Int} (hc:0≤c.1∧c.1<n.n.length):Tr n (begC n h w c) (fun a i=>S a i∨a=h∧hrB n h i c=true):=by
 unfold Go.Eng.begC
 split
 ·rename_i hs
  have:=ht.upd ho hh (i0:=c.1.toNat) (by omega)
  rw [Int.toNat_of_nonneg hc.1] at this
  refine this.same fun a i _ _=>?_
  simp only [hrB,hs,Bool.and_true,decide_eq_true_eq]
  refine or_congr Iff.rfl (and_congr Iff.rfl ⟨fun e=>by omega,fun e=>by omega⟩)
 ·rename_i hs
  refine ht.same fun a i _ _=>?_
  have h2:has (n.s.getD c.2.toNat []) h=false:=by
   cases hx:has (n.s.getD c.2.toNat []) h
   ·rfl
   ·exact absurd hx hs
  simp only [hrB,h2,Bool.and_false,Bool.false_eq_true,and_false,or_false]
theorem Tr.begH {n:Nw} (ho:NwOk n) {h:Nat} (hh:h<n.h.toNat):∀ (cs:List (Int×Int)) {w:List Int} {S:Nat→Nat→Prop},Tr n w S→(∀ c∈cs,0≤c.1∧c.1<n.n.length)→Tr n (begH n h w cs) (fun a i=>S a i∨a=h∧zI3 n cs h i=true)
 | [],w,S,ht,_=>ht.same fun a i _ _=>by simp [zI3]
 | c::cs,w,S,ht,hc=>by
  have h1:=Tr.begH ho hh cs (ht.begC ho hh (hc c List.mem_cons_self)) fun d hd=>hc d (List.mem_cons_of_mem _ hd)
  refine Tr.same (w:=Go.Eng.begH n h w (c::cs)) h1 fun a i _ _=>?_
  simp only [zI3,List.any_cons,Bool.or_eq_true,or_assoc,and_or_left]
theorem Tr.begN {n:Nw} {cs:List (Int×Int)} (ho:CrW n cs):∀ k,k≤n.h.toNat→Tr n (begN n cs k) (fun a i=>a<k∧zI3 n cs a i=true)
 | 0,_=>(Tr.none n ho.nw).same fun a i _ _=>by simp
 | k + 1,hk=>by
  rw [zI6]
  refine (Tr.begH ho.nw (by omega) cs (Tr.begN ho k (by omega)) fun c hc=>(ho.cs c hc).1).same fun a i _ _=>?_
  constructor
  ·rintro (⟨h1,h2⟩ | ⟨rfl,h2⟩)
   ·exact ⟨by omega,h2⟩
   ·exact ⟨by omega,h2⟩
  ·rintro ⟨h1,h2⟩
   by_cases e:a=k
   ·subst e;exact .inr ⟨rfl,h2⟩
   ·exact .inl ⟨by omega,h2⟩
end Go.Eng
namespace Go.Eng
open Go Go.Proofs
theorem Tr.skip {n:Nw} {w:List Int} {S:Nat→Nat→Prop} (ho:NwOk n) (ht:Tr n w S) {h0 c0:Nat} (hh:h0<n.h.toNat) (hc:c0<8):Tr n (zPO w (h0*8+c0) (-1)) S:=by
 have hH:=ho.h.2
 have yJ:h0*8+c0<w.length:=by rw [ht.wl];omega
 have hge : -1≤w.getD (h0*8+c0) 0:=by
  rcases ht.at_ h0 c0 hh hc with h | ⟨i,_,_,h,_⟩<;>omega
 have he:∀ j,(zPO w (h0*8+c0) (-1)).getD j 0=w.getD j 0:=fun j=>by
  rw [zIq yJ]
  split
  ·rename_i e;subst e;exact Int.max_eq_left hge
  ·rfl
 exact ⟨by rw [zH8];exact ht.wl,fun h c h1 h2=>by rw [he];exact ht.at_ h c h1 h2,fun h i h1 h2 h3=>by rw [he];exact ht.top h i h1 h2 h3⟩
theorem Tr.nxtR {n:Nw} {now:List Int} {S0:Nat→Nat→Prop} (ho:NwOk n) (h0:Tr n now S0) {h o:Nat} (hh:h<n.h.toNat) (hoo:o<n.h.toNat) {w:List Int} {S:Nat→Nat→Prop} (ht:Tr n w S):∀ k,k≤8→Tr n (nxtR now h o w k) (fun a i=>S a i∨a=h∧(zAj n).getD i 0<(k:Int)∧hld n now o i=true)
 | 0,_=>Tr.same (w:=Go.Eng.nxtR now h o w 0) ht fun a i _ hi=>by
  have:=zCA ho i hi
  exact ⟨.inl,fun h=>h.elim id fun h=>by have:=h.2.1;omega⟩
 | k + 1,hk=>by
  have ih:=Tr.nxtR ho h0 hh hoo ht k (by omega)
  have e:Go.Eng.nxtR now h o w (k+1)=zPO (Go.Eng.nxtR now h o w k) (h*8+k) (now.getD (o*8+k) 0):=by
   simp only [Go.Eng.nxtR,List.range_succ,List.foldl_append,List.foldl_cons,List.foldl_nil]
  rw [e]
  rcases h0.at_ o k hoo (by omega) with hm | ⟨j,g1,g2,g3,_⟩
  ·rw [hm]
   refine (ih.skip ho hh (by omega)).same fun a i _ hi=>or_congr Iff.rfl (and_congr Iff.rfl ⟨fun ⟨x,y⟩=>⟨by omega,y⟩,fun ⟨x,y⟩=>⟨?_,y⟩⟩)
   have hf:=zCA ho i hi
   by_cases ek:(zAj n).getD i 0=(k:Int)
   ·simp only [hld,decide_eq_true_eq,ek,Int.toNat_natCast,hm] at y
    omega
   ·omega
  ·have:=ih.upd ho hh g1
   rw [g2,Int.toNat_natCast] at this
   rw [g3]
   refine this.same fun a i _ hi=>?_
   have hf:=zCA ho i hi
   constructor
   ·rintro ((x | ⟨x,y,z⟩) | ⟨rfl,rfl⟩)
    ·exact .inl x
    ·exact .inr ⟨x,by omega,z⟩
    ·refine .inr ⟨rfl,by omega,?_⟩
     simp only [hld,decide_eq_true_eq,g2,Int.toNat_natCast,g3]
   ·rintro (x | ⟨rfl,y,z⟩)
    ·exact .inl (.inl x)
    ·by_cases ek:(zAj n).getD i 0=(k:Int)
     ·simp only [hld,decide_eq_true_eq,ek,Int.toNat_natCast,g3] at z
      exact .inr ⟨rfl,by omega⟩
     ·exact .inl (.inr ⟨rfl,by omega,z⟩)
theorem Tr.nxtH {n:Nw} {now:List Int} {S0:Nat→Nat→Prop} (ho:NwOk n) (h0:Tr n now S0) {h:Nat} (hh:h<n.h.toNat):∀ (l:List Nat),(∀ o∈l,o<n.h.toNat)→∀ {w:List Int} {S:Nat→Nat→Prop},Tr n w S→Tr n (nxtH now h w l) (fun a i=>S a i∨a=h∧(l.any fun o=>hld n now o i)=true)
 | [],_,w,S,ht=>Tr.same (w:=Go.Eng.nxtH now h w []) ht fun a i _ _=>by simp
 | o::l,hl,w,S,ht=>by
  have h1:=Tr.nxtH ho h0 hh l (fun x hx=>hl x (List.mem_cons_of_mem _ hx)) (Tr.nxtR ho h0 hh (hl o List.mem_cons_self) ht 8 (Nat.le_refl _))
  refine Tr.same (w:=Go.Eng.nxtH now h w (o::l)) h1 fun a i _ hi=>?_
  have hf:=zCA ho i hi
  have wD:=ho.nl.2
  simp only [List.any_cons,Bool.or_eq_true,and_or_left,or_assoc]
  refine or_congr Iff.rfl (or_congr (and_congr Iff.rfl ⟨fun x=>x.2,fun x=>⟨by omega,x⟩⟩) Iff.rfl)
theorem Tr.nxtN {n:Nw} {now:List Int} {S0:Nat→Nat→Prop} (ho:NwOk n) (h0:Tr n now S0):∀ k,k≤n.h.toNat→Tr n (nxtN n now k) (fun a i=>S0 a i∨a<k∧((zHG n a n.h.toNat).any fun o=>hld n now o i)=true)
 | 0,_=>Tr.same (w:=Go.Eng.nxtN n now 0) h0 fun a i _ _=>by simp
 | k + 1,hk=>by
  have ih:=Tr.nxtN ho h0 k (by omega)
  have e:Go.Eng.nxtN n now (k+1)=Go.Eng.nxtH now k (Go.Eng.nxtN n now k) (zHG n k n.h.toNat):=by
   simp only [Go.Eng.nxtN,List.range_succ,List.foldl_append,List.foldl_cons,List.foldl_nil]
  rw [e]
  refine (Tr.nxtH ho h0 (by omega) _ (fun o hm=>List.mem_range.1 (List.mem_filter.1 hm).1) ih).same fun a i _ _=>?_
  constructor
  ·rintro ((x | ⟨x,y⟩) | ⟨rfl,y⟩)
   ·exact .inl x
   ·exact .inr ⟨by omega,y⟩
   ·exact .inr ⟨by omega,y⟩
  ·rintro (x | ⟨x,y⟩)
   ·exact .inl (.inl x)
   ·by_cases ea:a=k
    ·subst ea;exact .inr ⟨rfl,y⟩
    ·exact .inl (.inr ⟨by omega,y⟩)
end Go.Eng
set_option maxRecDepth 10000
set_option maxHeartbeats 4000000
namespace Go.Eng
open Go Go.Proofs
instance (n:Nw) (i j:Nat):Decidable (chn n i j):=inferInstanceAs (Decidable ((zAj n).getD i 0=(zAj n).getD j 0))
end Go.Eng
set_option maxRecDepth 10000
set_option maxHeartbeats 4000000
namespace Go.Eng
open Go Go.Proofs
end Go.Eng
set_option maxRecDepth 10000
set_option maxHeartbeats 4000000
namespace Go.Eng
open Go Go.Proofs
end Go.Eng
set_option maxRecDepth 10000
set_option maxHeartbeats 4000000
namespace Go.Eng
open Go Go.Proofs
end Go.Eng
namespace Go.Eng
open Go Go.Proofs
end Go.Eng
namespace Go.Eng
open Go Go.Proofs
theorem zUI {a b v:Int}:v≤max a b↔v≤a∨v≤b:=by omega
theorem zR8 {now w:List Int} {h o:Nat} (hw:w.length=80) (hh:h<10) {j:Nat} {v:Int}:∀ k,k≤8→(v≤(nxtR now h o w k).getD j 0↔v≤w.getD j 0∨∃ c,c<k∧j=h*8+c∧v≤now.getD (o*8+c) 0)
 | 0,_=>by
  refine ⟨.inl,fun h=>h.elim id fun ⟨c,h,_⟩=>absurd h (Nat.not_lt_zero c)⟩
 | k + 1,hk=>by
  have ih:=zR8 (now:=now) (o:=o) hw hh (j:=j) (v:=v) k (by omega)
  rw [zI1,zIq (by rw [zHi,hw];omega)]
  split
  ·rename_i e
   rw [zUI,ih]
   constructor
   ·rintro ((h1 | ⟨c,h1,h2,h3⟩) | h1)
    ·exact .inl h1
    ·exact .inr ⟨c,by omega,h2,h3⟩
    ·exact .inr ⟨k,by omega,e.symm,h1⟩
   ·rintro (h1 | ⟨c,h1,h2,h3⟩)
    ·exact .inl (.inl h1)
    ·obtain rfl:c=k:=by omega
     exact .inr h3
  ·rename_i e
   rw [ih]
   refine or_congr Iff.rfl ⟨fun ⟨c,h1,h2,h3⟩=>⟨c,by omega,h2,h3⟩,fun ⟨c,h1,h2,h3⟩=>⟨c,?_,h2,h3⟩⟩
   by_cases hc:c=k
   ·subst hc;exact absurd h2.symm e
   ·omega
theorem zQe {now:List Int} {h:Nat} (hh:h<10) {j:Nat} {v:Int}:∀ (l:List Nat) {w:List Int},w.length=80→(v≤(nxtH now h w l).getD j 0↔v≤w.getD j 0∨∃ o∈l,∃ c,c<8∧j=h*8+c∧v≤now.getD (o*8+c) 0)
 | [],w,hw=>⟨.inl,fun h=>h.elim id fun ⟨o,h,_⟩=>absurd h List.not_mem_nil⟩
 | o :: l,w,hw=>by
  have ih:=zQe (now:=now) hh (j:=j) (v:=v) l (w:=nxtR now h o w 8) (by rw [zHi,hw])
  show v≤(nxtH now h (nxtR now h o w 8) l).getD j 0↔_
  rw [ih,zR8 hw hh 8 (Nat.le_refl _)]
  constructor
  ·rintro ((h1 | h1) | ⟨o2,h1,h2⟩)
   ·exact .inl h1
   ·exact .inr ⟨o,List.mem_cons_self,h1⟩
   ·exact .inr ⟨o2,List.mem_cons_of_mem _ h1,h2⟩
  ·rintro (h1 | ⟨o2,h1,h2⟩)
   ·exact .inl (.inl h1)
   ·rcases List.mem_cons.1 h1 with e | h3
    ·subst e;exact .inl (.inr h2)
    ·exact .inr ⟨o2,h3,h2⟩
theorem zRq {n:Nw} {now:List Int} (hw:now.length=80) {j:Nat} {v:Int}:∀ k,k≤10→(v≤(nxtN n now k).getD j 0↔v≤now.getD j 0∨∃ h,h<k∧∃ o∈zHG n h n.h.toNat,∃ c,c<8∧j=h*8+c∧v≤now.getD (o*8+c) 0)
 | 0,_=>⟨.inl,fun h=>h.elim id fun ⟨c,h,_⟩=>absurd h (Nat.not_lt_zero c)⟩
 | k + 1,hk=>by
  have ih:=zRq (n:=n) hw (j:=j) (v:=v) k (by omega)
  rw [zIE,zQe (by omega) _ (by rw [zH5,hw]),ih]
  constructor
  ·rintro ((h1 | ⟨h,h1,h2⟩) | h2)
   ·exact .inl h1
   ·exact .inr ⟨h,by omega,h2⟩
   ·exact .inr ⟨k,by omega,h2⟩
  ·rintro (h1 | ⟨h,h1,h2⟩)
   ·exact .inl (.inl h1)
   ·by_cases e:h=k
    ·subst e;exact .inr h2
    ·exact .inl (.inr ⟨h,by omega,h2⟩)
theorem zJg {n:Nw} (ho:NwOk n) {w:List Int} (hw:w.length=80) {h c:Nat} (hh:h<n.h.toNat) (hc:c<8) {v:Int}:v≤(zCU n w).getD (h*8+c) 0↔v≤w.getD (h*8+c) 0∨∃ o∈zHG n h n.h.toNat,v≤w.getD (o*8+c) 0:=by
 have hH:=ho.h
 unfold zCU
 rw [zRq hw _ (by omega)]
 refine or_congr Iff.rfl ⟨fun ⟨h2,h3,o,h4,c2,h5,h6,h7⟩=>?_,fun ⟨o,h1,h2⟩=>⟨h,hh,o,h1,c,hc,rfl,h2⟩⟩
 obtain rfl:h2=h:=by omega
 obtain rfl:c2=c:=by omega
 exact ⟨o,h4,h7⟩
end Go.Eng
set_option maxRecDepth 10000
set_option maxHeartbeats 4000000
namespace Go.Eng
open Go Go.Proofs
def zTC (n:Nw) (i:Nat):Bool:=decide ((zAZ n).getD i 0=i) && !(n.n.getD i default).2
def zIO (p:Nat→Bool) (k:Nat):List Int:=((List.range k).filter p).map fun (i:Nat)=>(i:Int)
theorem zPr {p:Nat→Bool} {k:Nat}:zIO p (k+1)=if p k=true then zIO p k++[(k:Int)] else zIO p k:=by
 unfold zIO;rw [List.range_succ,List.filter_append,List.map_append]
 by_cases hn:p k=true
 ·rw [if_pos hn];simp [hn]
 ·rw [if_neg hn];simp [hn]
theorem zRK {p:Nat→Bool} {k:Nat}:(zIO p k).length≤k:=by
 unfold zIO;rw [List.length_map];exact Nat.le_trans (List.length_filter_le _ _) (by simp)
theorem f16_1 (n:Nw) (ho:NwOk n):FG 16 [nwV n] (.tup [.own 1 ((zIO (zTC n) n.n.length).map I),I 0]):=by
 have wD:=ho.nl
 refine zAf Try.f16 ?_
 refine zAd 3<|zAa<|zAd 1<|S_a [(6,.ret (PV.tup [(zCI n (PV.own 2 []) (zU4 (List.map pr2 n.l)) (zAj n) (zAZ n)).box,I 0]) [])] (ap (f55_1 n (by omega)) an)<|zAc 5<|zAa<|zAh<|zAd 2<|zAa<|zAK<|zAl<|zAd 1<|zAa<|zAh<|zAd 2<|S_a [(0,.n n.n.length)] (ap (lnS ntV n.n) an)<|zAc 1<|zAa<|zAk 0 ?_
 refine zAD (fun (i,l)=>i≤n.n.length∧l=zIO (zTC n) i) (fun (i,l)=>[(6,.own 1 (l.map I)),(20,I (i:Nat))]) (fun (i,_)=>n.n.length-i) ((0:Nat),([]:List Int)) ⟨by omega,by simp [zIO]⟩ fun (i,l) ⟨hi,hl⟩=>?_
 have gW:l.length≤i:=by rw [hl];exact zRK
 by_cases yW:i<n.n.length
 ·have jC:=zPr (p:=zTC n) (k:=i)
  rw [← hl] at jC
  have kS:zTC n i=false→l=zIO (zTC n) (i+1):=fun h=>by rw [jC,if_neg (by rw [h];simp)]
  refine zAd 1<|zAa<|zAh<|zBj ((↑i:Int)<(↑n.n.length:Int)) (by omega)<|zAl<|zAh<|zAk 1<|zAd 1<|S_a [(2,.v (PV.agg [I (n.n.getD i default).fst,PV.bool (n.n.getD i default).snd]))] (ap (zDn default (by omega):(List.map ntV n.n)[i]? = some (PV.agg [I (n.n.getD i default).fst,PV.bool (n.n.getD i default).snd])) an)<|zAc 4<|zAa<|zAd 4<|S_a [(2,.ob),(1,.v (PV.addr 4 [] 0 (14+i) none))] (ap ((by exact zAv (by omega)):decide (i<8)=true)<|ap ((zFP (by kernel_rfl)):PV.addr 4 [] 0 (14+i*(fun x=>x.size) Try.prog.types[3]) none=PV.addr 4 [] 0 (14+i) none) an)<|S_a [(0,.cs true ([I ((zAZ n).getD i 0)]))] (ap (zDd (q:=(PV.agg (I n.h::prs n.l::PV.sl (List.map ntV n.n)::PV.sl (List.map zBp n.s)::PV.own 2 []::PV.omap (List.map zBE (List.map pr2 n.l))::(zAt (zAj n) 8++zAt (zAZ n) 8))).box) (xs:=[PV.agg (I n.h::prs n.l::PV.sl (List.map ntV n.n)::PV.sl (List.map zBp n.s)::PV.own 2 []::PV.omap (List.map zBE (List.map pr2 n.l))::(zAt (zAj n) 8++zAt (zAZ n) 8))]) (x:=PV.agg (I n.h::prs n.l::PV.sl (List.map ntV n.n)::PV.sl (List.map zBp n.s)::PV.own 2 []::PV.omap (List.map zBE (List.map pr2 n.l))::(zAt (zAj n) 8++zAt (zAZ n) 8))) rfl rfl (zKA (A:=I n.h::prs n.l::PV.sl (List.map ntV n.n)::PV.sl (List.map zBp n.s)::PV.own 2 []::PV.omap (List.map zBE (List.map pr2 n.l))::zAt (zAj n) 8) (B:=[]) (F:=zAZ n) (m:=8) (j:=i) (by first | rfl | exact zB5 (by kernel_rfl) | exact zB1 (by kernel_rfl) | exact zBZ (by kernel_rfl) (by kernel_rfl) | exact zB6 (by kernel_rfl) | exact zB8 (by kernel_rfl) (by kernel_rfl) | exact zB2 (by kernel_rfl) | (simp;done)) (by omega)):zAr 4 (PV.agg (I n.h::prs n.l::PV.sl (List.map ntV n.n)::PV.sl (List.map zBp n.s)::PV.own 2 []::PV.omap (List.map zBE (List.map pr2 n.l))::(zAt (zAj n) 8++zAt (zAZ n) 8))).box [] 0 (14+i) 1=some (true,[I ((zAZ n).getD i 0)])) an)<|zAc 3<|zLr 33 ((zAZ n).getD i 0=(↑i:Int)) (fun k0=>(zAc 4<|zAa<|zFh (!(n.n.getD i default).snd) (fun k1=>(zAg<|zAc 3<|S_a [(4,.ob),(0,.ob),(0,.yes),(2,.v (PV.own 1 (List.map I (l++[(↑i:Int)]))))] (ap (blz (List.map I l))<|ap ((by exact zA8 (by simp only [List.length_map,zzLn,zAY]<;>omega)):((List.map I l).length + [I (↑i:Int)].length).ble zAY=true)<|ap ((by exact zBL (by simp<;>omega)):(0+(List.map I l).length).beq (List.map I l).length=true)<|ap ((zA6 (zBP (by kernel_rfl))):PV.own 1 (List.map I l++[I (↑i:Int)])=PV.own 1 (List.map I (l++[(↑i:Int)]))) an)<|zAc 1<|zAa<|zAg<|S_a [(1,.v (I (↑(i+1):Int)))] (ap (wrN i) an)<|zAc 1<|zAa ?_)) (fun k1=>(zAl<|zAg<|S_a [(1,.v (I (↑(i+1):Int)))] (ap (wrN i) an)<|zAc 1<|zAa ?_)))) (fun k0=>(zAc 4<|zAa<|zAK<|zAl<|zAg<|S_a [(1,.v (I (↑(i+1):Int)))] (ap (wrN i) an)<|zAc 1<|zAa ?_))
  ·rw [if_pos (by simp only [zTC,decide_eq_true k0,k1];rfl)] at jC
   exact ⟨(i+1,l++[(i:Int)]),⟨by omega,jC.symm⟩,by simp only;omega,by kernel_rfl,by kernel_rfl⟩
  ·exact ⟨(i+1,l),⟨by omega,kS (by simp only [zTC,decide_eq_true k0,k1];rfl)⟩,by simp only;omega,by kernel_rfl,by kernel_rfl⟩
  ·exact ⟨(i+1,l),⟨by omega,kS (by simp only [zTC,decide_eq_false k0,Bool.false_and])⟩,by simp only;omega,by kernel_rfl,by kernel_rfl⟩
 ·refine zAd 1<|zAa<|zAh<|zBv ((↑i:Int)<(↑n.n.length:Int)) (by omega)<|zAS 0<|zAd 1<|S_a [(2,.yes)] (ap ((by exact zBL (by simp<;>omega)):(Nat.beq 0 0&&(List.map I l).length.beq (List.map I l).length)=true) an)<|zAc 1<|zAa<|zAn<|E_a [(1,.yes),(1,.v (PV.own 1 (List.map I l)))] (ap (blz (List.map I l))<|ap ((zA6 zBt):PV.own 1 (List.take (List.map I l).length (List.drop 0 (List.map I l)))=PV.own 1 (List.map I l)) an) (PV.tup [PV.own 1 (List.map I l),I 0]) [] ?_ rfl
  rw [hl,show i=n.n.length by omega]
def bkL (n:Nw) (cs:List (Int×Int)) (c:Nat) (x:Int):Nat→List Int→List Int
 | 0,out=>out
 | k+1,out=>bkL n cs c x k (match (zHG n (out.getD 0 0).toNat n.h.toNat).find? fun o=>decide ((zAU n cs k).getD (o*8+c) 0=x) with | some o=>(o:Int)::out | none=>out)
abbrev zTS (S:List (List Int)):PV := .box (.own 80 (S.map hdV))
def zQF (n:Nw) (cs:List (Int×Int)) (k:Nat):List (List Int):=(List.range k).map fun k=>zAU n cs k
theorem zLD {n:Nw} {cs:List (Int×Int)} {k:Nat}:zQF n cs (k+1)=zQF n cs k++[zAU n cs k]:=by
 simp only [zQF,List.range_succ,List.map_append,List.map_cons,List.map_nil]
theorem zLi {n:Nw} {cs:List (Int×Int)} {k j:Nat} (h:j<k):(zQF n cs k).getD j []=zAU n cs j:=by
 simp [zQF,List.getD_eq_getElem?_getD,h]
theorem zUR (n:Nw) (cs:List (Int×Int)) (h:Int) (ho:NwOk n) (hh:0≤h∧h<n.h):zFZ 112 [] [.ref (zDO n cs),.ref (I h)] (zIW n h.toNat n.h.toNat):=by
 obtain ⟨g,rfl⟩:∃ g:Nat,h=g:=⟨h.toNat,by omega⟩
 exact zT3 n cs g ho hh.2
theorem zKC {p:Nat→Bool}:∀ {l:List Nat} {j o:Nat},l[j]? = some o→p o=true→(∀ i,i<j→p (l.getD i 0)=false)→l.find? p=some o
 | [],j,o,h,_,_=>by cases h
 | x::l,0,o,h,hp,_=>by
  simp only [List.getElem?_cons_zero,Option.some.injEq] at h
  subst h;rw [List.find?_cons,hp]
 | x::l,j+1,o,h,hp,ha=>by
  have h0:=ha 0 (by omega)
  simp only [List.getD_cons_zero] at h0
  rw [List.find?_cons,h0]
  exact zKC (by simpa using h) hp fun i hi=>by simpa using ha (i+1) (by omega)
theorem zOV {p:Nat→Bool} {l:List Nat} (ha:∀ i,i<l.length→p (l.getD i 0)=false):l.find? p=none:=by
 rw [List.find?_eq_none]
 intro x hx
 obtain ⟨i,hi,rfl⟩:=List.getElem_of_mem hx
 have:=ha i hi
 rw [zAH hi] at this
 simp [this]
theorem f49_1 (n:Nw) (cs:List (Int×Int)) (h:Int) (x:Int) (k:Nat) (ho:CrOk n cs) (hh:0≤h∧h<n.h) (hx:0≤x∧x<n.n.length) (hk:k≤12) (kC:(zAU n cs k).getD (h.toNat*8+((zAj n).getD x.toNat 0).toNat) 0=x) (hm:∀ j,j<k→(zAU n cs j).getD (h.toNat*8+((zAj n).getD x.toNat 0).toNat) 0≠x):FG 49 [nwV n,prs cs,I h,I x] (.tup [.own 1 ((bkL n cs ((zAj n).getD x.toNat 0).toNat x k [h]).map I),I 0]):=by
 have hn:=ho.nw
 have qh:=ho.w
 have hb:=hn.h
 have wD:=hn.nl
 have hin:inB x 0 (n.n.length-1)=true:=by simp only [inB,Bool.and_eq_true,decide_eq_true_eq];omega
 have hih:inB h 0 (n.h-1)=true:=by simp only [inB,Bool.and_eq_true,decide_eq_true_eq];omega
 have hfb:=zCA hn x.toNat (by omega)
 refine zAf Try.f49 ?_
 refine zAd 4<|zAa<|zAd 2<|S_a [(8,.ret (PV.tup [zDO n cs,I 0]) [])] (ap (f82_1 n cs (by omega)) an)<|zAc 5<|zAa<|zAh<|zAk 0<|zAd 3<|zAa<|zAK<|zAd 2<|S_a [(8,.ret (PV.bool (inB h 0 (n.h-1))) [])] (ap (f69 n h (by omega)) an)<|zAc 2<|zGl 32 (!inB h 0 (n.h-1)) (fun k1=>(zAc 6<|zAa<|zEb<|zAd 2<|zAa<|zAn<|E_a [] an (PV.tup [PV.own 1 [],I 1]) [] ?_ rfl)) (fun k1=>(zAc 2<|S_a [(8,.ret (PV.bool (inB x 0 ((↑n.n.length:Int)-1))) [])] (ap (f73 n x (by first | omega | (simp<;>omega))) an)<|zAc 3<|zAa<|zFh (!inB x 0 ((↑n.n.length:Int)-1)) (fun k2=>(zAd 2<|zAa<|zAn<|E_a [] an (PV.tup [PV.own 1 [],I 1]) [] ?_ rfl)) (fun k2=>(zAl<|zAd 4<|S_a [(0,.ob),(1,.ob),(0,.v ((I ((zAj n).getD x.toNat 0)).ref))] (ap ((by exact zAv (by omega)):decide (0≤x)=true)<|ap ((by exact zAv (by omega)):decide (x.toNat<8)=true)<|ap (zGt (F:=zAj n) (m:=8) (j:=x.toNat) (by omega):zCj (PV.agg (zAt (zAj n) 8)).ref (x.toNat*(fun x=>x.size) Try.prog.types[3]) none=some (I ((zAj n).getD x.toNat 0)).ref) an)<|zAc 3<|zAa<|zAd 1<|S_a [(5,.ret (hdV (zK9 n cs)) [])] (ap (f83 n cs (by omega)) an)<|zAc 3<|zAa<|zAh<|zAk 1 ?_))))
 ·rw [hih] at k1;cases k1
 ·rw [hin] at k2;cases k2
 ·generalize hc:((zAj n).getD x.toNat 0)=c at *
  refine zAD (fun (j,S)=>j≤k∧S=zQF n cs (j+1)) (fun (j,S)=>[(13,zTS S)]) (fun (j,_)=>k-j) ((0:Nat),[zK9 n cs]) ⟨by omega,rfl⟩ fun (j,S) ⟨hj,hS⟩=>?_
  have LB:S.length=j+1:=by rw [hS];simp [zQF]
  have wx:S.getD (S.length-1) []=zAU n cs j:=by rw [LB,hS];exact zLi (by omega)
  have LA:(S.getD (S.length-1) []).length=80:=by rw [wx];exact zBT j
  by_cases gY:j<k
  ·have hI:=hm j gY
   rw [← wx] at hI
   have hSS:S++[zCU n (S.getD (S.length-1) [])]=zQF n cs (j+1+1):=by rw [zLD (k:=j+1),← hS,wx];rfl
   refine zAh<|zAh<|zAg<|S_a [(1,.v (PV.bor 13 [(0,0)] 80 0 S.length))] (ap ((by simp):PV.bor 13 [(0,0)] 80 0 (List.map hdV S).length=PV.bor 13 [(0,0)] 80 0 S.length) an)<|S_a [(1,.v (PV.bor 13 [(0,0)] 80 0 S.length))] (ap ((by simp):PV.bor 13 [(0,0)] 80 0 (List.map hdV S).length=PV.bor 13 [(0,0)] 80 0 S.length) an)<|zAc 1<|S_a [(1,.v (I (↑(S.length-1):Int)))] (ap ((zCo (by omega) (by omega)):I (IntKind.i64.wrap ((↑S.length:Int)-1))=I (↑(S.length-1):Int)) an)<|zAc 2<|S_a [(2,.ob),(1,.n (S.length-1))] (ap ((by exact zAv (by omega)):decide (S.length-1<S.length)=true)<|ap ((by simp):some (0+(S.length-1))=some (S.length-1)) an)<|S_a [(0,.ob),(1,.ob)] (ap ((by exact zAv (by omega)):decide (0≤h)=true)<|ap ((by exact zAv (by omega)):decide (h.toNat<10)=true) an)<|S_a [(0,.ob),(1,.ob)] (ap ((by exact zAv (by omega)):decide (0≤c)=true)<|ap ((by exact zAv (by omega)):decide (c.toNat<8)=true) an)<|S_a [(0,.cs true ([I ((S.getD (S.length-1) []).getD (h.toNat*8+c.toNat) 0)]))] (ap (zDd (q:=PV.own 80 (List.map hdV S)) (xs:=List.map hdV S) (x:=PV.agg (zAt (S.getD (S.length-1) []) 80)) (zMQ (xs:=[PV.own 80 (List.map hdV S)]) (x:=PV.own 80 (List.map hdV S)) (y:=PV.own 80 (List.map hdV S)) rfl rfl) (zDn [] (by omega)) (zFd (F:=S.getD (S.length-1) []) (m:=80) (j:=h.toNat*8+c.toNat) (by first | rfl | exact zB5 (by kernel_rfl) | exact zB1 (by kernel_rfl) | exact zBZ (by kernel_rfl) (by kernel_rfl) | exact zB6 (by kernel_rfl) | exact zB8 (by kernel_rfl) (by kernel_rfl) | exact zB2 (by kernel_rfl) | (simp;done)) (by omega)):zAr 13 (PV.own 80 (List.map hdV S)).box [(0,0)] (S.length-1) (0+h.toNat*(fun x=>x.size) Try.prog.types[89]+c.toNat*(fun x=>x.size) Try.prog.types[3]) 1=some (true,[I ((S.getD (S.length-1) []).getD (h.toNat*8+c.toNat) 0)])) an)<|zAc 2<|zAa<|zKL ((S.getD (S.length-1) []).getD (h.toNat*8+c.toNat) 0=x) (by omega)<|zAl<|zAk 2<|zAh<|zAh<|zAg<|S_a [(1,.v (PV.bor 13 [(0,0)] 80 0 S.length))] (ap ((by simp):PV.bor 13 [(0,0)] 80 0 (List.map hdV S).length=PV.bor 13 [(0,0)] 80 0 S.length) an)<|zAc 2<|zAa<|zBv ((↑S.length:Int)>12) (by omega)<|zAl<|zAg<|S_a [(1,.v (PV.bor 13 [(0,0)] 80 0 S.length))] (ap ((by simp):PV.bor 13 [(0,0)] 80 0 (List.map hdV S).length=PV.bor 13 [(0,0)] 80 0 S.length) an)<|zAc 1<|S_a [(1,.v (PV.bor 13 [(0,0)] 80 0 S.length))] (ap ((by simp):PV.bor 13 [(0,0)] 80 0 (List.map hdV S).length=PV.bor 13 [(0,0)] 80 0 S.length) an)<|S_a [(1,.v (PV.bor 13 [(0,0)] 80 0 S.length))] (ap ((by simp):PV.bor 13 [(0,0)] 80 0 (List.map hdV S).length=PV.bor 13 [(0,0)] 80 0 S.length) an)<|zAc 1<|S_a [(1,.v (I (↑(S.length-1):Int)))] (ap ((zCo (by omega) (by omega)):I (IntKind.i64.wrap ((↑S.length:Int)-1))=I (↑(S.length-1):Int)) an)<|S_a [(2,.ob),(1,.n (S.length-1))] (ap ((by exact zAv (by omega)):decide (S.length-1<S.length)=true)<|ap ((by simp):some (0+(S.length-1))=some (S.length-1)) an)<|S_a [(0,.cs true (zAt (S.getD (S.length-1) []) 80))] (ap (zDd (q:=PV.own 80 (List.map hdV S)) (xs:=List.map hdV S) (x:=PV.agg (zAt (S.getD (S.length-1) []) 80)) (zMQ (xs:=[PV.own 80 (List.map hdV S)]) (x:=PV.own 80 (List.map hdV S)) (y:=PV.own 80 (List.map hdV S)) rfl rfl) (zDn [] (by omega)):zAr 13 (PV.own 80 (List.map hdV S)).box [(0,0)] (S.length-1) 0 Try.prog.types[91].size=some (true,zAt (S.getD (S.length-1) []) 80)) an)<|S_a [(7,.ret (hdV (zCU n (S.getD (S.length-1) []))) [])] (ap (f84 n cs (S.getD (S.length-1) []) (by omega) (by omega)) an)<|zAc 1<|S_a [(4,.ob),(0,.ob),(0,.yes),(2,.v (PV.own 80 (List.map hdV (S++[zCU n (S.getD (S.length-1) [])]))))] (ap ((by exact zA8 (by simp only [List.length_map,zzLn,zAY]<;>omega)):(0+S.length).ble (List.map hdV S).length=true)<|ap ((by exact zA8 (by simp only [List.length_map,zzLn,zAY]<;>omega)):((List.map hdV S).length + [PV.agg (zAt (zCU n (S.getD (S.length-1) [])) 80)].length).ble zAY=true)<|ap ((by exact zBL (by simp<;>omega)):(0+S.length).beq (List.map hdV S).length=true)<|ap ((zA6 (zBP (by kernel_rfl))):PV.own 80 (List.map hdV S++[PV.agg (zAt (zCU n (S.getD (S.length-1) [])) 80)])=PV.own 80 (List.map hdV (S++[zCU n (S.getD (S.length-1) [])]))) an)<|zAc 1<|zAa ?_
   exact ⟨(j+1,S++[zCU n (S.getD (S.length-1) [])]),⟨by omega,hSS⟩,by simp only;omega,by kernel_rfl,by kernel_rfl⟩
  ·have e:j=k:=by omega
   subst e
   rw [← wx] at kC
   refine zAh<|zAh<|zAg<|S_a [(1,.v (PV.bor 13 [(0,0)] 80 0 S.length))] (ap ((by simp):PV.bor 13 [(0,0)] 80 0 (List.map hdV S).length=PV.bor 13 [(0,0)] 80 0 S.length) an)<|S_a [(1,.v (PV.bor 13 [(0,0)] 80 0 S.length))] (ap ((by simp):PV.bor 13 [(0,0)] 80 0 (List.map hdV S).length=PV.bor 13 [(0,0)] 80 0 S.length) an)<|zAc 1<|S_a [(1,.v (I (↑(S.length-1):Int)))] (ap ((zCo (by omega) (by omega)):I (IntKind.i64.wrap ((↑S.length:Int)-1))=I (↑(S.length-1):Int)) an)<|zAc 2<|S_a [(2,.ob),(1,.n (S.length-1))] (ap ((by exact zAv (by omega)):decide (S.length-1<S.length)=true)<|ap ((by simp):some (0+(S.length-1))=some (S.length-1)) an)<|S_a [(0,.ob),(1,.ob)] (ap ((by exact zAv (by omega)):decide (0≤h)=true)<|ap ((by exact zAv (by omega)):decide (h.toNat<10)=true) an)<|S_a [(0,.ob),(1,.ob)] (ap ((by exact zAv (by omega)):decide (0≤c)=true)<|ap ((by exact zAv (by omega)):decide (c.toNat<8)=true) an)<|S_a [(0,.cs true ([I ((S.getD (S.length-1) []).getD (h.toNat*8+c.toNat) 0)]))] (ap (zDd (q:=PV.own 80 (List.map hdV S)) (xs:=List.map hdV S) (x:=PV.agg (zAt (S.getD (S.length-1) []) 80)) (zMQ (xs:=[PV.own 80 (List.map hdV S)]) (x:=PV.own 80 (List.map hdV S)) (y:=PV.own 80 (List.map hdV S)) rfl rfl) (zDn [] (by omega)) (zFd (F:=S.getD (S.length-1) []) (m:=80) (j:=h.toNat*8+c.toNat) (by first | rfl | exact zB5 (by kernel_rfl) | exact zB1 (by kernel_rfl) | exact zBZ (by kernel_rfl) (by kernel_rfl) | exact zB6 (by kernel_rfl) | exact zB8 (by kernel_rfl) (by kernel_rfl) | exact zB2 (by kernel_rfl) | (simp;done)) (by omega)):zAr 13 (PV.own 80 (List.map hdV S)).box [(0,0)] (S.length-1) (0+h.toNat*(fun x=>x.size) Try.prog.types[89]+c.toNat*(fun x=>x.size) Try.prog.types[3]) 1=some (true,[I ((S.getD (S.length-1) []).getD (h.toNat*8+c.toNat) 0)])) an)<|zAc 2<|zAa<|zNM ((S.getD (S.length-1) []).getD (h.toNat*8+c.toNat) 0=x) (by omega)<|zAS 1<|zAd 4<|zAa<|zAh<|zAh<|zAg<|S_a [(1,.v (PV.bor 13 [(0,0)] 80 0 S.length))] (ap ((by simp):PV.bor 13 [(0,0)] 80 0 (List.map hdV S).length=PV.bor 13 [(0,0)] 80 0 S.length) an)<|zAc 1<|S_a [(1,.v (I ((↑S.length:Int)-2)))] (ap ((zCo rfl (by omega)):I (IntKind.i64.wrap ((↑S.length:Int)-2))=I ((↑S.length:Int)-2)) an)<|zAc 2<|zAa<|zAk 3 ?_
   have hS0:∀ r:Nat,r<S.length→(S.getD r []).length=80∧S.getD r []=zAU n cs r:=fun r hr=>by
    rw [hS,zLi (by omega)];exact ⟨zBT r,rfl⟩
   have hSm:((S.length:Nat):Int)-2=(j:Int)-1:=by omega
   generalize yI:bkL n cs c.toNat x j [h]=fin
   clear hS wx LA kC hm
   refine zAD (fun ((m:Int),(out:List Int))=>-1≤m∧m<j∧out.length≤20-m∧0<out.length∧(0≤out.getD 0 0∧out.getD 0 0<n.h)∧bkL n cs c.toNat x (m+1).toNat out=fin) (fun (m,out)=>[(14,.box (.own 1 (out.map I))),(15,.box (I m))]) (fun (m,_)=>(m+1).toNat) (((S.length:Nat):Int)-2,[h]) ⟨by omega,by omega,by simp only [List.length_cons,List.length_nil];omega,by simp,by simpa using hh,by rw [← yI];congr 1;omega⟩ fun (m,out) ⟨hm1,vO,ho1,ho2,ho3,gZ⟩=>?_
   by_cases gD:0≤m
   ·have hA:=zUR n cs (out.getD 0 0) hn ho3
    obtain ⟨uc,uP⟩:=hS0 m.toNat (by omega)
    rw [show (m+1).toNat=m.toNat+1 by omega,bkL,← uP] at gZ
    refine zAh<|zAd 2<|zAa<|zBj (m≥0) (by omega)<|zAl<|zAh<|zAk 4<|zU5<|zAh<|zUv (zAd 1<|S_a [(1,.v (PV.bor 14 [(0,0)] 1 0 out.length))] (ap ((by simp):PV.bor 14 [(0,0)] 1 0 (List.map I out).length=PV.bor 14 [(0,0)] 1 0 out.length) an)<|S_a [(2,.ob)] (ap ((by exact zAv (by omega)):decide (0<out.length)=true) an)<|S_a [(0,.cs false ([I (out.getD 0 0)]))] (ap (zDd (q:=PV.own 1 (List.map I out)) (xs:=List.map I out) (x:=I (out.getD 0 0)) (zMQ (xs:=[PV.own 1 (List.map I out)]) (x:=PV.own 1 (List.map I out)) (y:=PV.own 1 (List.map I out)) rfl rfl) (zDn (0) (by omega)):zAr 14 (PV.own 1 (List.map I out)).box [(0,0)] 0 0 1=some (false,[I (out.getD 0 0)])) an)<|S_a [(7,.ret (PV.func 112 [] [(zDO n cs).ref,(I (out.getD 0 0)).ref]) [])] (ap (f87 n cs (out.getD 0 0)) an)<|zAa<|zAk 5 ?_)
    refine zOm (t:=86) hA (fun i (_:Unit)=>∀ r,r<i→decide ((S.getD m.toNat []).getD ((zHG n (out.getD 0 0).toNat n.h.toNat).getD r 0*8+c.toNat) 0=x)=false) (fun _=>[]) () (fun r hr=>absurd hr (Nat.not_lt_zero r)) (fun i y _ hy hi=>?_) (fun _ hi=>?_)
    ·rw [List.getElem?_map] at hy
     obtain ⟨o,hmo,rfl⟩:=Option.map_eq_some_iff.1 hy
     have hol:o<n.h.toNat:=zQy (List.mem_of_getElem? hmo)
     refine zN4 ?_
     refine zAg<|zAc 1<|zAa ?_
     have jQ:(zHG n (out.getD 0 0).toNat n.h.toNat).getD i 0=o:=by rw [List.getD_eq_getElem?_getD,hmo];rfl
     refine ⟨rfl,by kernel_rfl,?_⟩
     refine zAk 6<|zAh<|zAg<|S_a [(1,.v (PV.bor 13 [(0,0)] 80 0 S.length))] (ap ((by simp):PV.bor 13 [(0,0)] 80 0 (List.map hdV S).length=PV.bor 13 [(0,0)] 80 0 S.length) an)<|zAc 3<|S_a [(0,.ob),(1,.ob),(1,.n m.toNat)] (ap ((by exact zAv (by omega)):decide (0≤m)=true)<|ap ((by exact zAv (by omega)):decide (m.toNat<S.length)=true)<|ap ((by simp):some (0+m.toNat)=some m.toNat) an)<|S_a [(2,.ob)] (ap ((by exact zAv (by omega)):decide (o<10)=true) an)<|S_a [(0,.ob),(1,.ob)] (ap ((by exact zAv (by omega)):decide (0≤c)=true)<|ap ((by exact zAv (by omega)):decide (c.toNat<8)=true) an)<|S_a [(0,.cs true ([I ((S.getD m.toNat []).getD (o*8+c.toNat) 0)]))] (ap (zDd (q:=PV.own 80 (List.map hdV S)) (xs:=List.map hdV S) (x:=PV.agg (zAt (S.getD m.toNat []) 80)) (zMQ (xs:=[PV.own 80 (List.map hdV S)]) (x:=PV.own 80 (List.map hdV S)) (y:=PV.own 80 (List.map hdV S)) rfl rfl) (zDn [] (by omega)) (zFd (F:=S.getD m.toNat []) (m:=80) (j:=o*8+c.toNat) (by first | rfl | exact zB5 (by kernel_rfl) | exact zB1 (by kernel_rfl) | exact zBZ (by kernel_rfl) (by kernel_rfl) | exact zB6 (by kernel_rfl) | exact zB8 (by kernel_rfl) (by kernel_rfl) | exact zB2 (by kernel_rfl) | (simp;done)) (by omega)):zAr 13 (PV.own 80 (List.map hdV S)).box [(0,0)] m.toNat (0+(↑o:Int).toNat*(fun x=>x.size) Try.prog.types[89]+c.toNat*(fun x=>x.size) Try.prog.types[3]) 1=some (true,[I ((S.getD m.toNat []).getD (o*8+c.toNat) 0)])) an)<|zAc 2<|zAa<|zDo ((S.getD m.toNat []).getD (o*8+c.toNat) 0=x) (fun k2=>(zAd 2<|S_a [(1,.v (PV.bor 14 [(0,0)] 1 0 out.length))] (ap ((by simp):PV.bor 14 [(0,0)] 1 0 (List.map I out).length=PV.bor 14 [(0,0)] 1 0 out.length) an)<|S_a [(1,.ob),(0,.vs (List.map I out)),(0,.ob),(0,.ob),(0,.ob),(3,.ob)] (ap ((by exact zA8 (by simp only [List.length_map,zzLn,zAY]<;>omega)):(0+out.length).ble (List.map I out).length=true)<|ap ((by simp [zC9]):List.take out.length (List.drop 0 (List.map I out))=List.map I out)<|ap ((by exact all_map _):((List.map I out).all fun x=>x.plain)=true)<|ap ((by exact all_map _):((List.map I out).all fun y=>y.cells.length.beq ((fun x=>x.size) Try.prog.types[3])&&y.cells.all fun q=>q.oneCell)=true)<|ap ((by exact List.isEmpty_iff.2 (zQg _)):(zBx (List.map I out)).isEmpty=true)<|ap ((by exact zA8 (by simp only [List.length_map,zzLn,zAY]<;>omega)):([I (↑o:Int)].length+(List.map I out).length).ble zAY=true) an)<|zAc 1<|zAa<|zAS 5 ?_)) (fun k2=>(zAl ?_))
     ·rw [zKC hmo (decide_eq_true (by assumption)) hi] at gZ
      clear hi hmo hA
      refine ⟨by kernel_rfl,?_⟩
      refine zAh<|zAd 1<|zAa<|zAg<|zAc 2<|zAa<|zAg<|zAc 1<|S_a [(1,.v (I (m-1)))] (ap ((zCo rfl (by omega)):I (IntKind.i64.wrap (m-1))=I (m-1)) an)<|zAc 1<|zAa ?_
      exact ⟨(m-1,(o:Int)::out),⟨by omega,by omega,by simp only [List.length_cons];omega,by simp,by simp only [List.getD_cons_zero];omega,by rw [show (m-1+1).toNat=m.toNat by omega];exact gZ⟩,by simp only;omega,by kernel_rfl,by kernel_rfl⟩
     ·refine ⟨by kernel_rfl,(),fun r hr=>?_,by kernel_rfl⟩
      rcases Nat.lt_succ_iff_lt_or_eq.1 hr with h | rfl
      ·exact hi r h
      ·rw [jQ];exact decide_eq_false (by assumption)
    ·rw [zOV (by simpa using hi)] at gZ
     clear hi hA
     show W _ _ _ _ _ _ _ _
     refine zAh<|zAd 1<|zAa<|zAg<|zAc 2<|zAa<|zAg<|zAc 1<|S_a [(1,.v (I (m-1)))] (ap ((zCo rfl (by omega)):I (IntKind.i64.wrap (m-1))=I (m-1)) an)<|zAc 1<|zAa ?_
     exact ⟨(m-1,out),⟨by omega,by omega,by omega,ho2,ho3,by rw [show (m-1+1).toNat=m.toNat by omega];exact gZ⟩,by simp only;omega,by kernel_rfl,by kernel_rfl⟩
   ·have hm3:(m+1).toNat=0:=by omega
    rw [hm3,bkL] at gZ
    rw [← gZ]
    refine zAh<|zAd 2<|zAa<|zBv (m≥0) (by omega)<|zAS 3<|zAh<|zAg<|S_a [(1,.v (PV.bor 14 [(0,0)] 1 0 out.length))] (ap ((by simp):PV.bor 14 [(0,0)] 1 0 (List.map I out).length=PV.bor 14 [(0,0)] 1 0 out.length) an)<|S_a [(2,.yes)] (ap ((by exact zBL (by simp<;>omega)):(Nat.beq 0 0&&out.length.beq (List.map I out).length)=true) an)<|zAc 1<|zAa<|zAn<|E_a [(1,.yes),(1,.v (PV.own 1 (List.map I out)))] (ap (blz (List.map I out))<|ap ((zA6 zBt):PV.own 1 (List.take (List.map I out).length (List.drop 0 (List.map I out)))=PV.own 1 (List.map I out)) an) (PV.tup [PV.own 1 (List.map I out),I 0]) [] rfl rfl
end Go.Eng
namespace Go.Eng
open Go Go.Proofs
end Go.Eng
namespace Go.Eng
open Go Go.Proofs
def zOM (n:Nw):Int:=if zCJ n.h n.l=0 then if zDR n.n=0 then if (!n.s.all fun x=>zKv n.h x)=true then 1 else if (!n.s.all fun x=>zDW x)=true then 4 else 0 else zDR n.n else zCJ n.h n.l
theorem zUN {n:Nw} (h1:(!inB n.h 1 10)=false) (h2:¬ (n.l.length:Int)>15) (h3:(!inB n.n.length 1 8)=false) (h4:(!inB n.s.length 1 6)=false):zGE n=zOM n:=by
 simp only [zGE,h1,h2,h3,h4,if_false];rfl
theorem zW6 {n:Nw} (h:∀ i,i<n.n.length→inB (n.n.getD i default).1 (-1) ((i:Int)-1)=true):zRY n.n=true:=by
 simp only [zRY,List.all_eq_true,List.mem_range];exact h
theorem zWs {l:List (Int×Bool)} {i:Nat} (hi:i<l.length) (hr:inB (l.getD i default).1 (-1) ((i:Int)-1)=true):zLL l i=true↔∃ k,k<i∧0≤(l.getD i default).1∧(l.getD i default).1=(l.getD k default).1:=by
 have hr:=zEx hr
 simp only [zLL,Bool.and_eq_true,decide_eq_true_eq,List.any_eq_true]
 constructor
 ·rintro ⟨h1,x,h2,h3⟩
  obtain ⟨k,hk,rfl⟩:=List.getElem_of_mem h2
  rw [List.length_take] at hk
  refine ⟨k,by omega,by omega,?_⟩
  rw [zAH (l:=l) (i:=k) (by omega)]
  rw [List.getElem_take] at h3
  exact h3.symm
 ·rintro ⟨k,h1,h2,h3⟩
  refine ⟨by omega, (l.take i)[k]'(by rw [List.length_take]; omega), List.getElem_mem _, ?_⟩
  rw [List.getElem_take,h3,zAH (l:=l) (i:=k) (by omega)]
theorem zVS {n:Nw} (hn:zRY n.n=true) (h:∀ i,i<n.n.length→∀ k,k<i→¬ ((n.n.getD i default).1≥0∧(n.n.getD i default).1=(n.n.getD k default).1)):zDR n.n=0:=by
 have:(List.range n.n.length).any (zLL n.n)=false:=by
  simp only [List.any_eq_false,List.mem_range]
  intro i hi ht
  have hr:inB (n.n.getD i default).1 (-1) ((i:Int)-1)=true:=by
   simp only [zRY,List.all_eq_true,List.mem_range] at hn;exact hn i hi
  obtain ⟨k,h1,h2,h3⟩:=(zWs hi hr).1 ht
  exact h i hi k h1 ⟨h2,h3⟩
 simp only [zDR,hn,this,if_true];rfl
theorem zWz {n:Nw} (hl:zCJ n.h n.l=0) (hn:zDR n.n=0) (hs:(n.s.all fun x=>zKv n.h x)=true) (ho:(n.s.all fun x=>zDW x)=true):zOM n=0:=by
 simp only [zOM,hl,hn,hs,ho];rfl
end Go.Eng
namespace Go.Eng
open Go Go.Proofs
structure LkOk (q:List (Int×Int)) (h:Int):Prop where
 rng:∀ x∈q,1≤x.1∧x.1<h∧0≤x.2∧x.2<x.1
 nd:(q.map pr2).Nodup
 len:(q.length:Int)<h
theorem zTQ {x:Int×Int} (h:x.2<x.1):pr2 x=(x.2,x.1):=by
 simp only [pr2];rw [if_pos h,if_neg (by omega)]
theorem LkOk.snoc {q:List (Int×Int)} {h s:Int} (hq:LkOk q h) (hh:1≤h) (hs:0≤s∧s<h):LkOk (q++[(h,s)]) (h+1):=by
 refine ⟨fun x hx=>?_,?_,by have:=hq.len;simp;omega⟩
 ·rcases List.mem_append.1 hx with hx | hx
  ·have:=hq.rng x hx;omega
  ·rw [List.mem_singleton] at hx;subst hx;simp only;omega
 ·rw [List.map_append,List.nodup_append]
  refine ⟨hq.nd,by simp,fun a ha b hb=>?_⟩
  obtain ⟨x,hx,rfl⟩:=List.mem_map.1 ha
  simp only [List.map_cons,List.map_nil,List.mem_singleton] at hb
  subst hb
  have:=hq.rng x hx
  rw [zTQ (by omega),zTQ (x:=(h,s)) (by simp only;omega)]
  intro e
  have:=congrArg Prod.snd e
  simp only at this;omega
theorem LkOk.skip {q:List (Int×Int)} {h:Int} (hq:LkOk q h):LkOk q (h+1):=⟨fun x hx=>by have:=hq.rng x hx;omega,hq.nd,by have:=hq.len;omega⟩
structure LkEnd (q:List (Int×Int)) (H:Int):Prop where
 rng:∀ x∈q,(0≤x.1∧x.1<H)∧(0≤x.2∧x.2<H)∧x.1≠x.2
 nd:(q.map pr2).Nodup
 len:(q.length:Int)≤H
theorem LkOk.fin {q:List (Int×Int)} {H:Int} (hq:LkOk q H):LkEnd q H:=⟨fun x hx=>by have:=hq.rng x hx;omega,hq.nd,by have:=hq.len;omega⟩
theorem LkOk.far {n:Nw} (hq:LkOk n.l n.h) (hh:1<n.h) (hn:zGc n 0 (n.h-1)=false):LkEnd (n.l++[(0,n.h-1)]) n.h:=by
 refine ⟨fun x hx=>?_,?_,by have:=hq.len;simp;omega⟩
 ·rcases List.mem_append.1 hx with hx | hx
  ·have:=hq.rng x hx;omega
  ·rw [List.mem_singleton] at hx;subst hx;simp only;omega
 ·rw [List.map_append,List.nodup_append]
  refine ⟨hq.nd,by simp,fun a ha b hb=>?_⟩
  simp only [List.map_cons,List.map_nil,List.mem_singleton] at hb
  subst hb
  intro e;subst e
  simp only [zGc,decide_eq_false_iff_not] at hn
  exact hn ha
structure NtOk (F:List Int) (N:List (Int×Bool)) (i:Nat):Prop where
 len:N.length=i
 fl:F.length≤i
 fr:∀ f∈F,0≤f∧f<i
 fnd:F.Nodup
 na:∀ j,j<i→-1≤(N.getD j default).1∧(N.getD j default).1<j
 nd:∀ j k,k<j→j<i→(N.getD j default).1≠-1→(N.getD k default).1≠(N.getD j default).1
 un:∀ f∈F,∀ j,j<i→(N.getD j default).1≠f
theorem zQY {N:List (Int×Bool)} {x:Int×Bool} {i j:Nat} (hl:N.length=i) (hj:j<i+1):(N++[x]).getD j default=if j=i then x else N.getD j default:=by
 split
 ·rename_i h;subst h;subst hl
  simp [List.getD_eq_getElem?_getD]
 ·rw [List.getD_eq_getElem?_getD,List.getElem?_append_left (by omega),← List.getD_eq_getElem?_getD]
theorem NtOk.step {F G:List Int} {N:List (Int×Bool)} {i:Nat} {y:Int} {b:Bool} (h:NtOk F N i) (hG:∀ f∈G,f∈F) (hGn:G.Nodup) (hGl:G.length≤i) (hy:y = -1∨y∈F∧y∉G):NtOk (G++[(i:Int)]) (N++[(y,b)]) (i+1):=by
 have hyr : -1≤y∧y<i:=by
  rcases hy with rfl | ⟨h1,_⟩
  ·omega
  ·have:=h.fr y h1;omega
 have hg:=fun j (hj:j<i+1)=>zQY (x:=(y,b)) h.len hj
 refine ⟨by simp [h.len],by simp;omega,fun f hf=>?_,?_,fun j hj=>?_,fun j k LD hj hI=>?_,fun f hf j hj=>?_⟩
 ·rcases List.mem_append.1 hf with hf | hf
  ·have:=h.fr f (hG f hf);omega
  ·rw [List.mem_singleton] at hf;omega
 ·rw [List.nodup_append]
  refine ⟨hGn,by simp,fun a ha c hc=>?_⟩
  rw [List.mem_singleton] at hc;subst hc
  have:=h.fr a (hG a ha);omega
 ·rw [hg j hj]
  split
  ·simp only;omega
  ·exact h.na j (by omega)
 ·rw [hg j hj] at hI ⊢
  rw [hg k (by omega),if_neg (by omega)]
  split
  ·rename_i e;rw [if_pos e] at hI;simp only at hI ⊢
   rcases hy with e2 | ⟨h1,_⟩
   ·exact absurd e2 hI
   ·exact h.un y h1 k (by omega)
  ·rename_i e;rw [if_neg e] at hI
   exact h.nd j k LD (by omega) hI
 ·rw [hg j hj]
  split
  ·simp only
   rcases List.mem_append.1 hf with hf | hf
   ·rcases hy with e2 | ⟨_,h2⟩
    ·have:=h.fr f (hG f hf);omega
    ·exact fun e=>h2 (e▸hf)
   ·rw [List.mem_singleton] at hf;omega
  ·rcases List.mem_append.1 hf with hf | hf
   ·exact h.un f (hG f hf) j (by omega)
   ·rw [List.mem_singleton] at hf
    have:=h.na j (by omega);omega
theorem NtOk.one {F:List Int} {N:List (Int×Bool)} {i:Nat} {b:Bool} (h:NtOk F N i):NtOk (F++[(i:Int)]) (N++[(-1,b)]) (i+1):=h.step (fun _ h=>h) h.fnd h.fl (.inl rfl)
theorem NtOk.more {F:List Int} {N:List (Int×Bool)} {i k:Nat} {b:Bool} (h:NtOk F N i) (hk:k<F.length):NtOk (F.eraseIdx k++[(i:Int)]) (N++[(F.getD k 0,b)]) (i+1):=by
 refine h.step (fun f hf=>List.mem_of_mem_eraseIdx hf) (h.fnd.eraseIdx k) (Nat.le_trans (List.length_eraseIdx_le _ _) h.fl) (.inr ⟨?_,?_⟩)
 ·rw [zAH hk];exact List.getElem_mem hk
 ·rw [zAH hk]
  intro hm
  have hn:(F.take k++F[k]::F.drop (k+1)).Nodup:=by rw [← List.drop_eq_getElem_cons hk,List.take_append_drop];exact h.fnd
  rw [List.nodup_append] at hn
  rw [List.eraseIdx_eq_take_drop_succ] at hm
  rcases List.mem_append.1 hm with hm | hm
  ·exact hn.2.2 _ hm _ List.mem_cons_self rfl
  ·exact (List.nodup_cons.1 hn.2.1).1 hm
structure RwOk (r:List Int) (h:Nat):Prop where
 rng:∀ x∈r,0≤x∧x<h
 inc:zQp r=true
 len:r.length≤h
theorem zP8 {p:List Int} {c:Int} (h:zQp p=true) (hc:∀ y∈p,y<c):zQp (p++[c])=true:=by
 simp only [zQp,List.all_eq_true,List.mem_range,decide_eq_true_eq,List.length_append,List.length_singleton] at h ⊢
 intro j hj
 rw [List.getD_eq_getElem?_getD,List.getD_eq_getElem?_getD,List.getElem?_append_left (by omega)]
 by_cases e:j+1<p.length
 ·rw [List.getElem?_append_left e,← List.getD_eq_getElem?_getD,← List.getD_eq_getElem?_getD]
  exact h j (by omega)
 ·rw [List.getElem?_append_right (by omega),show j+1-p.length=0 by omega]
  have jL:j<p.length:=by omega
  rw [List.getElem?_eq_getElem jL]
  exact hc _ (List.getElem_mem jL)
theorem RwOk.snoc {r:List Int} {h:Nat} (hr:RwOk r h):RwOk (r++[(h:Int)]) (h+1):=by
 refine ⟨fun x hx=>?_,zP8 hr.inc fun y hy=>(hr.rng y hy).2,by have:=hr.len;simp;omega⟩
 rcases List.mem_append.1 hx with hx | hx
 ·have:=hr.rng x hx;omega
 ·rw [List.mem_singleton] at hx;omega
theorem RwOk.skip {r:List Int} {h:Nat} (hr:RwOk r h):RwOk r (h+1):=⟨fun x hx=>by have:=hr.rng x hx;omega,hr.inc,by have:=hr.len;omega⟩
theorem zVl {H:Int} {q:List (Int×Int)} {F:List Int} {N:List (Int×Bool)} {S:List (List Int)} {m:Nat} (hH:1≤H∧H≤10) (hq:LkEnd q H) (hN:NtOk F N m) (hm:1≤m∧m≤8) (hS:∀ r∈S,RwOk r H.toNat) (LB:1≤S.length∧S.length≤6):zGE ⟨H,q,N,S⟩=0:=by
 have hml:=hN.len
 have e:zGE ⟨H,q,N,S⟩=zOM ⟨H,q,N,S⟩:=by
  refine zUN ?_ ?_ ?_ ?_
  ·simp only [inB,Bool.not_eq_false',Bool.and_eq_true,decide_eq_true_eq];omega
  ·have:=hq.len;simp only;omega
  ·simp only [inB,Bool.not_eq_false',Bool.and_eq_true,decide_eq_true_eq];omega
  ·simp only [inB,Bool.not_eq_false',Bool.and_eq_true,decide_eq_true_eq];omega
 rw [e]
 refine zWz ?_ ?_ ?_ ?_
 ·have h1:(q.all fun x=>zJo H x)=true:=List.all_eq_true.2 fun x hx=>by
   have:=hq.rng x hx
   simp only [zJo,inB,Bool.and_eq_true,decide_eq_true_eq];omega
  have h2:(q.all fun x=>zJQ x)=true:=List.all_eq_true.2 fun x hx=>by
   have:=hq.rng x hx
   simp only [zJQ,decide_eq_true_eq];exact this.2.2
  have h3:=hq.nd
  simp only [zCJ,h1,h2,h3,if_true]
 ·refine zVS (n:=⟨H,q,N,S⟩) (zW6 (n:=⟨H,q,N,S⟩) fun i hi=>?_) fun i hi k hk=>?_
  ·have:=hN.na i (by simp only at hi;omega)
   simp only [inB,Bool.and_eq_true,decide_eq_true_eq];omega
  ·rintro ⟨h1,h2⟩
   exact hN.nd i k hk (by simp only at hi;omega) (by simp only at h1;omega) h2.symm
 ·exact List.all_eq_true.2 fun r hr=>List.all_eq_true.2 fun x hx=>by
   have:=(hS r hr).rng x hx
   simp only [inB,Bool.and_eq_true,decide_eq_true_eq];omega
 ·exact List.all_eq_true.2 fun r hr=>by rw [zJ7];exact (hS r hr).inc
end Go.Eng
set_option maxRecDepth 10000
set_option maxHeartbeats 4000000
namespace Go.Eng
open Go Go.Proofs
section
variable [Yo]
theorem f81 (x:Int×Int) (a b:Int):FG 81 [prV x,.ref (I a),.ref (I b)] (.bool (zM0 a b x)):=by
 refine zAf Try.f81 ?_
 refine zAd 2<|zAa<|zAd 4<|S_a [(0,.v (PV.bool (decide (x.fst=a)&&decide (x.snd=b))))] (ap (zRI:zGI Try.prog BinOp.eql 79 (PV.agg [I x.fst,I x.snd]) (PV.agg [I a,I b])=some (PV.bool (decide (x.fst=a)&&decide (x.snd=b)))) an)<|zAc 1<|zGl 10 (decide (x.fst=a)&&decide (x.snd=b)) (fun k0=>(zAc 7<|zAa<|zAn<|E_a [] an (PV.bool true) [] ?_ rfl)) (fun k0=>(zAc 4<|S_a [(0,.v (PV.bool (decide (x.fst=b)&&decide (x.snd=a))))] (ap (zRI:zGI Try.prog BinOp.eql 79 (PV.agg [I x.fst,I x.snd]) (PV.agg [I b,I a])=some (PV.bool (decide (x.fst=b)&&decide (x.snd=a)))) an)<|zAc 2<|zAa<|zAn<|E_a [] an (PV.bool (decide (x.fst=b)&&decide (x.snd=a))) [] ?_ rfl))
 ·have e:zM0 a b x=true:=by
   simp only [Bool.and_eq_true,decide_eq_true_eq] at k0
   simp only [zM0,decide_eq_true_eq];exact .inl k0
  rw [e]
 ·congr 1
  rw [Bool.eq_iff_iff]
  have:¬ (x.1=a∧x.2=b):=fun h=>by simp [h.1,h.2] at k0
  simp only [Bool.and_eq_true,decide_eq_true_eq,zM0]
  exact ⟨.inr,fun h=>h.elim (fun h=>absurd h this) id⟩
theorem f109_5 (a b:Int) (l:List (Int×Int)) (hl:l.length<4294967296):FG 109 [.sl (l.map prV),.func 81 [] [.ref (I a),.ref (I b)]] (I (zEg (fun x=>zM0 a b x) l)):=by
 refine zAf Try.f109 ?_
 refine zAd 1<|zAa<|zAh<|zAd 1<|S_a [(0,.n l.length)] (ap (lnS prV l) an)<|zAc 1<|zAa<|zAk 0 ?_
 refine zAD (fun i=>i≤l.length∧∀ j,j<i→(fun x=>zM0 a b x) (l.getD j default)=false) (fun i=>[(8,I (i:Nat))]) (fun i=>l.length-i) (0:Nat) (by simp) fun i ⟨hi,ha⟩=>?_
 refine zAd 1<|zAa<|zAh<|zDo ((↑i:Int)<(↑l.length:Int)) (fun k0=>(zAl<|zAh<|zAk 1<|zAd 2<|zAa<|zAd 3<|S_a [(2,.v (PV.agg [I (l.getD i default).fst,I (l.getD i default).snd]))] (ap (zDn default (by omega):(List.map prV l)[i]? = some (PV.agg [I (l.getD i default).fst,I (l.getD i default).snd])) an)<|zAc 1<|S_a [(8,.ret (PV.bool (zM0 a b (l.getD i default))) [])] (ap (f81 (l.getD i default) a b) an)<|zAa<|zFh (zM0 a b (l.getD i default)) (fun k1=>(zAd 2<|zAa<|zAn<|E_a [] an (I (↑i:Int)) [] ?_ rfl)) (fun k1=>(zAl<|zAg<|S_a [(1,.v (I (↑(i+1):Int)))] (ap (wrN i) an)<|zAc 1<|zAa ?_)))) (fun k0=>(zAS 0<|zAd 1<|zAa<|zAn<|E_a [] an (I (-1)) [] ?_ rfl))
 ·rw [zBS (i:=i) (by omega) (fun j hj=>by rw [← zAH (d:=default)];exact ha j hj) (by rw [← zAH (d:=default)];first | assumption | exact decide_eq_true ‹_› | (simp only [Bool.not_eq_true',decide_eq_false_iff_not];assumption))]
 ·refine ⟨i+1,⟨by omega,fun j hj=>?_⟩,by omega,by kernel_rfl,by kernel_rfl⟩
  rcases Nat.lt_succ_iff_lt_or_eq.1 hj with h | rfl
  ·exact ha j h
  ·first | assumption | exact decide_eq_false ‹_› | (simp only [Bool.not_eq_false',decide_eq_true_eq];first | assumption | (apply Decidable.of_not_not;assumption))
 ·rw [zCc fun j hj=>by rw [← zAH (d:=default)];exact ha j (by omega)]
theorem f80_5 (a b:Int) (l:List (Int×Int)) (hl:l.length<4294967296):FG 80 [.sl (l.map prV),.func 81 [] [.ref (I a),.ref (I b)]] (.bool (l.any (fun x=>zM0 a b x))):=by
 refine zAf Try.f80 ?_
 refine zAd 1<|zAa<|zAd 2<|S_a [(7,.ret (I (zEg (fun x=>zM0 a b x) l)) [])] (ap (f109_5 a b l (by omega)) an)<|zAc 2<|zAa<|zAn<|E_a [] an (PV.bool (decide (zEg (fun x=>zM0 a b x) l≥0))) [] ?_ rfl
 rw [zDP]
theorem f39 (n:Nw) (a b:Int) (hl:n.l.length<1000000):FG 39 [nwV n,I a,I b] (.bool (zGc n a b)):=by
 rw [← zU2]
 refine zAf Try.f39 ?_
 refine zAd 4<|zAa<|zAd 3<|S_a [(19,.ret (PV.bool (n.l.any fun x=>zM0 a b x)) [])] (ap (f80_5 a b n.l (by omega)) an)<|zAc 1<|zAa<|zAn<|E_a [] an (PV.bool (n.l.any fun x=>zM0 a b x)) [] rfl rfl
theorem f40_10 (p0:Int):zBC Try.prog zBN 40 [.bor 50000000 [] 1 0 1,I 0,I 1] [.own 1 [I p0]] (.bor 50000000 [] 1 0 0) [.own 1 [I 0]]:=by
 refine zAf Try.f40 ?_
 refine zAd 1<|zAa<|zAd 6<|zAa<|zAh<|zAd 3<|zAa<|zAK<|zAl<|zAd 3<|zAa<|zAd 2<|zAc 1<|zAc 3<|zAc 1<|zAc 1<|zAa<|zAd 4<|zAc 1<|zAc 1<|zAa<|zAd 1<|zAc 1<|zAa<|zAn<|E_a [] an (PV.bor 50000000 [] 1 0 0) ([PV.own 1 [I 0]]) rfl rfl
theorem f40_20 (p0 p1:Int):zBC Try.prog zBN 40 [.bor 50000000 [] 1 0 2,I 0,I 1] [.own 1 [I p0,I p1]] (.bor 50000000 [] 1 0 1) [.own 1 [I p1,I 0]]:=by
 refine zAf Try.f40 ?_
 refine zAd 1<|zAa<|zAd 6<|zAa<|zAh<|zAd 3<|zAa<|zAK<|zAl<|zAd 3<|zAa<|zAd 2<|zAc 1<|zAc 2<|zAc 1<|zAc 1<|zAc 1<|zAa<|zAd 4<|zAc 1<|zAc 1<|zAa<|zAd 1<|zAc 1<|zAa<|zAn<|E_a [] an (PV.bor 50000000 [] 1 0 1) ([PV.own 1 [I p1,I 0]]) rfl rfl
theorem f40_21 (p0 p1:Int):zBC Try.prog zBN 40 [.bor 50000000 [] 1 0 2,I 1,I 2] [.own 1 [I p0,I p1]] (.bor 50000000 [] 1 0 1) [.own 1 [I p0,I 0]]:=by
 refine zAf Try.f40 ?_
 refine zAd 1<|zAa<|zAd 6<|zAa<|zAh<|zAd 3<|zAa<|zAK<|zAl<|zAd 3<|zAa<|zAd 2<|zAc 1<|zAc 3<|zAc 1<|zAc 1<|zAa<|zAd 4<|zAc 1<|zAc 1<|zAa<|zAd 1<|zAc 1<|zAa<|zAn<|E_a [] an (PV.bor 50000000 [] 1 0 1) ([PV.own 1 [I p0,I 0]]) rfl rfl
theorem f40_30 (p0 p1 p2:Int):zBC Try.prog zBN 40 [.bor 50000000 [] 1 0 3,I 0,I 1] [.own 1 [I p0,I p1,I p2]] (.bor 50000000 [] 1 0 2) [.own 1 [I p1,I p2,I 0]]:=by
 refine zAf Try.f40 ?_
 refine zAd 1<|zAa<|zAd 6<|zAa<|zAh<|zAd 3<|zAa<|zAK<|zAl<|zAd 3<|zAa<|zAd 2<|zAc 1<|zAc 2<|zAc 1<|zAc 1<|zAc 1<|zAa<|zAd 4<|zAc 1<|zAc 1<|zAa<|zAd 1<|zAc 1<|zAa<|zAn<|E_a [] an (PV.bor 50000000 [] 1 0 2) ([PV.own 1 [I p1,I p2,I 0]]) rfl rfl
theorem f40_31 (p0 p1 p2:Int):zBC Try.prog zBN 40 [.bor 50000000 [] 1 0 3,I 1,I 2] [.own 1 [I p0,I p1,I p2]] (.bor 50000000 [] 1 0 2) [.own 1 [I p0,I p2,I 0]]:=by
 refine zAf Try.f40 ?_
 refine zAd 1<|zAa<|zAd 6<|zAa<|zAh<|zAd 3<|zAa<|zAK<|zAl<|zAd 3<|zAa<|zAd 2<|zAc 1<|zAc 2<|zAc 1<|zAc 1<|zAc 1<|zAa<|zAd 4<|zAc 1<|zAc 1<|zAa<|zAd 1<|zAc 1<|zAa<|zAn<|E_a [] an (PV.bor 50000000 [] 1 0 2) ([PV.own 1 [I p0,I p2,I 0]]) rfl rfl
theorem f40_32 (p0 p1 p2:Int):zBC Try.prog zBN 40 [.bor 50000000 [] 1 0 3,I 2,I 3] [.own 1 [I p0,I p1,I p2]] (.bor 50000000 [] 1 0 2) [.own 1 [I p0,I p1,I 0]]:=by
 refine zAf Try.f40 ?_
 refine zAd 1<|zAa<|zAd 6<|zAa<|zAh<|zAd 3<|zAa<|zAK<|zAl<|zAd 3<|zAa<|zAd 2<|zAc 1<|zAc 3<|zAc 1<|zAc 1<|zAa<|zAd 4<|zAc 1<|zAc 1<|zAa<|zAd 1<|zAc 1<|zAa<|zAn<|E_a [] an (PV.bor 50000000 [] 1 0 2) ([PV.own 1 [I p0,I p1,I 0]]) rfl rfl
theorem f40_40 (p0 p1 p2 p3:Int):zBC Try.prog zBN 40 [.bor 50000000 [] 1 0 4,I 0,I 1] [.own 1 [I p0,I p1,I p2,I p3]] (.bor 50000000 [] 1 0 3) [.own 1 [I p1,I p2,I p3,I 0]]:=by
 refine zAf Try.f40 ?_
 refine zAd 1<|zAa<|zAd 6<|zAa<|zAh<|zAd 3<|zAa<|zAK<|zAl<|zAd 3<|zAa<|zAd 2<|zAc 1<|zAc 2<|zAc 1<|zAc 1<|zAc 1<|zAa<|zAd 4<|zAc 1<|zAc 1<|zAa<|zAd 1<|zAc 1<|zAa<|zAn<|E_a [] an (PV.bor 50000000 [] 1 0 3) ([PV.own 1 [I p1,I p2,I p3,I 0]]) rfl rfl
theorem f40_41 (p0 p1 p2 p3:Int):zBC Try.prog zBN 40 [.bor 50000000 [] 1 0 4,I 1,I 2] [.own 1 [I p0,I p1,I p2,I p3]] (.bor 50000000 [] 1 0 3) [.own 1 [I p0,I p2,I p3,I 0]]:=by
 refine zAf Try.f40 ?_
 refine zAd 1<|zAa<|zAd 6<|zAa<|zAh<|zAd 3<|zAa<|zAK<|zAl<|zAd 3<|zAa<|zAd 2<|zAc 1<|zAc 2<|zAc 1<|zAc 1<|zAc 1<|zAa<|zAd 4<|zAc 1<|zAc 1<|zAa<|zAd 1<|zAc 1<|zAa<|zAn<|E_a [] an (PV.bor 50000000 [] 1 0 3) ([PV.own 1 [I p0,I p2,I p3,I 0]]) rfl rfl
theorem f40_42 (p0 p1 p2 p3:Int):zBC Try.prog zBN 40 [.bor 50000000 [] 1 0 4,I 2,I 3] [.own 1 [I p0,I p1,I p2,I p3]] (.bor 50000000 [] 1 0 3) [.own 1 [I p0,I p1,I p3,I 0]]:=by
 refine zAf Try.f40 ?_
 refine zAd 1<|zAa<|zAd 6<|zAa<|zAh<|zAd 3<|zAa<|zAK<|zAl<|zAd 3<|zAa<|zAd 2<|zAc 1<|zAc 2<|zAc 1<|zAc 1<|zAc 1<|zAa<|zAd 4<|zAc 1<|zAc 1<|zAa<|zAd 1<|zAc 1<|zAa<|zAn<|E_a [] an (PV.bor 50000000 [] 1 0 3) ([PV.own 1 [I p0,I p1,I p3,I 0]]) rfl rfl
theorem f40_43 (p0 p1 p2 p3:Int):zBC Try.prog zBN 40 [.bor 50000000 [] 1 0 4,I 3,I 4] [.own 1 [I p0,I p1,I p2,I p3]] (.bor 50000000 [] 1 0 3) [.own 1 [I p0,I p1,I p2,I 0]]:=by
 refine zAf Try.f40 ?_
 refine zAd 1<|zAa<|zAd 6<|zAa<|zAh<|zAd 3<|zAa<|zAK<|zAl<|zAd 3<|zAa<|zAd 2<|zAc 1<|zAc 3<|zAc 1<|zAc 1<|zAa<|zAd 4<|zAc 1<|zAc 1<|zAa<|zAd 1<|zAc 1<|zAa<|zAn<|E_a [] an (PV.bor 50000000 [] 1 0 3) ([PV.own 1 [I p0,I p1,I p2,I 0]]) rfl rfl
theorem f40_50 (p0 p1 p2 p3 p4:Int):zBC Try.prog zBN 40 [.bor 50000000 [] 1 0 5,I 0,I 1] [.own 1 [I p0,I p1,I p2,I p3,I p4]] (.bor 50000000 [] 1 0 4) [.own 1 [I p1,I p2,I p3,I p4,I 0]]:=by
 refine zAf Try.f40 ?_
 refine zAd 1<|zAa<|zAd 6<|zAa<|zAh<|zAd 3<|zAa<|zAK<|zAl<|zAd 3<|zAa<|zAd 2<|zAc 1<|zAc 2<|zAc 1<|zAc 1<|zAc 1<|zAa<|zAd 4<|zAc 1<|zAc 1<|zAa<|zAd 1<|zAc 1<|zAa<|zAn<|E_a [] an (PV.bor 50000000 [] 1 0 4) ([PV.own 1 [I p1,I p2,I p3,I p4,I 0]]) rfl rfl
theorem f40_51 (p0 p1 p2 p3 p4:Int):zBC Try.prog zBN 40 [.bor 50000000 [] 1 0 5,I 1,I 2] [.own 1 [I p0,I p1,I p2,I p3,I p4]] (.bor 50000000 [] 1 0 4) [.own 1 [I p0,I p2,I p3,I p4,I 0]]:=by
 refine zAf Try.f40 ?_
 refine zAd 1<|zAa<|zAd 6<|zAa<|zAh<|zAd 3<|zAa<|zAK<|zAl<|zAd 3<|zAa<|zAd 2<|zAc 1<|zAc 2<|zAc 1<|zAc 1<|zAc 1<|zAa<|zAd 4<|zAc 1<|zAc 1<|zAa<|zAd 1<|zAc 1<|zAa<|zAn<|E_a [] an (PV.bor 50000000 [] 1 0 4) ([PV.own 1 [I p0,I p2,I p3,I p4,I 0]]) rfl rfl
theorem f40_52 (p0 p1 p2 p3 p4:Int):zBC Try.prog zBN 40 [.bor 50000000 [] 1 0 5,I 2,I 3] [.own 1 [I p0,I p1,I p2,I p3,I p4]] (.bor 50000000 [] 1 0 4) [.own 1 [I p0,I p1,I p3,I p4,I 0]]:=by
 refine zAf Try.f40 ?_
 refine zAd 1<|zAa<|zAd 6<|zAa<|zAh<|zAd 3<|zAa<|zAK<|zAl<|zAd 3<|zAa<|zAd 2<|zAc 1<|zAc 2<|zAc 1<|zAc 1<|zAc 1<|zAa<|zAd 4<|zAc 1<|zAc 1<|zAa<|zAd 1<|zAc 1<|zAa<|zAn<|E_a [] an (PV.bor 50000000 [] 1 0 4) ([PV.own 1 [I p0,I p1,I p3,I p4,I 0]]) rfl rfl
theorem f40_53 (p0 p1 p2 p3 p4:Int):zBC Try.prog zBN 40 [.bor 50000000 [] 1 0 5,I 3,I 4] [.own 1 [I p0,I p1,I p2,I p3,I p4]] (.bor 50000000 [] 1 0 4) [.own 1 [I p0,I p1,I p2,I p4,I 0]]:=by
 refine zAf Try.f40 ?_
 refine zAd 1<|zAa<|zAd 6<|zAa<|zAh<|zAd 3<|zAa<|zAK<|zAl<|zAd 3<|zAa<|zAd 2<|zAc 1<|zAc 2<|zAc 1<|zAc 1<|zAc 1<|zAa<|zAd 4<|zAc 1<|zAc 1<|zAa<|zAd 1<|zAc 1<|zAa<|zAn<|E_a [] an (PV.bor 50000000 [] 1 0 4) ([PV.own 1 [I p0,I p1,I p2,I p4,I 0]]) rfl rfl
theorem f40_54 (p0 p1 p2 p3 p4:Int):zBC Try.prog zBN 40 [.bor 50000000 [] 1 0 5,I 4,I 5] [.own 1 [I p0,I p1,I p2,I p3,I p4]] (.bor 50000000 [] 1 0 4) [.own 1 [I p0,I p1,I p2,I p3,I 0]]:=by
 refine zAf Try.f40 ?_
 refine zAd 1<|zAa<|zAd 6<|zAa<|zAh<|zAd 3<|zAa<|zAK<|zAl<|zAd 3<|zAa<|zAd 2<|zAc 1<|zAc 3<|zAc 1<|zAc 1<|zAa<|zAd 4<|zAc 1<|zAc 1<|zAa<|zAd 1<|zAc 1<|zAa<|zAn<|E_a [] an (PV.bor 50000000 [] 1 0 4) ([PV.own 1 [I p0,I p1,I p2,I p3,I 0]]) rfl rfl
theorem f40g (l:List Int) (i:Nat) (h:i<l.length) (hl:l.length≤5):zBC Try.prog zBN 40 [.bor 50000000 [] 1 0 l.length,I (i:Nat),I ((i:Nat)+1:Int)] [.own 1 (l.map I)] (.bor 50000000 [] 1 0 (l.length-1)) [.own 1 ((l.eraseIdx i++[0]).map I)]:=by
 rcases l with _ | ⟨p0,_ | ⟨p1,_ | ⟨p2,_ | ⟨p3,_ | ⟨p4,_ | ⟨p5,l⟩⟩⟩⟩⟩⟩
 ·exact absurd h (Nat.not_lt_zero _)
 ·obtain rfl:i=0:=by simp at h;omega
  ·exact f40_10 p0
 ·obtain rfl | rfl:i=0∨i=1:=by simp at h;omega
  ·exact f40_20 p0 p1
  ·exact f40_21 p0 p1
 ·obtain rfl | rfl | rfl:i=0∨i=1∨i=2:=by simp at h;omega
  ·exact f40_30 p0 p1 p2
  ·exact f40_31 p0 p1 p2
  ·exact f40_32 p0 p1 p2
 ·obtain rfl | rfl | rfl | rfl:i=0∨i=1∨i=2∨i=3:=by simp at h;omega
  ·exact f40_40 p0 p1 p2 p3
  ·exact f40_41 p0 p1 p2 p3
  ·exact f40_42 p0 p1 p2 p3
  ·exact f40_43 p0 p1 p2 p3
 ·obtain rfl | rfl | rfl | rfl | rfl:i=0∨i=1∨i=2∨i=3∨i=4:=by simp at h;omega
  ·exact f40_50 p0 p1 p2 p3 p4
  ·exact f40_51 p0 p1 p2 p3 p4
  ·exact f40_52 p0 p1 p2 p3 p4
  ·exact f40_53 p0 p1 p2 p3 p4
  ·exact f40_54 p0 p1 p2 p3 p4
 ·simp at hl
end
end Go.Eng
set_option maxRecDepth 10000
set_option maxHeartbeats 4000000
namespace Go.Eng
open Go Go.Proofs
section
variable [Yo]
theorem f6_ex (l:List Int) (a:Nat) (t hs ns ss:Int) (h:zDU l a) (hh:2≤hs∧hs≤8) (hn:2≤ns∧ns≤6) (yM:1≤ss∧ss≤4):∃ v h',zBC Try.prog zBN 6 [zO5,I hs,I ns,I ss] [zB3 l a t] v h'∧∃ (n:Nw) (a':Nat) (t':Int),v=nwO n∧h'=[zB3 l a' t']∧zGE n=0∧n.h≤hs∧(n.n.length:Int)≤ns∧(n.s.length:Int)≤ss∧zDU l a':=by
 refine zLX Try.f6 _ ?_
 have g1:=zCv h
 have s1:=zCw l a t (hs-2)
 refine zAd 1<|zAa<|zAd 2<|S_a [(8,.ret (I (2+zAp l a t (hs-2))) ([zB3 l (zAB l a) (zAI l a t)]))] (ap (f36 l a t (2) hs (by omega) (by omega) (by omega)) an)<|zAc 3<|zAa<|zAh<|zAd 1<|zAa<|zAk 0 ?_
 have hH1:2≤2+zAp l a t (hs-2)∧2+zAp l a t (hs-2)≤hs:=by omega
 generalize 2+zAp l a t (hs-2)=H at *
 clear s1
 generalize zAI l a t=T0 at *
 generalize zAB l a=A0 at *
 refine zAD (fun (h,q,a,_)=>1≤h∧(h:Int)≤H∧LkOk q h∧zDU l a) (fun ((h:Nat),(q:List (Int×Int)),(a:Nat),(t:Int))=>[(9,.box (.agg [I H,.own 2 (q.map prV),.own 2 [],.own 1 []])),(10,I (h:Nat)),(50000000,zB3 l a t)]) (fun (h,_,_,_)=>H.toNat-h) ((1:Nat),([]:List (Int×Int)),A0,T0) ⟨Nat.le_refl _,by omega,⟨fun x hx=>absurd hx List.not_mem_nil,List.nodup_nil,by simp only [List.length_nil];omega⟩,g1⟩ fun (h,q,a,t) ⟨qo,hhH,hq,ha⟩=>?_
 have qf:=hq.len
 by_cases hhl:(h:Int)<H
 ·have g2:=zCv ha
  have g3:=zCv g2
  have s2:=zCw l (zAB l a) (zAI l a t) ((h-1:Nat):Int)
  have kT:=hq.skip
  have kR:LkOk (q++[((h:Int),zAp l (zAB l a) (zAI l a t) ((h-1:Nat):Int))]) ((h:Int)+1):=hq.snoc (by omega) (by omega)
  clear hq
  refine zAh<|zAd 4<|zAa<|zBj ((↑h:Int)<H) (by omega)<|zAl<|zAh<|zAk 1<|zAd 1<|S_a [(6,.ret (PV.bool (decide (zAp l a t (5-1)=0))) ([zB3 l (zAB l a) (zAI l a t)]))] (ap (f37 l a t (5) (by omega) (by omega)) an)<|zAc 1<|zAa<|zEc (zAp l a t (5-1)=0) (fun k0=>(zAg<|zAc 1<|S_a [(1,.v (PV.bor 9 [(0,1)] 2 0 q.length))] (ap ((by simp):PV.bor 9 [(0,1)] 2 0 (List.map prV q).length=PV.bor 9 [(0,1)] 2 0 q.length) an)<|zAc 3<|S_a [(1,.v (I (↑(h-1):Int)))] (ap ((zCo (by omega) (by omega)):I (IntKind.i64.wrap ((↑h:Int)-1))=I (↑(h-1):Int)) an)<|S_a [(6,.ret (I (zAp l (zAB l a) (zAI l a t) (↑(h-1):Int))) ([zB3 l (zAB l (zAB l a)) (zAI l (zAB l a) (zAI l a t))]))] (ap (f38 l (zAB l a) (zAI l a t) ((↑(h-1):Int)) (by omega) (by omega)) an)<|zAc 2<|S_a [(4,.ob),(0,.ob),(0,.yes),(2,.v (PV.own 2 (List.map prV (q++[((↑h:Int),zAp l (zAB l a) (zAI l a t) (↑(h-1):Int))]))))] (ap ((by exact zA8 (by simp only [List.length_map,zzLn,zAY]<;>omega)):(0+q.length).ble (List.map prV q).length=true)<|ap ((by exact zA8 (by simp only [List.length_map,zzLn,zAY]<;>omega)):((List.map prV q).length + [PV.agg [I (↑h:Int),I (zAp l (zAB l a) (zAI l a t) (↑(h-1):Int))]].length).ble zAY=true)<|ap ((by exact zBL (by simp<;>omega)):(0+q.length).beq (List.map prV q).length=true)<|ap ((zA6 (zBP (by kernel_rfl))):PV.own 2 (List.map prV q++[PV.agg [I (↑h:Int),I (zAp l (zAB l a) (zAI l a t) (↑(h-1):Int))]])=PV.own 2 (List.map prV (q++[((↑h:Int),zAp l (zAB l a) (zAI l a t) (↑(h-1):Int))]))) an)<|zAc 2<|zAa<|zAg<|zAc 1<|S_a [(1,.v (I (↑(h+1):Int)))] (ap (wrN h) an)<|zAc 1<|zAa ?_)) (fun k0=>(zAl<|zAg<|zAc 1<|S_a [(1,.v (I (↑(h+1):Int)))] (ap (wrN h) an)<|zAc 1<|zAa ?_))
  ·exact ⟨(h+1,q++[((h:Int),zAp l (zAB l a) (zAI l a t) ((h-1:Nat):Int))],zAB l (zAB l a),zAI l (zAB l a) (zAI l a t)),⟨by omega,by omega,kR,g3⟩,by simp only;omega,by kernel_rfl,by kernel_rfl⟩
  ·exact ⟨(h+1,q,zAB l a,zAI l a t),⟨by omega,by omega,kT,g2⟩,by simp only;omega,by kernel_rfl,by kernel_rfl⟩
 have wV:(h:Int)=H:=by omega
 rw [wV] at hq
 have g2:=zCv ha
 refine zAh<|zAd 4<|zAa ?_
 refine zBv ((h:Int)<H) (by omega)<|zAS 0 ?_
 refine zWJ (fun (q,a,_,_)=>LkEnd q H∧zDU l a) (fun ((q:List (Int×Int)),(a:Nat),(t:Int),(x:Bool))=>[(9,.box (.agg [I H,.own 2 (q.map prV),.own 2 [],.own 1 []])),(55,.bool x),(50000000,zB3 l a t)]) [] ?_ fun (q2,a2,t2,x2) ⟨kR,j8⟩=>?_
 ·have hnr:FG 39 [.agg [I H,.sl (q.map prV),.sl [],.sl []],I 0,I (H-1)] (.bool (zGc ⟨H,q,[],[]⟩ 0 (H-1))):=f39 ⟨H,q,[],[]⟩ 0 (H-1) (by simp only;omega)
  have yI:=hq.fin
  have hfar:=fun hb=>LkOk.far (n:=⟨H,q,[],[]⟩) hq (by simp only;omega) hb
  simp only at hfar
  clear hq
  refine zAd 4<|zLr 44 (H>3) (fun k0=>(zAc 1<|S_a [(6,.ret (PV.bool (decide (zAp l a t (2-1)=0))) ([zB3 l (zAB l a) (zAI l a t)]))] (ap (f37 l a t (2) (by omega) (by omega)) an)<|zAc 2<|zLr 48 (zAp l a t (2-1)=0) (fun k1=>(zAc 3<|S_a [(1,.v (I (H-1)))] (ap ((zCo rfl (by omega)):I (IntKind.i64.wrap (H-1))=I (H-1)) an)<|S_a [(6,.ob),(0,.v (prs q)),(12,.ret (PV.bool (zGc {h:=H,l:=q,n:=[],s:=[]} 0 (H-1))) [])] (ap (blz (List.map prV q))<|ap (frT prV q)<|ap hnr an)<|zAc 2<|zAa<|zFh (!zGc {h:=H,l:=q,n:=[],s:=[]} 0 (H-1)) (fun k2=>(zAg<|zAc 1<|S_a [(1,.v (PV.bor 9 [(0,1)] 2 0 q.length))] (ap ((by simp):PV.bor 9 [(0,1)] 2 0 (List.map prV q).length=PV.bor 9 [(0,1)] 2 0 q.length) an)<|zAc 2<|S_a [(1,.v (I (H-1)))] (ap ((zCo rfl (by omega)):I (IntKind.i64.wrap (H-1))=I (H-1)) an)<|zAc 2<|S_a [(4,.ob),(0,.ob),(0,.yes),(2,.v (PV.own 2 (List.map prV (q++[(0,H-1)]))))] (ap ((by exact zA8 (by simp only [List.length_map,zzLn,zAY]<;>omega)):(0+q.length).ble (List.map prV q).length=true)<|ap ((by exact zA8 (by simp only [List.length_map,zzLn,zAY]<;>omega)):((List.map prV q).length + [PV.agg [I 0,I (H-1)]].length).ble zAY=true)<|ap ((by exact zBL (by simp<;>omega)):(0+q.length).beq (List.map prV q).length=true)<|ap ((zA6 (zBP (by kernel_rfl))):PV.own 2 (List.map prV q++[PV.agg [I 0,I (H-1)]])=PV.own 2 (List.map prV (q++[(0,H-1)]))) an)<|zAc 2<|zAa ?_)) (fun k2=>(zAl ?_)))) (fun k1=>(zAc 7<|zAa<|zAK<|zAl ?_)))) (fun k0=>(zAc 11<|zAa<|zAK<|zAl ?_))
  ·exact ⟨(q++[(0,H-1)],zAB l a,zAI l a t,!zGc ⟨H,q,[],[]⟩ 0 (H-1)),⟨hfar (by simpa using k2),g2⟩,by kernel_rfl,by kernel_rfl⟩
  ·exact ⟨(q,zAB l a,zAI l a t,!zGc ⟨H,q,[],[]⟩ 0 (H-1)),⟨yI,g2⟩,by kernel_rfl,by kernel_rfl⟩
  ·exact ⟨(q,zAB l a,zAI l a t,false),⟨yI,g2⟩,by kernel_rfl,by kernel_rfl⟩
  ·exact ⟨(q,a,t,false),⟨yI,ha⟩,by kernel_rfl,by kernel_rfl⟩
 have h1:=kR.len
 have g3:=zCv j8
 have s1:=zCw l a2 t2 (ns-2)
 clear hq
 refine zAd 1<|zAa<|zAh<|zAd 2<|S_a [(8,.ret (I (2+zAp l a2 t2 (ns-2))) ([zB3 l (zAB l a2) (zAI l a2 t2)]))] (ap (f36 l a2 t2 (2) ns (by omega) (by omega) (by omega)) an)<|zAc 1<|zAa<|zAk 2 ?_
 have hm1:2≤2+zAp l a2 t2 (ns-2)∧2+zAp l a2 t2 (ns-2)≤ns:=by omega
 generalize 2+zAp l a2 t2 (ns-2)=m at *
 clear s1
 generalize zAI l a2 t2=T1 at *
 generalize zAB l a2=A1 at *
 refine zAD (fun (i,F,N,a,_)=>(i:Int)≤m∧NtOk F N i∧zDU l a) (fun ((i:Nat),(F:List Int),(N:List (Int×Bool)),(a:Nat),(t:Int))=>[(9,.box (.agg [I H,.own 2 (q2.map prV),.own 2 (N.map ntV),.own 1 []])),(11,.own 1 (F.map I)),(68,I (i:Nat)),(50000000,zB3 l a t)]) (fun (i,_,_,_,_)=>m.toNat-i) ((0:Nat),([]:List Int),([]:List (Int×Bool)),A1,T1) ⟨by omega,⟨rfl,Nat.le_refl _,fun f hf=>absurd hf List.not_mem_nil,List.nodup_nil,fun j hj=>absurd hj (Nat.not_lt_zero j),fun j k LD hj=>absurd hj (Nat.not_lt_zero j),fun f hf=>absurd hf List.not_mem_nil⟩,g3⟩ fun (i,F,N,a,t) ⟨him,hN,ha⟩=>?_
 have hNl:=hN.len
 have hFl:=hN.fl
 by_cases yW:(i:Int)<m
 ·have g4:=zCv ha
  have g5:=zCv g4
  have g6:=zCv g5
  have s2:=zCw l (zAB l a) (zAI l a t) ((F.length-1:Nat):Int)
  have yL:=fun b=>hN.one (b:=b)
  by_cases hF:0<F.length
  ·have hstk:=f38 l (zAB l a) (zAI l a t) ((F.length-1:Nat):Int) g4 (by omega)
   generalize zAp l (zAB l a) (zAI l a t) ((F.length-1:Nat):Int)=s at hstk s2
   obtain ⟨k,rfl⟩:∃ k:Nat,s=k:=⟨s.toNat,by omega⟩
   have hdel:=f40g F k (by omega) (by omega)
   have hmore:=fun b=>hN.more (b:=b) (k:=k) (by omega)
   have htk:(F.eraseIdx k++[0]).take (F.length-1)=F.eraseIdx k:=by
    rw [List.take_append_of_le_length (by rw [List.length_eraseIdx_of_lt (by omega)];exact Nat.le_refl _),List.take_of_length_le (by rw [List.length_eraseIdx_of_lt (by omega)];exact Nat.le_refl _)]
   have yy:(F.eraseIdx k).length=F.length-1:=List.length_eraseIdx_of_lt (by omega)
   have vX:∀ b,NtOk ((F.eraseIdx k++[0]).take (F.length-1)++[(i:Int)]) (N++[(F.getD k 0,b)]) (i+1):=fun b=>by rw [htk];exact hmore b
   clear hN
   refine zAd 1<|zAa<|zAh<|zBj ((↑i:Int)<m) (by omega)<|zAl<|zAh<|zAk 3<|zAd 2<|zAa<|zAd 1<|zAa<|zAh<|zAd 1<|S_a [(0,.n F.length)] (ap (lnS I F) an)<|zAc 2<|zWd 74 ((↑F.length:Int)>0) (by omega) (zAc 1<|S_a [(6,.ret (PV.bool (decide (zAp l a t (3-1)=0))) ([zB3 l (zAB l a) (zAI l a t)]))] (ap (f37 l a t (3) (by omega) (by omega)) an)<|zAc 2<|zAa<|zEc (zAp l a t (3-1)=0) (fun k1=>(zAd 2<|S_a [(0,.n F.length)] (ap (lnS I F) an)<|S_a [(1,.v (I (↑(F.length-1):Int)))] (ap ((zCo (by omega) (by omega)):I (IntKind.i64.wrap ((↑F.length:Int)-1))=I (↑(F.length-1):Int)) an)<|S_a [(6,.ret (I (↑k:Int)) ([zB3 l (zAB l (zAB l a)) (zAI l (zAB l a) (zAI l a t))]))] (ap hstk an)<|zAc 1<|zAa<|zAd 2<|S_a [(2,.ob),(1,.n k)] (ap ((by exact zAv (by simp only [List.length_map,zzLn]<;>omega)):decide (k<(List.map I F).length)=true)<|ap ((by simp):some (0+k)=some k) an)<|S_a [(0,.cs false ([I (F.getD k 0)]))] (ap (zDd (q:=PV.own 1 (List.map I F)) (xs:=List.map I F) (x:=I (F.getD k 0)) rfl (zDn (0) (by omega)):zAr 11 (PV.own 1 (List.map I F)) [] k 0 1=some (false,[I (F.getD k 0)])) an)<|zAc 1<|zAa<|zAg<|zAc 3<|S_a [(1,.v (I (↑(k+1):Int)))] (ap (wrN k) an)<|S_a [(7,.vs ([PV.bor 50000000 [] 1 0 F.length,I (↑k:Int),I (↑(k+1):Int)])),(0,.ret (PV.bor 50000000 [] 1 0 (F.length-1)) ([PV.own 1 (List.map I (F.eraseIdx k++[0]))]))] (ap ((by simp) : [PV.bor 50000000 [] 1 0 (List.map I F).length,I (↑k:Int),I (↑(k+1):Int)]=[PV.bor 50000000 [] 1 0 F.length,I (↑k:Int),I (↑(k+1):Int)])<|ap hdel an)<|S_a [(1,.ob),(0,.v (PV.own 1 (List.map I (List.take (F.length-1) (F.eraseIdx k++[0])))))] (ap ((by exact zA8 (by simp only [List.length_map,zzLn,zAY]<;>omega)):(0+(F.length-1)).ble (List.map I (F.eraseIdx k++[0])).length=true)<|ap ((by simp):PV.own 1 (List.take (F.length-1) (List.drop 0 (List.map I (F.eraseIdx k++[0]))))=PV.own 1 (List.map I (List.take (F.length-1) (F.eraseIdx k++[0])))) an)<|zAa<|zAd 3<|S_a [(4,.ob),(0,.ob),(0,.yes),(2,.v (PV.own 1 (List.map I (List.take (F.length-1) (F.eraseIdx k++[0])++[(↑i:Int)]))))] (ap (blz (List.map I (List.take (F.length-1) (F.eraseIdx k++[0]))))<|ap ((by exact zA8 (by simp [zAY]<;>omega)):((List.map I (List.take (F.length-1) (F.eraseIdx k++[0]))).length + [I (↑i:Int)].length).ble zAY=true)<|ap ((by exact zBL (by simp<;>omega)):(0+(List.map I (List.take (F.length-1) (F.eraseIdx k++[0]))).length).beq (List.map I (List.take (F.length-1) (F.eraseIdx k++[0]))).length=true)<|ap ((zA6 (zBP (by kernel_rfl))):PV.own 1 (List.map I (List.take (F.length-1) (F.eraseIdx k++[0]))++[I (↑i:Int)])=PV.own 1 (List.map I (List.take (F.length-1) (F.eraseIdx k++[0])++[(↑i:Int)]))) an)<|zAc 1<|zAa<|zAg<|zAc 1<|S_a [(1,.v (PV.bor 9 [(0,2)] 2 0 N.length))] (ap ((by simp):PV.bor 9 [(0,2)] 2 0 (List.map ntV N).length=PV.bor 9 [(0,2)] 2 0 N.length) an)<|zAc 2<|S_a [(6,.ret (PV.bool (decide (zAp l (zAB l (zAB l a)) (zAI l (zAB l a) (zAI l a t)) (3-1)=0))) ([zB3 l (zAB l (zAB l (zAB l a))) (zAI l (zAB l (zAB l a)) (zAI l (zAB l a) (zAI l a t)))]))] (ap (f37 l (zAB l (zAB l a)) (zAI l (zAB l a) (zAI l a t)) (3) (by omega) (by omega)) an)<|zAc 2<|S_a [(4,.ob),(0,.ob),(0,.yes),(2,.v (PV.own 2 (List.map ntV (N++[(F.getD k 0,decide (zAp l (zAB l (zAB l a)) (zAI l (zAB l a) (zAI l a t)) (3-1)=0))]))))] (ap ((by exact zA8 (by simp only [List.length_map,zzLn,zAY]<;>omega)):(0+N.length).ble (List.map ntV N).length=true)<|ap ((by exact zA8 (by simp only [List.length_map,zzLn,zAY]<;>omega)):((List.map ntV N).length + [PV.agg [I (F.getD k 0),PV.bool (decide (zAp l (zAB l (zAB l a)) (zAI l (zAB l a) (zAI l a t)) (3-1)=0))]].length).ble zAY=true)<|ap ((by exact zBL (by simp<;>omega)):(0+N.length).beq (List.map ntV N).length=true)<|ap ((zA6 (zBP (by kernel_rfl))):PV.own 2 (List.map ntV N++[PV.agg [I (F.getD k 0),PV.bool (decide (zAp l (zAB l (zAB l a)) (zAI l (zAB l a) (zAI l a t)) (3-1)=0))]])=PV.own 2 (List.map ntV (N++[(F.getD k 0,decide (zAp l (zAB l (zAB l a)) (zAI l (zAB l a) (zAI l a t)) (3-1)=0))]))) an)<|zAc 2<|zAa<|zAg<|S_a [(1,.v (I (↑(i+1):Int)))] (ap (wrN i) an)<|zAc 1<|zAa ?_)) (fun k1=>(zAl<|zAd 3<|S_a [(4,.ob),(0,.ob),(0,.yes),(2,.v (PV.own 1 (List.map I (F++[(↑i:Int)]))))] (ap (blz (List.map I F))<|ap ((by exact zA8 (by simp only [List.length_map,zzLn,zAY]<;>omega)):((List.map I F).length + [I (↑i:Int)].length).ble zAY=true)<|ap ((by exact zBL (by simp<;>omega)):(0+(List.map I F).length).beq (List.map I F).length=true)<|ap ((zA6 (zBP (by kernel_rfl))):PV.own 1 (List.map I F++[I (↑i:Int)])=PV.own 1 (List.map I (F++[(↑i:Int)]))) an)<|zAc 1<|zAa<|zAg<|zAc 1<|S_a [(1,.v (PV.bor 9 [(0,2)] 2 0 N.length))] (ap ((by simp):PV.bor 9 [(0,2)] 2 0 (List.map ntV N).length=PV.bor 9 [(0,2)] 2 0 N.length) an)<|zAc 2<|S_a [(6,.ret (PV.bool (decide (zAp l (zAB l a) (zAI l a t) (3-1)=0))) ([zB3 l (zAB l (zAB l a)) (zAI l (zAB l a) (zAI l a t))]))] (ap (f37 l (zAB l a) (zAI l a t) (3) (by omega) (by omega)) an)<|zAc 2<|S_a [(4,.ob),(0,.ob),(0,.yes),(2,.v (PV.own 2 (List.map ntV (N++[(-1,decide (zAp l (zAB l a) (zAI l a t) (3-1)=0))]))))] (ap ((by exact zA8 (by simp only [List.length_map,zzLn,zAY]<;>omega)):(0+N.length).ble (List.map ntV N).length=true)<|ap ((by exact zA8 (by simp only [List.length_map,zzLn,zAY]<;>omega)):((List.map ntV N).length + [PV.agg [I (-1),PV.bool (decide (zAp l (zAB l a) (zAI l a t) (3-1)=0))]].length).ble zAY=true)<|ap ((by exact zBL (by simp<;>omega)):(0+N.length).beq (List.map ntV N).length=true)<|ap ((zA6 (zBP (by kernel_rfl))):PV.own 2 (List.map ntV N++[PV.agg [I (-1),PV.bool (decide (zAp l (zAB l a) (zAI l a t) (3-1)=0))]])=PV.own 2 (List.map ntV (N++[(-1,decide (zAp l (zAB l a) (zAI l a t) (3-1)=0))]))) an)<|zAc 2<|zAa<|zAg<|S_a [(1,.v (I (↑(i+1):Int)))] (ap (wrN i) an)<|zAc 1<|zAa ?_)))
   ·exact ⟨(i+1,(F.eraseIdx k++[0]).take (F.length-1)++[(i:Int)],N++[(F.getD k 0,decide (zAp l (zAB l (zAB l a)) (zAI l (zAB l a) (zAI l a t)) (3-1)=0))],zAB l (zAB l (zAB l a)),zAI l (zAB l (zAB l a)) (zAI l (zAB l a) (zAI l a t))),⟨by omega,vX _,g6⟩,by simp only;omega,by kernel_rfl,by kernel_rfl⟩
   ·exact ⟨(i+1,F++[(i:Int)],N++[(-1,decide (zAp l (zAB l a) (zAI l a t) (3-1)=0))],zAB l (zAB l a),zAI l (zAB l a) (zAI l a t)),⟨by omega,yL _,g5⟩,by simp only;omega,by kernel_rfl,by kernel_rfl⟩
  ·clear hN
   refine zAd 1<|zAa<|zAh<|zBj ((↑i:Int)<m) (by omega)<|zAl<|zAh<|zAk 3<|zAd 2<|zAa<|zAd 1<|zAa<|zAh<|zAd 1<|S_a [(0,.n F.length)] (ap (lnS I F) an)<|zAc 2<|zV6 74 ((↑F.length:Int)>0) (by omega) (zAc 4<|zAa<|zAK<|zAl<|zAd 3<|S_a [(4,.ob),(0,.ob),(0,.yes),(2,.v (PV.own 1 (List.map I (F++[(↑i:Int)]))))] (ap (blz (List.map I F))<|ap ((by exact zA8 (by simp only [List.length_map,zzLn,zAY]<;>omega)):((List.map I F).length + [I (↑i:Int)].length).ble zAY=true)<|ap ((by exact zBL (by simp<;>omega)):(0+(List.map I F).length).beq (List.map I F).length=true)<|ap ((zA6 (zBP (by kernel_rfl))):PV.own 1 (List.map I F++[I (↑i:Int)])=PV.own 1 (List.map I (F++[(↑i:Int)]))) an)<|zAc 1<|zAa<|zAg<|zAc 1<|S_a [(1,.v (PV.bor 9 [(0,2)] 2 0 N.length))] (ap ((by simp):PV.bor 9 [(0,2)] 2 0 (List.map ntV N).length=PV.bor 9 [(0,2)] 2 0 N.length) an)<|zAc 2<|S_a [(6,.ret (PV.bool (decide (zAp l a t (3-1)=0))) ([zB3 l (zAB l a) (zAI l a t)]))] (ap (f37 l a t (3) (by omega) (by omega)) an)<|zAc 2<|S_a [(4,.ob),(0,.ob),(0,.yes),(2,.v (PV.own 2 (List.map ntV (N++[(-1,decide (zAp l a t (3-1)=0))]))))] (ap ((by exact zA8 (by simp only [List.length_map,zzLn,zAY]<;>omega)):(0+N.length).ble (List.map ntV N).length=true)<|ap ((by exact zA8 (by simp only [List.length_map,zzLn,zAY]<;>omega)):((List.map ntV N).length + [PV.agg [I (-1),PV.bool (decide (zAp l a t (3-1)=0))]].length).ble zAY=true)<|ap ((by exact zBL (by simp<;>omega)):(0+N.length).beq (List.map ntV N).length=true)<|ap ((zA6 (zBP (by kernel_rfl))):PV.own 2 (List.map ntV N++[PV.agg [I (-1),PV.bool (decide (zAp l a t (3-1)=0))]])=PV.own 2 (List.map ntV (N++[(-1,decide (zAp l a t (3-1)=0))]))) an)<|zAc 2<|zAa<|zAg<|S_a [(1,.v (I (↑(i+1):Int)))] (ap (wrN i) an)<|zAc 1<|zAa ?_)
   exact ⟨(i+1,F++[(i:Int)],N++[(-1,decide (zAp l a t (3-1)=0))],zAB l a,zAI l a t),⟨by omega,yL _,g4⟩,by simp only;omega,by kernel_rfl,by kernel_rfl⟩
 have him2:(i:Int)=m:=by omega
 have g4:=zCv ha
 have s1:=zCw l a t (ss-1)
 refine zAd 1<|zAa<|zAh<|zBv ((↑i:Int)<m) (by omega)<|zAS 2<|zAh<|zAd 2<|S_a [(8,.ret (I (1+zAp l a t (ss-1))) ([zB3 l (zAB l a) (zAI l a t)]))] (ap (f36 l a t (1) ss (by omega) (by omega) (by omega)) an)<|zAc 1<|zAa<|zAk 4 ?_
 have gJ:1≤1+zAp l a t (ss-1)∧1+zAp l a t (ss-1)≤ss:=by omega
 generalize 1+zAp l a t (ss-1)=M at *
 clear s1
 generalize zAI l a t=T2 at *
 generalize zAB l a=A2 at *
 refine zAD (fun (s,S,a,_)=>(s:Int)≤M∧S.length=s∧(∀ r∈S,RwOk r H.toNat)∧zDU l a) (fun ((s:Nat),(S:List (List Int)),(a:Nat),(t:Int))=>[(9,.box (.agg [I H,.own 2 (q2.map prV),.own 2 (N.map ntV),.own 1 (S.map zKr)])),(110,I (s:Nat)),(50000000,zB3 l a t)]) (fun (s,_,_,_)=>M.toNat-s) ((0:Nat),([]:List (List Int)),A2,T2) ⟨by omega,rfl,fun r hr=>absurd hr List.not_mem_nil,g4⟩ fun (s,S,a3,t3) ⟨hsM,LB,hS,ha3⟩=>?_
 by_cases jn:(s:Int)<M
 ·refine zAd 1<|zAa<|zAh<|zBj ((↑s:Int)<M) (by omega)<|zAl<|zAh<|zAk 5<|zAd 1<|zAa<|zAh<|zAd 3<|zAa<|zAk 6 ?_
  refine zAD (fun (j,r,a,_)=>(j:Int)≤H∧RwOk r j∧zDU l a) (fun ((j:Nat),(r:List Int),(a:Nat),(t:Int))=>[(15,.own 1 (r.map I)),(114,I (j:Nat)),(50000000,zB3 l a t)]) (fun (j,_,_,_)=>H.toNat-j) ((0:Nat),([]:List Int),a3,t3) ⟨by omega,⟨fun x hx=>absurd hx List.not_mem_nil,rfl,Nat.le_refl _⟩,ha3⟩ fun (j,r,a4,t4) ⟨hjH,hr,ha4⟩=>?_
  have hrl:=hr.len
  by_cases jL:(j:Int)<H
  ·have g5:=zCv ha4
   have qu:=hr.skip
   have wT:=hr.snoc
   clear hr
   refine zAd 1<|zAa<|zAh<|zBj ((↑j:Int)<H) (by omega)<|zAl<|zAh<|zAk 7<|zAd 2<|zAa<|zAd 1<|S_a [(6,.ret (PV.bool (decide (zAp l a4 t4 (3-1)=0))) ([zB3 l (zAB l a4) (zAI l a4 t4)]))] (ap (f37 l a4 t4 (3) (by omega) (by omega)) an)<|zAa<|zDo (zAp l a4 t4 (3-1)=0) (fun k0=>(zAg<|zAc 3<|S_a [(4,.ob),(0,.ob),(0,.yes),(2,.v (PV.own 1 (List.map I (r++[(↑j:Int)]))))] (ap (blz (List.map I r))<|ap ((by exact zA8 (by simp only [List.length_map,zzLn,zAY]<;>omega)):((List.map I r).length + [I (↑j:Int)].length).ble zAY=true)<|ap ((by exact zBL (by simp<;>omega)):(0+(List.map I r).length).beq (List.map I r).length=true)<|ap ((zA6 (zBP (by kernel_rfl))):PV.own 1 (List.map I r++[I (↑j:Int)])=PV.own 1 (List.map I (r++[(↑j:Int)]))) an)<|zAc 1<|zAa<|zAg<|S_a [(1,.v (I (↑(j+1):Int)))] (ap (wrN j) an)<|zAc 1<|zAa ?_)) (fun k0=>(zAl<|zAg<|S_a [(1,.v (I (↑(j+1):Int)))] (ap (wrN j) an)<|zAc 1<|zAa ?_))
   ·exact ⟨(j+1,r++[(j:Int)],zAB l a4,zAI l a4 t4),⟨by omega,wT,g5⟩,by simp only;omega,by kernel_rfl,by kernel_rfl⟩
   ·exact ⟨(j+1,r,zAB l a4,zAI l a4 t4),⟨by omega,qu,g5⟩,by simp only;omega,by kernel_rfl,by kernel_rfl⟩
  ·have hje:j=H.toNat:=by omega
   rw [hje] at hr
   have hS2:∀ x∈S++[r],RwOk x H.toNat:=fun x hx=>by
    rcases List.mem_append.1 hx with hx | hx
    ·exact hS x hx
    ·rw [List.mem_singleton] at hx;subst hx;exact hr
   refine zAd 1<|zAa<|zAh<|zBv ((↑j:Int)<H) (by omega)<|zAS 6<|zAg<|zAc 1<|S_a [(1,.v (PV.bor 9 [(0,3)] 1 0 S.length))] (ap ((by simp):PV.bor 9 [(0,3)] 1 0 (List.map zKr S).length=PV.bor 9 [(0,3)] 1 0 S.length) an)<|zAc 1<|S_a [(2,.yes)] (ap ((by exact zBL (by simp<;>omega)):(Nat.beq 0 0&&(List.map I r).length.beq (List.map I r).length)=true) an)<|S_a [(4,.ob),(0,.ob),(0,.yes),(2,.v (PV.own 1 (List.map zKr (S++[r]))))] (ap ((by exact zA8 (by simp only [List.length_map,zzLn,zAY]<;>omega)):(0+S.length).ble (List.map zKr S).length=true)<|ap ((by exact zA8 (by simp only [List.length_map,zzLn,zAY]<;>omega)):((List.map zKr S).length + [PV.own 1 (List.map I r)].length).ble zAY=true)<|ap ((by exact zBL (by simp<;>omega)):(0+S.length).beq (List.map zKr S).length=true)<|ap ((zA6 (zBP (by kernel_rfl))):PV.own 1 (List.map zKr S++[PV.own 1 (List.map I r)])=PV.own 1 (List.map zKr (S++[r]))) an)<|zAc 2<|zAa<|zAg<|S_a [(1,.v (I (↑(s+1):Int)))] (ap (wrN s) an)<|zAc 1<|zAa ?_
   exact ⟨(s+1,S++[r],a4,t4),⟨by omega,by rw [List.length_append,LB];rfl,hS2,ha4⟩,by simp only;omega,by kernel_rfl,by kernel_rfl⟩
 ·have kq:=zVl (H:=H) (q:=q2) (F:=F) (N:=N) (S:=S) (m:=i) (by omega) kR hN (by omega) hS (by omega)
  refine zAd 1<|zAa<|zAh<|zBv ((↑s:Int)<M) (by omega)<|zAS 4<|zAd 1<|S_a [(4,.yes),(2,.yes),(2,.yes)] (ap ((by exact zBL (by simp<;>omega)):(Nat.beq 0 0&&(List.map prV q2).length.beq (List.map prV q2).length)=true)<|ap ((by exact zBL (by simp<;>omega)):(Nat.beq 0 0&&(List.map ntV N).length.beq (List.map ntV N).length)=true)<|ap ((by exact zBL (by simp<;>omega)):(Nat.beq 0 0&&(List.map zKr S).length.beq (List.map zKr S).length)=true) an)<|zAa<|zAn<|E_q [(4,.yes),(1,.v (PV.own 2 (List.map prV q2))),(1,.yes),(1,.v (PV.own 2 (List.map ntV N))),(1,.yes),(1,.v (PV.own 1 (List.map zKr S)))] (ap (blz (List.map prV q2))<|ap ((zA6 zBt):PV.own 2 (List.take (List.map prV q2).length (List.drop 0 (List.map prV q2)))=PV.own 2 (List.map prV q2))<|ap (blz (List.map ntV N))<|ap ((zA6 zBt):PV.own 2 (List.take (List.map ntV N).length (List.drop 0 (List.map ntV N)))=PV.own 2 (List.map ntV N))<|ap (blz (List.map zKr S))<|ap ((zA6 zBt):PV.own 1 (List.take (List.map zKr S).length (List.drop 0 (List.map zKr S)))=PV.own 1 (List.map zKr S)) an) (PV.agg [I H,PV.own 2 (List.map prV q2),PV.own 2 (List.map ntV N),PV.own 1 (List.map zKr S)]) ([(PV.agg [PV.sl (List.map u8 l),I (↑a3:Int),PV.int IntKind.u32 t3]).box]) ?_
  exact ⟨⟨H,q2,N,S⟩,a3,t3,rfl,rfl,kq,by simp only;omega,by simp only;omega,by simp only;omega,ha3⟩
end
end Go.Eng
