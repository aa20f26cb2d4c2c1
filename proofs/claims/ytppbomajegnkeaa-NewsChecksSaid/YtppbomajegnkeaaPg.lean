/- For whatever news and notice, the law NewsChecks returns true and changes no argument: the error of news, chains and the notices in force are as the reference tells them. -/
import Derived.Test.YtppbomajegnkeaaPf
import Derived.Test.YtppbomajegnkeaaPd
set_option linter.unusedVariables false
set_option linter.unusedSimpArgs false
set_option linter.unusedSectionVars false
set_option maxRecDepth 10000
set_option maxHeartbeats 4000000
namespace Go.Eng
open Go Go.Proofs
def zSg (n:Nw) (w:List Int) (h i:Nat):Bool:=decide (w.getD (h*8+((zAj n).getD i 0).toNat) 0=i)&&decide ((zAU n).getD i 0≠i)
def zPO (n:Nw) (w:List Int) (h k:Nat):List (Int×Int):=((List.range k).filter fun i=>zSg n w h i).map fun (i:Nat)=>((h:Int),(i:Int))
def zTG (n:Nw) (w:List Int) (h:Nat):List (Int×Int):=(List.range h).flatMap fun h=>zPO n w h n.n.length
def zBU (n:Nw) (w:List Int):List (Int×Int):=zTG n w n.h.toNat
theorem zPX {n:Nw} {w:List Int} {h k:Nat}:zPO n w h (k+1)=if zSg n w h k=true then zPO n w h k++[((h:Int),(k:Int))] else zPO n w h k:=by
 unfold zPO;rw [List.range_succ,List.filter_append,List.map_append]
 by_cases hn:zSg n w h k=true
 ·rw [if_pos hn];simp [hn]
 ·rw [if_neg hn];simp [hn]
theorem zLU {n:Nw} {w:List Int} {h:Nat}:zTG n w (h+1)=zTG n w h++zPO n w h n.n.length:=by
 unfold zTG;rw [List.range_succ,List.flatMap_append];simp
theorem zOu {n:Nw} {w:List Int} {h k:Nat}:(zPO n w h k).length≤k:=by
 unfold zPO;rw [List.length_map];exact Nat.le_trans (List.length_filter_le _ _) (by simp)
theorem zLc {n:Nw} {w:List Int}:∀ h,(zTG n w h).length≤h*n.n.length
 | 0=>by simp [zTG]
 | h+1=>by
  have h1:=zLc (n:=n) (w:=w) h
  have h2:=zOu (n:=n) (w:=w) (h:=h) (k:=n.n.length)
  rw [zLU,List.length_append,Nat.succ_mul];omega
theorem zIS {n:Nw} {w:List Int} (ho:NwOk n):(zBU n w).length≤80:=by
 have h1:=zLc (n:=n) (w:=w) n.h.toNat
 have h2:=ho.h
 have h3:=ho.nl
 have h4:n.h.toNat*n.n.length≤10*8:=Nat.mul_le_mul (by omega) (by omega)
 unfold zBU;omega
theorem f43 (n:Nw) (cs:List (Int×Int)) (e:Int) (ho:CrW n cs) (he:0≤e∧e≤1000):FG 43 [zDP n cs,I e] (hdV (zBs n cs e.toNat)):=by
 have hn:=ho.nw
 refine zAf Try.f43 ?_
 refine zAc 1<|zAa<|zAc 1<|S_a [(5,.ret (hdV (zPE n cs)) [])] (ap (f83 n cs (by omega)) an)<|zAd 2<|zAa<|zAh<|zAc 2<|zAa<|zAi 0 ?_
 refine zAu (fun (k,w)=>k≤e.toNat∧w=zBs n cs k) (fun (k,w)=>[(5,.box (hdV w)),(9,I (k:Nat))]) (fun (k,_)=>e.toNat-k) ((0:Nat),zPE n cs) ⟨by omega,rfl⟩ fun (k,w) ⟨hk,hw⟩=>?_
 have hwl:w.length=80:=by rw [hw];exact zC9 k
 by_cases wJ:(k:Int)<e
 ·refine zAc 1<|zAa<|zAh<|zA0 ((↑k:Int)<e) (by omega)<|zAl<|zAh<|zAi 1<|zAg<|zAd 2<|S_a [(7,.ret (hdV (zDZ n w)) [])] (ap (f84 n cs w (by omega) (by omega)) an)<|zAd 1<|zAa<|zAg<|S_a [(1,.v (I (↑(k+1):Int)))] (ap (wrN k) an)<|zAd 1<|zAa ?_
  exact ⟨(k+1,zDZ n w),⟨by omega,by rw [hw];rfl⟩,by simp only;omega,by kernel_rfl,by kernel_rfl⟩
 ·refine zAc 1<|zAa<|zAh<|zA1 ((↑k:Int)<e) (by omega)<|zAE 0<|zAc 2<|zAa<|zAm<|E_a [] an (PV.agg (zAq w 80)) [] ?_ rfl
  rw [hw,show k=e.toNat by omega]
theorem f42 (n:Nw) (cs:List (Int×Int)) (w:List Int) (ho:NwOk n) (hw:w.length=80):FG 42 [zDP n cs,hdV w] (.own 2 ((zBU n w).map prV)):=by
 have hb:=ho.h
 have ut:=ho.nl
 refine zAf Try.f42 ?_
 refine zAc 2<|zAa<|zAc 1<|zAa<|zAh<|zAc 6<|zAa<|zAi 0 ?_
 refine zAu (fun (h,l)=>h≤n.h.toNat∧l=zTG n w h) (fun (h,l)=>[(5,.own 2 (l.map prV)),(13,I (h:Nat))]) (fun (h,_)=>n.h.toNat-h) ((0:Nat),([]:List (Int×Int))) ⟨by omega,rfl⟩ fun (h,l) ⟨hh,hl⟩=>?_
 have wo:l.length≤h*8:=by
  have h1:=zLc (n:=n) (w:=w) h
  rw [← hl] at h1
  exact Nat.le_trans h1 (Nat.mul_le_mul (Nat.le_refl _) (by omega))
 by_cases hhl:(h:Int)<n.h
 ·have yM:=zLU (n:=n) (w:=w) (h:=h)
  rw [← hl] at yM
  refine zAc 1<|zAa<|zAh<|zA0 ((↑h:Int)<n.h) (by omega)<|zAl<|zAh<|zAi 1<|zAc 2<|zAa<|zAc 5<|S_a [(0,.n n.n.length)] (ap (lnS ntV n.n) an)<|zAd 1<|zAa<|zAi 2 ?_
  refine zAu (fun (i,m)=>i≤n.n.length∧m=l++zPO n w h i) (fun (i,m)=>[(5,.own 2 (m.map prV)),(22,I (i:Nat))]) (fun (i,_)=>n.n.length-i) ((0:Nat),l) ⟨by omega,by simp [zPO]⟩ fun (i,m) ⟨hi,hm⟩=>?_
  have hml:m.length≤88:=by
   have:=zOu (n:=n) (w:=w) (h:=h) (k:=i)
   rw [hm,List.length_append];omega
  by_cases yJ:i<n.n.length
  ·have jV:=zPX (n:=n) (w:=w) (h:=h) (k:=i)
   have hfb:=zCh ho i yJ
   have ga:0≤(zAj n).getD i 0∧(zAj n).getD i 0<8:=by omega
   clear yM
   have jp:zSg n w h i=false→m=l++zPO n w h (i+1):=fun hg=>by rw [jV,if_neg (by rw [hg];simp)];exact hm
   refine zAc 1<|zAa<|zAh<|zA0 ((↑i:Int)<(↑n.n.length:Int)) (by omega)<|zAl<|zAh<|zAi 3<|zAc 2<|zAa<|zAc 5<|S_a [(2,.ob),(0,.v ((I ((zAj n).getD i 0)).ref))] (ap ((by exact zAr (by omega)):decide (i<8)=true)<|ap (zGo (F:=zAj n) (m:=8) (j:=i) (by omega):zCc (PV.agg (zAq (zAj n) 8)).ref (i*(fun x=>x.size) Try.prog.types[3]) none=some (I ((zAj n).getD i 0)).ref) an)<|zAd 1<|S_a [(2,.ob)] (ap ((by exact zAr (by omega)):decide (h<10)=true) an)<|S_a [(0,.ob),(1,.ob)] (ap ((by exact zAr (by omega)):decide (0≤(zAj n).getD i 0)=true)<|ap ((by exact zAr (by omega)):decide (((zAj n).getD i 0).toNat<8)=true) an)<|S_a [(0,.cs true ([I (w.getD (h*8+((zAj n).getD i 0).toNat) 0)]))] (ap (zDu (q:=(PV.agg (zAq w 80)).box) (xs:=[PV.agg (zAq w 80)]) (x:=PV.agg (zAq w 80)) rfl rfl (zE4 (F:=w) (m:=80) (j:=h*8+((zAj n).getD i 0).toNat) (by first | rfl | exact zBJ (by kernel_rfl) | exact zBP (by kernel_rfl) | exact zBL (by kernel_rfl) (by kernel_rfl) | exact zBN (by kernel_rfl) | exact zBT (by kernel_rfl) (by kernel_rfl) | exact zBM (by kernel_rfl) | (simp;done)) (by omega)):zAv 3 (PV.agg (zAq w 80)).box [] 0 (0+(↑h:Int).toNat*(fun x=>x.size) Try.prog.types[89]+((zAj n).getD i 0).toNat*(fun x=>x.size) Try.prog.types[3]) 1=some (true,[I (w.getD (h*8+((zAj n).getD i 0).toNat) 0)])) an)<|zAd 3<|zEY 37 (w.getD (h*8+((zAj n).getD i 0).toNat) 0=(↑i:Int)) (fun k0=>(zAd 4<|S_a [(2,.ob),(0,.v ((I ((zAU n).getD i 0)).ref))] (ap ((by exact zAr (by omega)):decide (i<8)=true)<|ap (zGo (F:=zAU n) (m:=8) (j:=i) (by omega):zCc (PV.agg (zAq (zAU n) 8)).ref (i*(fun x=>x.size) Try.prog.types[3]) none=some (I ((zAU n).getD i 0)).ref) an)<|zAd 4<|zAa<|zDE ((zAU n).getD i 0=(↑i:Int)) (fun k1=>(zAg<|zAd 5<|S_a [(4,.ob),(0,.ob),(0,.yes),(2,.v (PV.own 2 (List.map prV (m++[((↑h:Int),(↑i:Int))]))))] (ap (blz (List.map prV m))<|ap ((by exact zBx (by simp only [List.length_map,zzLn,zBe]<;>omega)):((List.map prV m).length + [PV.agg [I (↑h:Int),I (↑i:Int)]].length).ble zBe=true)<|ap ((by exact zBW (by simp<;>omega)):(0+(List.map prV m).length).beq (List.map prV m).length=true)<|ap ((zA3 (zDx (by kernel_rfl))):PV.own 2 (List.map prV m++[PV.agg [I (↑h:Int),I (↑i:Int)]])=PV.own 2 (List.map prV (m++[((↑h:Int),(↑i:Int))]))) an)<|zAd 1<|zAa<|zAg<|S_a [(1,.v (I (↑(i+1):Int)))] (ap (wrN i) an)<|zAd 1<|zAa ?_)) (fun k1=>(zAl<|zAg<|S_a [(1,.v (I (↑(i+1):Int)))] (ap (wrN i) an)<|zAd 1<|zAa ?_)))) (fun k0=>(zAd 9<|zAa<|zA4<|zAl<|zAg<|S_a [(1,.v (I (↑(i+1):Int)))] (ap (wrN i) an)<|zAd 1<|zAa ?_))
   ·have hg:zSg n w h i=true:=by simp only [zSg,decide_eq_true k0,Bool.true_and,decide_eq_true_eq];exact k1
    exact ⟨(i+1,m++[((h:Int),(i:Int))]),⟨by omega,by rw [jV,if_pos hg,hm,List.append_assoc]⟩,by simp only;omega,by kernel_rfl,by kernel_rfl⟩
   ·exact ⟨(i+1,m),⟨by omega,jp (by simp only [zSg,decide_eq_true k0,Bool.true_and,decide_eq_false_iff_not];exact fun h=>h k1)⟩,by simp only;omega,by kernel_rfl,by kernel_rfl⟩
   ·exact ⟨(i+1,m),⟨by omega,jp (by simp only [zSg,decide_eq_false k0,Bool.false_and])⟩,by simp only;omega,by kernel_rfl,by kernel_rfl⟩
  ·refine zAc 1<|zAa<|zAh<|zA1 ((↑i:Int)<(↑n.n.length:Int)) (by omega)<|zAE 2<|zAg<|S_a [(1,.v (I (↑(h+1):Int)))] (ap (wrN h) an)<|zAd 1<|zAa ?_
   exact ⟨(h+1,m),⟨by omega,by rw [yM,hm,show i=n.n.length by omega]⟩,by simp only;omega,by kernel_rfl,by kernel_rfl⟩
 ·have e:h=n.h.toNat:=by omega
  subst e
  refine zAc 1<|zAa<|zAh<|zA1 ((↑n.h.toNat:Int)<n.h) (by omega)<|zAE 0<|zAc 1<|S_a [(2,.yes)] (ap ((by exact zBW (by simp<;>omega)):(Nat.beq 0 0&&(List.map prV l).length.beq (List.map prV l).length)=true) an)<|zAa<|zAm<|E_a [(1,.yes),(1,.v (PV.own 2 (List.map prV l)))] (ap (blz (List.map prV l))<|ap ((zA3 zAV):PV.own 2 (List.take (List.map prV l).length (List.drop 0 (List.map prV l)))=PV.own 2 (List.map prV l)) an) (PV.own 2 (List.map prV l)) [] ?_ rfl
  rw [hl];rfl
theorem f9_1 (n:Nw) (cs:List (Int×Int)) (e:Int) (ho:EvOk n cs e):FG 9 [nwV n,prs cs,I e] (.tup [.own 2 ((zBU n (zBs n cs e.toNat)).map prV),I 0]):=by
 have hc:=ho.cr
 have qa:=hc.w
 have hn:=hc.nw
 have he:=ho.ev
 have hw:=zC9 (n:=n) (cs:=cs) e.toNat
 refine zAf Try.f9 ?_
 refine zAc 3<|zAa<|zAc 3<|S_a [(10,.ret (PV.tup [zDP n cs,I 0]) [])] (ap (f41_1 n cs e (by omega)) an)<|zAd 5<|zAa<|zAh<|zAc 2<|zAa<|zA4<|zAl<|zAc 3<|S_a [(7,.ret (hdV (zBs n cs e.toNat)) [])] (ap (f43 n cs e (by omega) (by omega)) an)<|S_a [(7,.ret (PV.own 2 (List.map prV (zBU n (zBs n cs e.toNat)))) [])] (ap (f42 n cs (zBs n cs e.toNat) (by omega) (by omega)) an)<|zAd 2<|zAa<|zAm<|E_a [(1,.yes),(1,.v (PV.own 2 (List.map prV (zBU n (zBs n cs e.toNat)))))] (ap (blz (List.map prV (zBU n (zBs n cs e.toNat))))<|ap ((zA3 zAV):PV.own 2 (List.take (List.map prV (zBU n (zBs n cs e.toNat))).length (List.drop 0 (List.map prV (zBU n (zBs n cs e.toNat)))))=PV.own 2 (List.map prV (zBU n (zBs n cs e.toNat)))) an) (PV.tup [PV.own 2 (List.map prV (zBU n (zBs n cs e.toNat))),I 0]) [] rfl rfl
def msl (n:Nw) (l:List (Int×Int)):List Int:=(l.filter fun g => !(n.n.getD g.2.toNat default).2).map Prod.fst
theorem zSx {n:Nw} {l:List (Int×Int)} {i:Nat} (hi:i<l.length):msl n (l.take (i+1))=if (n.n.getD (l.getD i default).2.toNat default).2=true then msl n (l.take i) else msl n (l.take i)++[(l.getD i default).1]:=by
 unfold msl;rw [zCo (d:=default) hi,List.filter_append,List.map_append]
 generalize l.getD i default=g
 cases hb:(n.n.getD g.2.toNat default).2
 ·rw [List.filter_cons_of_pos (by rw [hb];rfl)];rfl
 ·rw [List.filter_cons_of_neg (by rw [hb];simp)];simp
theorem zUS {n:Nw} {w:List Int} {g:Int×Int} (hg:g∈zBU n w):∃ h i:Nat,h<n.h.toNat∧i<n.n.length∧g=((h:Int),(i:Int))∧zSg n w h i=true:=by
 simp only [zBU,zTG,List.mem_flatMap,List.mem_range,zPO,List.mem_map,List.mem_filter] at hg
 obtain ⟨h,hh,i,⟨hi,hb⟩,rfl⟩:=hg
 exact ⟨h,i,hh,hi,rfl,hb⟩
theorem f15_1 (n:Nw) (cs:List (Int×Int)) (e:Int) (ho:EvOk n cs e):FG 15 [nwV n,prs cs,I e] (.tup [.own 1 ((zGE (msl n (zBU n (zBs n cs e.toNat)))).map I),I 0]):=by
 have hn:=ho.cr.nw
 have hZ:=zIS (w:=zBs n cs e.toNat) hn
 have yu:∀ g∈zBU n (zBs n cs e.toNat),0≤g.2∧g.2<n.n.length:=fun g hg=>by
  obtain ⟨h,i,h1,h2,rfl,_⟩:=zUS hg
  simp only;omega
 have h1:=f9_1 n cs e ho
 generalize zBU n (zBs n cs e.toNat)=G at *
 refine zAf Try.f15 ?_
 refine zAc 3<|zAa<|zAc 3<|S_a [(10,.ret (PV.tup [PV.own 2 (List.map prV G),I 0]) [])] (ap h1 an)<|zAd 5<|zAa<|zAh<|zAc 2<|zAa<|zA4<|zAl<|zAc 1<|zAa<|zAh<|zAc 1<|S_a [(0,.n G.length)] (ap (lnS prV G) an)<|zAd 1<|zAa<|zAi 0 ?_
 refine zAu (fun (i,l)=>i≤G.length∧l=msl n (G.take i)) (fun (i,l)=>[(10,.own 1 (l.map I)),(25,I (i:Nat))]) (fun (i,_)=>G.length-i) ((0:Nat),([]:List Int)) ⟨by omega,by simp [msl]⟩ fun (i,l) ⟨hi,hl⟩=>?_
 have wo:l.length≤i:=by
  rw [hl,msl,List.length_map]
  exact Nat.le_trans (List.length_filter_le _ _) (by rw [List.length_take];omega)
 by_cases yJ:i<G.length
 ·have y4:=zSx (n:=n) yJ
  rw [← hl] at y4
  have hgi:=zCe (d:=default) yu i yJ
  clear h1 yu
  refine zAc 1<|zAa<|zAh<|zA0 ((↑i:Int)<(↑G.length:Int)) (by omega)<|zAl<|zAh<|zAi 1<|zAh<|zAg<|S_a [(2,.ob),(1,.n i)] (ap ((by exact zAr (by simp only [List.length_map,zzLn]<;>omega)):decide (i<(List.map prV G).length)=true)<|ap ((by simp):some (0+i)=some i) an)<|S_a [(0,.cs true ([I (G.getD i default).fst,I (G.getD i default).snd]))] (ap (zDu (q:=PV.own 2 (List.map prV G)) (xs:=List.map prV G) (x:=PV.agg [I (G.getD i default).fst,I (G.getD i default).snd]) rfl (zB0 default (by omega)):zAv 8 (PV.own 2 (List.map prV G)) [] i 0 Try.prog.types[42].size=some (true,[I (G.getD i default).fst,I (G.getD i default).snd])) an)<|zAd 2<|zAa<|zAc 4<|S_a [(0,.ob),(1,.v (PV.agg [I (n.n.getD (G.getD i default).snd.toNat default).fst,PV.bool (n.n.getD (G.getD i default).snd.toNat default).snd]))] (ap ((by exact zAr (by omega)):decide (0≤(G.getD i default).snd)=true)<|ap (zB0 default (by omega):(List.map ntV n.n)[(G.getD i default).snd.toNat]? = some (PV.agg [I (n.n.getD (G.getD i default).snd.toNat default).fst,PV.bool (n.n.getD (G.getD i default).snd.toNat default).snd])) an)<|zAd 3<|zAa<|zEu (!(n.n.getD (G.getD i default).snd.toNat default).snd) (fun k0=>(zAg<|zAd 4<|S_a [(4,.ob),(0,.ob),(0,.yes),(2,.v (PV.own 1 (List.map I (l++[(G.getD i default).fst]))))] (ap (blz (List.map I l))<|ap ((by exact zBx (by simp only [List.length_map,zzLn,zBe]<;>omega)):((List.map I l).length + [I (G.getD i default).fst].length).ble zBe=true)<|ap ((by exact zBW (by simp<;>omega)):(0+(List.map I l).length).beq (List.map I l).length=true)<|ap ((zA3 (zDx (by kernel_rfl))):PV.own 1 (List.map I l++[I (G.getD i default).fst])=PV.own 1 (List.map I (l++[(G.getD i default).fst]))) an)<|zAd 1<|zAa<|zAg<|S_a [(1,.v (I (↑(i+1):Int)))] (ap (wrN i) an)<|zAd 1<|zAa ?_)) (fun k0=>(zAl<|zAg<|S_a [(1,.v (I (↑(i+1):Int)))] (ap (wrN i) an)<|zAd 1<|zAa ?_))
  ·rw [Bool.not_eq_true'] at k0
   rw [if_neg (by rw [k0];simp)] at y4
   exact ⟨(i+1,l++[(G.getD i default).1]),⟨by omega,y4.symm⟩,by simp only;omega,by kernel_rfl,by kernel_rfl⟩
  ·rw [Bool.not_eq_false'] at k0
   rw [if_pos k0] at y4
   exact ⟨(i+1,l),⟨by omega,y4.symm⟩,by simp only;omega,by kernel_rfl,by kernel_rfl⟩
 ·rw [List.take_of_length_le (by omega)] at hl
  rw [← hl]
  clear h1 yu
  refine zAc 1<|zAa<|zAh<|zA1 ((↑i:Int)<(↑G.length:Int)) (by omega)<|zAE 0<|zAc 1<|S_a [(3,.ob),(1,.v (PV.own 1 (List.map I l))),(2,.ret (PV.own 1 (List.map I (zGE l))) [])] (ap ((by exact zBx (by simp only [List.length_map,zzLn,zBe]<;>omega)):(List.map I l).length.ble (List.map I l).length=true)<|ap ((zA3 zAV):PV.own 1 (List.take (List.map I l).length (List.drop 0 (List.map I l)))=PV.own 1 (List.map I l))<|ap (f54 l (by omega)) an)<|zAd 2<|zAa<|zAm<|E_a [(1,.yes),(1,.v (PV.own 1 (List.map I (zGE l))))] (ap (blz (List.map I (zGE l)))<|ap ((zA3 zAV):PV.own 1 (List.take (List.map I (zGE l)).length (List.drop 0 (List.map I (zGE l))))=PV.own 1 (List.map I (zGE l))) an) (PV.tup [PV.own 1 (List.map I (zGE l)),I 0]) [] rfl rfl
theorem f48_1 (n:Nw) (cs:List (Int×Int)) (k:Nat) (ho:CrOk n cs) (hk:k≤1000) (he:zBs n cs (k+1)=zBs n cs k) (hm:∀ j,j<k→zBs n cs (j+1)≠zBs n cs j):FG 48 [nwV n,prs cs] (.tup [I k,I 0]):=by
 have hn:=ho.nw
 have qa:=ho.w
 have y5:=zOe (n:=n) (cs:=cs)
 refine zAf Try.f48 ?_
 refine zAc 3<|zAa<|zAc 2<|S_a [(8,.ret (PV.tup [zDP n cs,I 0]) [])] (ap (f82_1 n cs (by omega)) an)<|zAd 5<|zAa<|zAh<|zAc 2<|zAa<|zA4<|zAl<|zAc 1<|S_a [(5,.ret (hdV (zPE n cs)) [])] (ap (f83 n cs (by omega)) an)<|zAd 3<|zAa<|zAh<|zAc 2<|S_a [(7,.ret (hdV (zDZ n (zPE n cs))) [])] (ap (f84 n cs (zPE n cs) (by omega) (by omega)) an)<|zAd 2<|zAa<|zAi 0 ?_
 refine zAu (fun j=>j≤k) (fun (j:Nat)=>[(8,I (j:Nat)),(9,.box (hdV (zBs n cs j))),(10,.box (hdV (zBs n cs (j+1))))]) (fun j=>k-j) (0:Nat) (by omega) fun j hj=>?_
 have wW:=zC9 (n:=n) (cs:=cs) j
 have hl2:=zC9 (n:=n) (cs:=cs) (j+1)
 by_cases gM:j<k
 ·have hI:=hm j gM
  refine zAh<|zAc 2<|S_a [(0,.v (PV.bool !decide (zBs n cs (j+1)=zBs n cs j)))] (ap (zP3 80 (by omega) (by omega):zJM Try.prog BinOp.neq 91 (PV.agg (zAq (zBs n cs (j+1)) 80)) (PV.agg (zAq (zBs n cs j) 80))=some (PV.bool !decide (zBs n cs (j+1)=zBs n cs j))) an)<|zAa<|zEV (zBs n cs (j+1)=zBs n cs j) (by omega)<|zAl<|zAh<|zAi 1<|zAc 2<|zAa<|zAg<|zAd 1<|S_a [(1,.v (I (↑(j+1):Int)))] (ap (wrN j) an)<|zAd 1<|zAa<|zAh<|zAc 1<|zAa<|zAg<|zAd 2<|zAa<|zAg<|zAd 2<|S_a [(7,.ret (hdV (zDZ n (zBs n cs (j+1)))) [])] (ap (f84 n cs (zBs n cs (j+1)) (by omega) (by omega)) an)<|zAd 1<|zAa ?_
  exact ⟨j+1,by omega,by omega,by kernel_rfl,by kernel_rfl⟩
 ·have e:j=k:=by omega
  subst e
  refine zAh<|zAc 2<|S_a [(0,.v (PV.bool !decide (zBs n cs (j+1)=zBs n cs j)))] (ap (zP3 80 (by omega) (by omega):zJM Try.prog BinOp.neq 91 (PV.agg (zAq (zBs n cs (j+1)) 80)) (PV.agg (zAq (zBs n cs j) 80))=some (PV.bool !decide (zBs n cs (j+1)=zBs n cs j))) an)<|zAa<|zFr (zBs n cs (j+1)=zBs n cs j) (by omega)<|zAE 0<|zAc 3<|zAa<|zAm<|E_a [] an (PV.tup [I (↑j:Int),I 0]) [] rfl rfl
def zVj (n:Nw) (cs:List (Int×Int)) (k:Nat):Int:=(List.range k).foldl (fun a k=>if zBU n (zBs n cs k)=[] then a else (k:Int)+1) 0
theorem zRC {n:Nw} {cs:List (Int×Int)} {k:Nat}:zVj n cs (k+1)=if zBU n (zBs n cs k)=[] then zVj n cs k else (k:Int)+1:=by
 simp only [zVj,List.range_succ,List.foldl_append,List.foldl_cons,List.foldl_nil]
theorem f52_1 (n:Nw) (cs:List (Int×Int)) (ho:CrOk n cs):FG 52 [nwV n,prs cs] (.tup [if zBU n (zBs n cs 12)=[] then I (zVj n cs 12) else I 0,if zBU n (zBs n cs 12)=[] then I 0 else I 6]):=by
 have hn:=ho.nw
 have qa:=ho.w
 refine zAf Try.f52 ?_
 refine zAc 3<|zAa<|zAc 2<|S_a [(8,.ret (PV.tup [zDP n cs,I 0]) [])] (ap (f82_1 n cs (by omega)) an)<|zAd 5<|zAa<|zAh<|zAc 2<|zAa<|zA4<|zAl<|zAc 1<|S_a [(5,.ret (hdV (zPE n cs)) [])] (ap (f83 n cs (by omega)) an)<|zAd 3<|zAa<|zAh<|zAc 1<|zAa<|zAi 0 ?_
 refine zAu (fun k=>k≤12) (fun (k:Nat)=>[(8,I (zVj n cs k)),(9,.box (hdV (zBs n cs k))),(22,I (k:Nat))]) (fun k=>12-k) (0:Nat) (by omega) fun k hk=>?_
 have wW:=zC9 (n:=n) (cs:=cs) k
 have hgl:=zIS (w:=zBs n cs k) hn
 by_cases wJ:k<12
 ·have jV:=zRC (n:=n) (cs:=cs) (k:=k)
  refine zAc 1<|zAa<|zAh<|zA0 ((↑k:Int)<12) (by omega)<|zAl<|zAh<|zAi 1<|zAc 2<|zAa<|zAh<|zAc 2<|S_a [(7,.ret (PV.own 2 (List.map prV (zBU n (zBs n cs k)))) [])] (ap (f42 n cs (zBs n cs k) (by omega) (by omega)) an)<|S_a [(0,.n ((zBU n (zBs n cs k)).length))] (ap (lnS prV (zBU n (zBs n cs k))) an)<|zAd 1<|zAa<|zCn ((↑(zBU n (zBs n cs k)).length:Int)>0) (fun k1=>(zAg<|zAd 1<|S_a [(1,.v (I (↑(k+1):Int)))] (ap (wrN k) an)<|zAd 1<|zAa<|zAg<|zAd 2<|S_a [(7,.ret (hdV (zDZ n (zBs n cs k))) [])] (ap (f84 n cs (zBs n cs k) (by omega) (by omega)) an)<|zAd 1<|zAa<|zAg<|S_a [(1,.v (I (↑(k+1):Int)))] (ap (wrN k) an)<|zAd 1<|zAa ?_)) (fun k1=>(zAl<|zAg<|zAd 2<|S_a [(7,.ret (hdV (zDZ n (zBs n cs k))) [])] (ap (f84 n cs (zBs n cs k) (by omega) (by omega)) an)<|zAd 1<|zAa<|zAg<|S_a [(1,.v (I (↑(k+1):Int)))] (ap (wrN k) an)<|zAd 1<|zAa ?_))
  ·rw [if_neg (by intro h;rw [h] at k1;simp at k1)] at jV
   exact ⟨k+1,by omega,by omega,by rw [jV];kernel_rfl,by kernel_rfl⟩
  ·rw [if_pos (List.eq_nil_of_length_eq_zero (by omega))] at jV
   exact ⟨k+1,by omega,by omega,by rw [jV];kernel_rfl,by kernel_rfl⟩
 ·have e:k=12:=by omega
  subst e
  refine zAc 1<|zAa<|zAh<|zA4<|zAE 0<|zAh<|zAc 2<|S_a [(7,.ret (PV.own 2 (List.map prV (zBU n (zBs n cs 12)))) [])] (ap (f42 n cs (zBs n cs 12) (by omega) (by omega)) an)<|S_a [(0,.n ((zBU n (zBs n cs 12)).length))] (ap (lnS prV (zBU n (zBs n cs 12))) an)<|zAd 1<|zAa<|zCn ((↑(zBU n (zBs n cs 12)).length:Int)>0) (fun k0=>(zAc 2<|zAa<|zAm<|E_a [] an (PV.tup [I 0,I 6]) [] ?_ rfl)) (fun k0=>(zAl<|zAc 3<|zAa<|zAm<|E_a [] an (PV.tup [I (zVj n cs 12),I 0]) [] ?_ rfl))
  ·have h:¬ zBU n (zBs n cs 12)=[]:=by intro h;rw [h] at k0;simp at k0
   rw [if_neg h,if_neg h]
  ·have h:zBU n (zBs n cs 12)=[]:=List.eq_nil_of_length_eq_zero (by omega)
   rw [if_pos h,if_pos h]
end Go.Eng
set_option maxRecDepth 10000
set_option maxHeartbeats 4000000
namespace Go.Eng
open Go Go.Proofs
theorem zR6 {n:Nw} {cs:List (Int×Int)} {c:Int×Int} (h:CrW n cs) (hl:cs.length<1000) (hc:(0≤c.1∧c.1<n.n.length)∧(0≤c.2∧c.2<n.s.length)):CrW n (cs++[c]) :=
 ⟨h.nw,by simp;omega,fun x hx=>by
  rcases List.mem_append.1 hx with h1 | h1
  ·exact h.cs x h1
  ·rw [List.mem_singleton] at h1;subst h1;exact hc⟩
theorem zXe (n:Nw) (c:Int×Int):FG 86 [zDP n [],prV c] (.box (zCp n (.own 2 (([]++[c]).map prV)) (mapM (n.l.map pr2)) (zAj n) (zAU n))):=by
 refine zAf Try.f86 ?_
 refine zAc 2<|zAa<|zAc 5<|zAa<|zAc 4<|zAd 1<|zAd 4<|zAd 1<|zAd 1<|zAd 3<|zAa<|zAc 1<|zAd 1<|zAd 4<|zAd 1<|zAa<|zAc 1<|zAd 1<|zAd 5<|zAa<|zAc 1<|zAa<|zAm<|E_a [] an ((PV.agg (I n.h::prs n.l::PV.sl (List.map ntV n.n)::PV.sl (List.map zAF n.s)::PV.own 2 [PV.agg [I c.fst,I c.snd]]::PV.map (List.map zBq (List.map pr2 n.l))::(zAq (zAj n) 8++zAq (zAU n) 8))).box) [] rfl rfl
theorem zXw (n:Nw) (c:Int×Int) (x0:Int×Int):FG 86 [zDP n [x0],prV c] (.box (zCp n (.own 2 (([x0]++[c]).map prV)) (mapM (n.l.map pr2)) (zAj n) (zAU n))):=by
 refine zAf Try.f86 ?_
 refine zAc 2<|zAa<|zAc 5<|zAa<|zAc 4<|zAd 1<|zAd 4<|zAd 1<|zAd 1<|zAd 3<|zAa<|zAc 1<|zAd 1<|zAd 4<|zAd 1<|zAa<|zAc 1<|zAd 1<|zAd 5<|zAa<|zAc 1<|zAa<|zAm<|E_a [] an ((PV.agg (I n.h::prs n.l::PV.sl (List.map ntV n.n)::PV.sl (List.map zAF n.s)::PV.own 2 [PV.agg [I x0.fst,I x0.snd],PV.agg [I c.fst,I c.snd]]::PV.map (List.map zBq (List.map pr2 n.l))::(zAq (zAj n) 8++zAq (zAU n) 8))).box) [] rfl rfl
theorem zWN (n:Nw) (c:Int×Int) (x0 x1:Int×Int):FG 86 [zDP n [x0,x1],prV c] (.box (zCp n (.own 2 (([x0,x1]++[c]).map prV)) (mapM (n.l.map pr2)) (zAj n) (zAU n))):=by
 refine zAf Try.f86 ?_
 refine zAc 2<|zAa<|zAc 5<|zAa<|zAc 4<|zAd 1<|zAd 4<|zAd 1<|zAd 1<|zAd 3<|zAa<|zAc 1<|zAd 1<|zAd 4<|zAd 1<|zAa<|zAc 1<|zAd 1<|zAd 5<|zAa<|zAc 1<|zAa<|zAm<|E_a [] an ((PV.agg (I n.h::prs n.l::PV.sl (List.map ntV n.n)::PV.sl (List.map zAF n.s)::PV.own 2 [PV.agg [I x0.fst,I x0.snd],PV.agg [I x1.fst,I x1.snd],PV.agg [I c.fst,I c.snd]]::PV.map (List.map zBq (List.map pr2 n.l))::(zAq (zAj n) 8++zAq (zAU n) 8))).box) [] rfl rfl
theorem zXx (n:Nw) (c:Int×Int) (x0 x1 x2:Int×Int):FG 86 [zDP n [x0,x1,x2],prV c] (.box (zCp n (.own 2 (([x0,x1,x2]++[c]).map prV)) (mapM (n.l.map pr2)) (zAj n) (zAU n))):=by
 refine zAf Try.f86 ?_
 refine zAc 2<|zAa<|zAc 5<|zAa<|zAc 4<|zAd 1<|zAd 4<|zAd 1<|zAd 1<|zAd 3<|zAa<|zAc 1<|zAd 1<|zAd 4<|zAd 1<|zAa<|zAc 1<|zAd 1<|zAd 5<|zAa<|zAc 1<|zAa<|zAm<|E_a [] an ((PV.agg (I n.h::prs n.l::PV.sl (List.map ntV n.n)::PV.sl (List.map zAF n.s)::PV.own 2 [PV.agg [I x0.fst,I x0.snd],PV.agg [I x1.fst,I x1.snd],PV.agg [I x2.fst,I x2.snd],PV.agg [I c.fst,I c.snd]]::PV.map (List.map zBq (List.map pr2 n.l))::(zAq (zAj n) 8++zAq (zAU n) 8))).box) [] rfl rfl
theorem zXr (n:Nw) (c:Int×Int) (x0 x1 x2 x3:Int×Int):FG 86 [zDP n [x0,x1,x2,x3],prV c] (.box (zCp n (.own 2 (([x0,x1,x2,x3]++[c]).map prV)) (mapM (n.l.map pr2)) (zAj n) (zAU n))):=by
 refine zAf Try.f86 ?_
 refine zAc 2<|zAa<|zAc 5<|zAa<|zAc 4<|zAd 1<|zAd 4<|zAd 1<|zAd 1<|zAd 3<|zAa<|zAc 1<|zAd 1<|zAd 4<|zAd 1<|zAa<|zAc 1<|zAd 1<|zAd 5<|zAa<|zAc 1<|zAa<|zAm<|E_a [] an ((PV.agg (I n.h::prs n.l::PV.sl (List.map ntV n.n)::PV.sl (List.map zAF n.s)::PV.own 2 [PV.agg [I x0.fst,I x0.snd],PV.agg [I x1.fst,I x1.snd],PV.agg [I x2.fst,I x2.snd],PV.agg [I x3.fst,I x3.snd],PV.agg [I c.fst,I c.snd]]::PV.map (List.map zBq (List.map pr2 n.l))::(zAq (zAj n) 8++zAq (zAU n) 8))).box) [] rfl rfl
theorem zW0 (n:Nw) (c:Int×Int) (x0 x1 x2 x3 x4:Int×Int):FG 86 [zDP n [x0,x1,x2,x3,x4],prV c] (.box (zCp n (.own 2 (([x0,x1,x2,x3,x4]++[c]).map prV)) (mapM (n.l.map pr2)) (zAj n) (zAU n))):=by
 refine zAf Try.f86 ?_
 refine zAc 2<|zAa<|zAc 5<|zAa<|zAc 4<|zAd 1<|zAd 4<|zAd 1<|zAd 1<|zAd 3<|zAa<|zAc 1<|zAd 1<|zAd 4<|zAd 1<|zAa<|zAc 1<|zAd 1<|zAd 5<|zAa<|zAc 1<|zAa<|zAm<|E_a [] an ((PV.agg (I n.h::prs n.l::PV.sl (List.map ntV n.n)::PV.sl (List.map zAF n.s)::PV.own 2 [PV.agg [I x0.fst,I x0.snd],PV.agg [I x1.fst,I x1.snd],PV.agg [I x2.fst,I x2.snd],PV.agg [I x3.fst,I x3.snd],PV.agg [I x4.fst,I x4.snd],PV.agg [I c.fst,I c.snd]]::PV.map (List.map zBq (List.map pr2 n.l))::(zAq (zAj n) 8++zAq (zAU n) 8))).box) [] rfl rfl
theorem zW6 (n:Nw) (c:Int×Int) (x0 x1 x2 x3 x4 x5:Int×Int):FG 86 [zDP n [x0,x1,x2,x3,x4,x5],prV c] (.box (zCp n (.own 2 (([x0,x1,x2,x3,x4,x5]++[c]).map prV)) (mapM (n.l.map pr2)) (zAj n) (zAU n))):=by
 refine zAf Try.f86 ?_
 refine zAc 2<|zAa<|zAc 5<|zAa<|zAc 4<|zAd 1<|zAd 4<|zAd 1<|zAd 1<|zAd 3<|zAa<|zAc 1<|zAd 1<|zAd 4<|zAd 1<|zAa<|zAc 1<|zAd 1<|zAd 5<|zAa<|zAc 1<|zAa<|zAm<|E_a [] an ((PV.agg (I n.h::prs n.l::PV.sl (List.map ntV n.n)::PV.sl (List.map zAF n.s)::PV.own 2 [PV.agg [I x0.fst,I x0.snd],PV.agg [I x1.fst,I x1.snd],PV.agg [I x2.fst,I x2.snd],PV.agg [I x3.fst,I x3.snd],PV.agg [I x4.fst,I x4.snd],PV.agg [I x5.fst,I x5.snd],PV.agg [I c.fst,I c.snd]]::PV.map (List.map zBq (List.map pr2 n.l))::(zAq (zAj n) 8++zAq (zAU n) 8))).box) [] rfl rfl
theorem zXq (n:Nw) (c:Int×Int) (x0 x1 x2 x3 x4 x5 x6:Int×Int):FG 86 [zDP n [x0,x1,x2,x3,x4,x5,x6],prV c] (.box (zCp n (.own 2 (([x0,x1,x2,x3,x4,x5,x6]++[c]).map prV)) (mapM (n.l.map pr2)) (zAj n) (zAU n))):=by
 refine zAf Try.f86 ?_
 refine zAc 2<|zAa<|zAc 5<|zAa<|zAc 4<|zAd 1<|zAd 4<|zAd 1<|zAd 1<|zAd 3<|zAa<|zAc 1<|zAd 1<|zAd 4<|zAd 1<|zAa<|zAc 1<|zAd 1<|zAd 5<|zAa<|zAc 1<|zAa<|zAm<|E_a [] an ((PV.agg (I n.h::prs n.l::PV.sl (List.map ntV n.n)::PV.sl (List.map zAF n.s)::PV.own 2 [PV.agg [I x0.fst,I x0.snd],PV.agg [I x1.fst,I x1.snd],PV.agg [I x2.fst,I x2.snd],PV.agg [I x3.fst,I x3.snd],PV.agg [I x4.fst,I x4.snd],PV.agg [I x5.fst,I x5.snd],PV.agg [I x6.fst,I x6.snd],PV.agg [I c.fst,I c.snd]]::PV.map (List.map zBq (List.map pr2 n.l))::(zAq (zAj n) 8++zAq (zAU n) 8))).box) [] rfl rfl
theorem zXl (n:Nw) (c:Int×Int) (x0 x1 x2 x3 x4 x5 x6 x7:Int×Int):FG 86 [zDP n [x0,x1,x2,x3,x4,x5,x6,x7],prV c] (.box (zCp n (.own 2 (([x0,x1,x2,x3,x4,x5,x6,x7]++[c]).map prV)) (mapM (n.l.map pr2)) (zAj n) (zAU n))):=by
 refine zAf Try.f86 ?_
 refine zAc 2<|zAa<|zAc 5<|zAa<|zAc 4<|zAd 1<|zAd 4<|zAd 1<|zAd 1<|zAd 3<|zAa<|zAc 1<|zAd 1<|zAd 4<|zAd 1<|zAa<|zAc 1<|zAd 1<|zAd 5<|zAa<|zAc 1<|zAa<|zAm<|E_a [] an ((PV.agg (I n.h::prs n.l::PV.sl (List.map ntV n.n)::PV.sl (List.map zAF n.s)::PV.own 2 [PV.agg [I x0.fst,I x0.snd],PV.agg [I x1.fst,I x1.snd],PV.agg [I x2.fst,I x2.snd],PV.agg [I x3.fst,I x3.snd],PV.agg [I x4.fst,I x4.snd],PV.agg [I x5.fst,I x5.snd],PV.agg [I x6.fst,I x6.snd],PV.agg [I x7.fst,I x7.snd],PV.agg [I c.fst,I c.snd]]::PV.map (List.map zBq (List.map pr2 n.l))::(zAq (zAj n) 8++zAq (zAU n) 8))).box) [] rfl rfl
theorem zWW (n:Nw) (c:Int×Int) (x0 x1 x2 x3 x4 x5 x6 x7 x8:Int×Int):FG 86 [zDP n [x0,x1,x2,x3,x4,x5,x6,x7,x8],prV c] (.box (zCp n (.own 2 (([x0,x1,x2,x3,x4,x5,x6,x7,x8]++[c]).map prV)) (mapM (n.l.map pr2)) (zAj n) (zAU n))):=by
 refine zAf Try.f86 ?_
 refine zAc 2<|zAa<|zAc 5<|zAa<|zAc 4<|zAd 1<|zAd 4<|zAd 1<|zAd 1<|zAd 3<|zAa<|zAc 1<|zAd 1<|zAd 4<|zAd 1<|zAa<|zAc 1<|zAd 1<|zAd 5<|zAa<|zAc 1<|zAa<|zAm<|E_a [] an ((PV.agg (I n.h::prs n.l::PV.sl (List.map ntV n.n)::PV.sl (List.map zAF n.s)::PV.own 2 [PV.agg [I x0.fst,I x0.snd],PV.agg [I x1.fst,I x1.snd],PV.agg [I x2.fst,I x2.snd],PV.agg [I x3.fst,I x3.snd],PV.agg [I x4.fst,I x4.snd],PV.agg [I x5.fst,I x5.snd],PV.agg [I x6.fst,I x6.snd],PV.agg [I x7.fst,I x7.snd],PV.agg [I x8.fst,I x8.snd],PV.agg [I c.fst,I c.snd]]::PV.map (List.map zBq (List.map pr2 n.l))::(zAq (zAj n) 8++zAq (zAU n) 8))).box) [] rfl rfl
theorem zWk (n:Nw) (c:Int×Int) (x0 x1 x2 x3 x4 x5 x6 x7 x8 x9:Int×Int):FG 86 [zDP n [x0,x1,x2,x3,x4,x5,x6,x7,x8,x9],prV c] (.box (zCp n (.own 2 (([x0,x1,x2,x3,x4,x5,x6,x7,x8,x9]++[c]).map prV)) (mapM (n.l.map pr2)) (zAj n) (zAU n))):=by
 refine zAf Try.f86 ?_
 refine zAc 2<|zAa<|zAc 5<|zAa<|zAc 4<|zAd 1<|zAd 4<|zAd 1<|zAd 1<|zAd 3<|zAa<|zAc 1<|zAd 1<|zAd 4<|zAd 1<|zAa<|zAc 1<|zAd 1<|zAd 5<|zAa<|zAc 1<|zAa<|zAm<|E_a [] an ((PV.agg (I n.h::prs n.l::PV.sl (List.map ntV n.n)::PV.sl (List.map zAF n.s)::PV.own 2 [PV.agg [I x0.fst,I x0.snd],PV.agg [I x1.fst,I x1.snd],PV.agg [I x2.fst,I x2.snd],PV.agg [I x3.fst,I x3.snd],PV.agg [I x4.fst,I x4.snd],PV.agg [I x5.fst,I x5.snd],PV.agg [I x6.fst,I x6.snd],PV.agg [I x7.fst,I x7.snd],PV.agg [I x8.fst,I x8.snd],PV.agg [I x9.fst,I x9.snd],PV.agg [I c.fst,I c.snd]]::PV.map (List.map zBq (List.map pr2 n.l))::(zAq (zAj n) 8++zAq (zAU n) 8))).box) [] rfl rfl
theorem zWb (n:Nw) (c:Int×Int) (x0 x1 x2 x3 x4 x5 x6 x7 x8 x9 x10:Int×Int):FG 86 [zDP n [x0,x1,x2,x3,x4,x5,x6,x7,x8,x9,x10],prV c] (.box (zCp n (.own 2 (([x0,x1,x2,x3,x4,x5,x6,x7,x8,x9,x10]++[c]).map prV)) (mapM (n.l.map pr2)) (zAj n) (zAU n))):=by
 refine zAf Try.f86 ?_
 refine zAc 2<|zAa<|zAc 5<|zAa<|zAc 4<|zAd 1<|zAd 4<|zAd 1<|zAd 1<|zAd 3<|zAa<|zAc 1<|zAd 1<|zAd 4<|zAd 1<|zAa<|zAc 1<|zAd 1<|zAd 5<|zAa<|zAc 1<|zAa<|zAm<|E_a [] an ((PV.agg (I n.h::prs n.l::PV.sl (List.map ntV n.n)::PV.sl (List.map zAF n.s)::PV.own 2 [PV.agg [I x0.fst,I x0.snd],PV.agg [I x1.fst,I x1.snd],PV.agg [I x2.fst,I x2.snd],PV.agg [I x3.fst,I x3.snd],PV.agg [I x4.fst,I x4.snd],PV.agg [I x5.fst,I x5.snd],PV.agg [I x6.fst,I x6.snd],PV.agg [I x7.fst,I x7.snd],PV.agg [I x8.fst,I x8.snd],PV.agg [I x9.fst,I x9.snd],PV.agg [I x10.fst,I x10.snd],PV.agg [I c.fst,I c.snd]]::PV.map (List.map zBq (List.map pr2 n.l))::(zAq (zAj n) 8++zAq (zAU n) 8))).box) [] rfl rfl
theorem zWf (n:Nw) (c:Int×Int) (x0 x1 x2 x3 x4 x5 x6 x7 x8 x9 x10 x11:Int×Int):FG 86 [zDP n [x0,x1,x2,x3,x4,x5,x6,x7,x8,x9,x10,x11],prV c] (.box (zCp n (.own 2 (([x0,x1,x2,x3,x4,x5,x6,x7,x8,x9,x10,x11]++[c]).map prV)) (mapM (n.l.map pr2)) (zAj n) (zAU n))):=by
 refine zAf Try.f86 ?_
 refine zAc 2<|zAa<|zAc 5<|zAa<|zAc 4<|zAd 1<|zAd 4<|zAd 1<|zAd 1<|zAd 3<|zAa<|zAc 1<|zAd 1<|zAd 4<|zAd 1<|zAa<|zAc 1<|zAd 1<|zAd 5<|zAa<|zAc 1<|zAa<|zAm<|E_a [] an ((PV.agg (I n.h::prs n.l::PV.sl (List.map ntV n.n)::PV.sl (List.map zAF n.s)::PV.own 2 [PV.agg [I x0.fst,I x0.snd],PV.agg [I x1.fst,I x1.snd],PV.agg [I x2.fst,I x2.snd],PV.agg [I x3.fst,I x3.snd],PV.agg [I x4.fst,I x4.snd],PV.agg [I x5.fst,I x5.snd],PV.agg [I x6.fst,I x6.snd],PV.agg [I x7.fst,I x7.snd],PV.agg [I x8.fst,I x8.snd],PV.agg [I x9.fst,I x9.snd],PV.agg [I x10.fst,I x10.snd],PV.agg [I x11.fst,I x11.snd],PV.agg [I c.fst,I c.snd]]::PV.map (List.map zBq (List.map pr2 n.l))::(zAq (zAj n) 8++zAq (zAU n) 8))).box) [] rfl rfl
theorem zVM (n:Nw) (c:Int×Int) (x0 x1 x2 x3 x4 x5 x6 x7 x8 x9 x10 x11 x12:Int×Int):FG 86 [zDP n [x0,x1,x2,x3,x4,x5,x6,x7,x8,x9,x10,x11,x12],prV c] (.box (zCp n (.own 2 (([x0,x1,x2,x3,x4,x5,x6,x7,x8,x9,x10,x11,x12]++[c]).map prV)) (mapM (n.l.map pr2)) (zAj n) (zAU n))):=by
 refine zAf Try.f86 ?_
 refine zAc 2<|zAa<|zAc 5<|zAa<|zAc 4<|zAd 1<|zAd 4<|zAd 1<|zAd 1<|zAd 3<|zAa<|zAc 1<|zAd 1<|zAd 4<|zAd 1<|zAa<|zAc 1<|zAd 1<|zAd 5<|zAa<|zAc 1<|zAa<|zAm<|E_a [] an ((PV.agg (I n.h::prs n.l::PV.sl (List.map ntV n.n)::PV.sl (List.map zAF n.s)::PV.own 2 [PV.agg [I x0.fst,I x0.snd],PV.agg [I x1.fst,I x1.snd],PV.agg [I x2.fst,I x2.snd],PV.agg [I x3.fst,I x3.snd],PV.agg [I x4.fst,I x4.snd],PV.agg [I x5.fst,I x5.snd],PV.agg [I x6.fst,I x6.snd],PV.agg [I x7.fst,I x7.snd],PV.agg [I x8.fst,I x8.snd],PV.agg [I x9.fst,I x9.snd],PV.agg [I x10.fst,I x10.snd],PV.agg [I x11.fst,I x11.snd],PV.agg [I x12.fst,I x12.snd],PV.agg [I c.fst,I c.snd]]::PV.map (List.map zBq (List.map pr2 n.l))::(zAq (zAj n) 8++zAq (zAU n) 8))).box) [] rfl rfl
theorem zVU (n:Nw) (c:Int×Int) (x0 x1 x2 x3 x4 x5 x6 x7 x8 x9 x10 x11 x12 x13:Int×Int):FG 86 [zDP n [x0,x1,x2,x3,x4,x5,x6,x7,x8,x9,x10,x11,x12,x13],prV c] (.box (zCp n (.own 2 (([x0,x1,x2,x3,x4,x5,x6,x7,x8,x9,x10,x11,x12,x13]++[c]).map prV)) (mapM (n.l.map pr2)) (zAj n) (zAU n))):=by
 refine zAf Try.f86 ?_
 refine zAc 2<|zAa<|zAc 5<|zAa<|zAc 4<|zAd 1<|zAd 4<|zAd 1<|zAd 1<|zAd 3<|zAa<|zAc 1<|zAd 1<|zAd 4<|zAd 1<|zAa<|zAc 1<|zAd 1<|zAd 5<|zAa<|zAc 1<|zAa<|zAm<|E_a [] an ((PV.agg (I n.h::prs n.l::PV.sl (List.map ntV n.n)::PV.sl (List.map zAF n.s)::PV.own 2 [PV.agg [I x0.fst,I x0.snd],PV.agg [I x1.fst,I x1.snd],PV.agg [I x2.fst,I x2.snd],PV.agg [I x3.fst,I x3.snd],PV.agg [I x4.fst,I x4.snd],PV.agg [I x5.fst,I x5.snd],PV.agg [I x6.fst,I x6.snd],PV.agg [I x7.fst,I x7.snd],PV.agg [I x8.fst,I x8.snd],PV.agg [I x9.fst,I x9.snd],PV.agg [I x10.fst,I x10.snd],PV.agg [I x11.fst,I x11.snd],PV.agg [I x12.fst,I x12.snd],PV.agg [I x13.fst,I x13.snd],PV.agg [I c.fst,I c.snd]]::PV.map (List.map zBq (List.map pr2 n.l))::(zAq (zAj n) 8++zAq (zAU n) 8))).box) [] rfl rfl
theorem zVT (n:Nw) (c:Int×Int) (x0 x1 x2 x3 x4 x5 x6 x7 x8 x9 x10 x11 x12 x13 x14:Int×Int):FG 86 [zDP n [x0,x1,x2,x3,x4,x5,x6,x7,x8,x9,x10,x11,x12,x13,x14],prV c] (.box (zCp n (.own 2 (([x0,x1,x2,x3,x4,x5,x6,x7,x8,x9,x10,x11,x12,x13,x14]++[c]).map prV)) (mapM (n.l.map pr2)) (zAj n) (zAU n))):=by
 refine zAf Try.f86 ?_
 refine zAc 2<|zAa<|zAc 5<|zAa<|zAc 4<|zAd 1<|zAd 4<|zAd 1<|zAd 1<|zAd 3<|zAa<|zAc 1<|zAd 1<|zAd 4<|zAd 1<|zAa<|zAc 1<|zAd 1<|zAd 5<|zAa<|zAc 1<|zAa<|zAm<|E_a [] an ((PV.agg (I n.h::prs n.l::PV.sl (List.map ntV n.n)::PV.sl (List.map zAF n.s)::PV.own 2 [PV.agg [I x0.fst,I x0.snd],PV.agg [I x1.fst,I x1.snd],PV.agg [I x2.fst,I x2.snd],PV.agg [I x3.fst,I x3.snd],PV.agg [I x4.fst,I x4.snd],PV.agg [I x5.fst,I x5.snd],PV.agg [I x6.fst,I x6.snd],PV.agg [I x7.fst,I x7.snd],PV.agg [I x8.fst,I x8.snd],PV.agg [I x9.fst,I x9.snd],PV.agg [I x10.fst,I x10.snd],PV.agg [I x11.fst,I x11.snd],PV.agg [I x12.fst,I x12.snd],PV.agg [I x13.fst,I x13.snd],PV.agg [I x14.fst,I x14.snd],PV.agg [I c.fst,I c.snd]]::PV.map (List.map zBq (List.map pr2 n.l))::(zAq (zAj n) 8++zAq (zAU n) 8))).box) [] rfl rfl
theorem zVK (n:Nw) (c:Int×Int) (x0 x1 x2 x3 x4 x5 x6 x7 x8 x9 x10 x11 x12 x13 x14 x15:Int×Int):FG 86 [zDP n [x0,x1,x2,x3,x4,x5,x6,x7,x8,x9,x10,x11,x12,x13,x14,x15],prV c] (.box (zCp n (.own 2 (([x0,x1,x2,x3,x4,x5,x6,x7,x8,x9,x10,x11,x12,x13,x14,x15]++[c]).map prV)) (mapM (n.l.map pr2)) (zAj n) (zAU n))):=by
 refine zAf Try.f86 ?_
 refine zAc 2<|zAa<|zAc 5<|zAa<|zAc 4<|zAd 1<|zAd 4<|zAd 1<|zAd 1<|zAd 3<|zAa<|zAc 1<|zAd 1<|zAd 4<|zAd 1<|zAa<|zAc 1<|zAd 1<|zAd 5<|zAa<|zAc 1<|zAa<|zAm<|E_a [] an ((PV.agg (I n.h::prs n.l::PV.sl (List.map ntV n.n)::PV.sl (List.map zAF n.s)::PV.own 2 [PV.agg [I x0.fst,I x0.snd],PV.agg [I x1.fst,I x1.snd],PV.agg [I x2.fst,I x2.snd],PV.agg [I x3.fst,I x3.snd],PV.agg [I x4.fst,I x4.snd],PV.agg [I x5.fst,I x5.snd],PV.agg [I x6.fst,I x6.snd],PV.agg [I x7.fst,I x7.snd],PV.agg [I x8.fst,I x8.snd],PV.agg [I x9.fst,I x9.snd],PV.agg [I x10.fst,I x10.snd],PV.agg [I x11.fst,I x11.snd],PV.agg [I x12.fst,I x12.snd],PV.agg [I x13.fst,I x13.snd],PV.agg [I x14.fst,I x14.snd],PV.agg [I x15.fst,I x15.snd],PV.agg [I c.fst,I c.snd]]::PV.map (List.map zBq (List.map pr2 n.l))::(zAq (zAj n) 8++zAq (zAU n) 8))).box) [] rfl rfl
theorem f86 (n:Nw) (cs:List (Int×Int)) (c:Int×Int) (hl:cs.length≤16):FG 86 [zDP n cs,prV c] (.box (zCp n (.own 2 ((cs++[c]).map prV)) (mapM (n.l.map pr2)) (zAj n) (zAU n))):=by
 match cs,hl with
 | [],_=>exact zXe n c 
 | [x0],_=>exact zXw n c x0
 | [x0,x1],_=>exact zWN n c x0 x1
 | [x0,x1,x2],_=>exact zXx n c x0 x1 x2
 | [x0,x1,x2,x3],_=>exact zXr n c x0 x1 x2 x3
 | [x0,x1,x2,x3,x4],_=>exact zW0 n c x0 x1 x2 x3 x4
 | [x0,x1,x2,x3,x4,x5],_=>exact zW6 n c x0 x1 x2 x3 x4 x5
 | [x0,x1,x2,x3,x4,x5,x6],_=>exact zXq n c x0 x1 x2 x3 x4 x5 x6
 | [x0,x1,x2,x3,x4,x5,x6,x7],_=>exact zXl n c x0 x1 x2 x3 x4 x5 x6 x7
 | [x0,x1,x2,x3,x4,x5,x6,x7,x8],_=>exact zWW n c x0 x1 x2 x3 x4 x5 x6 x7 x8
 | [x0,x1,x2,x3,x4,x5,x6,x7,x8,x9],_=>exact zWk n c x0 x1 x2 x3 x4 x5 x6 x7 x8 x9
 | [x0,x1,x2,x3,x4,x5,x6,x7,x8,x9,x10],_=>exact zWb n c x0 x1 x2 x3 x4 x5 x6 x7 x8 x9 x10
 | [x0,x1,x2,x3,x4,x5,x6,x7,x8,x9,x10,x11],_=>exact zWf n c x0 x1 x2 x3 x4 x5 x6 x7 x8 x9 x10 x11
 | [x0,x1,x2,x3,x4,x5,x6,x7,x8,x9,x10,x11,x12],_=>exact zVM n c x0 x1 x2 x3 x4 x5 x6 x7 x8 x9 x10 x11 x12
 | [x0,x1,x2,x3,x4,x5,x6,x7,x8,x9,x10,x11,x12,x13],_=>exact zVU n c x0 x1 x2 x3 x4 x5 x6 x7 x8 x9 x10 x11 x12 x13
 | [x0,x1,x2,x3,x4,x5,x6,x7,x8,x9,x10,x11,x12,x13,x14],_=>exact zVT n c x0 x1 x2 x3 x4 x5 x6 x7 x8 x9 x10 x11 x12 x13 x14
 | [x0,x1,x2,x3,x4,x5,x6,x7,x8,x9,x10,x11,x12,x13,x14,x15],_=>exact zVK n c x0 x1 x2 x3 x4 x5 x6 x7 x8 x9 x10 x11 x12 x13 x14 x15
 | _::_::_::_::_::_::_::_::_::_::_::_::_::_::_::_::_::_,h=>simp at h
def zVk (n:Nw) (w:List Int) (g:Int×Int):Bool:=decide (w.getD (g.1.toNat*8+((zAj n).getD g.2.toNat 0).toNat) 0≠g.2)
def zIk (n:Nw) (w:List Int) (l:List (Int×Int)):List (Int×Int):=l.filter (zVk n w)
theorem zTc {n:Nw} {w:List Int} {l:List (Int×Int)} {i:Nat} (hi:i<l.length):zIk n w (l.take (i+1))=if zVk n w (l.getD i default)=true then zIk n w (l.take i)++[l.getD i default] else zIk n w (l.take i):=by
 unfold zIk;rw [zCo (d:=default) hi,List.filter_append]
 split
 ·rw [List.filter_cons_of_pos (by assumption)];rfl
 ·rw [List.filter_cons_of_neg (by assumption)];simp
theorem f45 (n:Nw) (cs l:List (Int×Int)) (e:Int) (c:Int×Int) (ho:CrW n cs) (hl:cs.length≤16) (he:0≤e∧e≤1000) (wo:l.length≤1000) (hm:∀ g∈l,(0≤g.1∧g.1<n.h)∧(0≤g.2∧g.2<n.n.length)) (hc:(0≤c.1∧c.1<n.n.length)∧(0≤c.2∧c.2<n.s.length)):FG 45 [zDP n cs,prs l,I e,prV c] (.own 2 ((zIk n (zBs n (cs++[c]) e.toNat) l).map prV)):=by
 have hw:=zR6 ho (by omega) hc
 have hb:=ho.nw.h
 have hn:=ho.nw
 have ut:=hn.nl
 have hwl:=zC9 (n:=n) (cs:=cs++[c]) e.toNat
 have ha:=f43 n (cs++[c]) e hw he
 generalize zBs n (cs++[c]) e.toNat=w at *
 refine zAf Try.f45 ?_
 refine zAc 2<|zAa<|zAc 2<|S_a [(7,.ret ((zCp n (PV.own 2 (List.map prV (cs++[c]))) (mapM (List.map pr2 n.l)) (zAj n) (zAU n)).box) [])] (ap (f86 n cs c (by omega)) an)<|zAd 1<|S_a [(7,.v (PV.agg (I n.h::prs n.l::PV.sl (List.map ntV n.n)::PV.sl (List.map zAF n.s)::prs (cs++[c])::PV.map (List.map zBq (List.map pr2 n.l))::(zAq (zAj n) 8++zAq (zAU n) 8)))),(4,.ret (hdV w) [])] (ap ((by simp only [show zAC (List.map prV (cs++[c]))=List.map prV (cs++[c]) from (by first | exact zBQ _ | exact zC1 _ | exact zCj _ | exact zCT (zC1 _) | exact zCT (zCj _) | exact zKt (by simp [zEM]) (zBQ _))]):PV.agg (I n.h::prs n.l::PV.sl (List.map ntV n.n)::PV.sl (List.map zAF n.s)::PV.sl (zAC (List.map prV (cs++[c])))::PV.map (List.map zBq (List.map pr2 n.l))::(zAq (zAj n) 8++zAq (zAU n) 8))=PV.agg (I n.h::prs n.l::PV.sl (List.map ntV n.n)::PV.sl (List.map zAF n.s)::prs (cs++[c])::PV.map (List.map zBq (List.map pr2 n.l))::(zAq (zAj n) 8++zAq (zAU n) 8)))<|ap ha an)<|zAd 2<|zAa<|zAc 1<|zAa<|zAh<|zAc 1<|S_a [(0,.n l.length)] (ap (lnS prV l) an)<|zAd 1<|zAa<|zAi 0 ?_
 refine zAu (fun (i,q)=>i≤l.length∧q=zIk n w (l.take i)) (fun (i,q)=>[(10,.own 2 (q.map prV)),(20,I (i:Nat))]) (fun (i,_)=>l.length-i) ((0:Nat),([]:List (Int×Int))) ⟨by omega,by simp [zIk]⟩ fun (i,q) ⟨hi,hq⟩=>?_
 have gK:q.length≤i:=by
  rw [hq,zIk];exact Nat.le_trans (List.length_filter_le _ _) (by rw [List.length_take];omega)
 by_cases yJ:i<l.length
 ·have y4:=zTc (n:=n) (w:=w) yJ
  rw [← hq] at y4
  obtain ⟨kK,wq⟩:=zCe (d:=default) hm i yJ
  have hfb:=zCh hn (l.getD i default).2.toNat (by omega)
  clear hm ha hq
  refine zAc 1<|zAa<|zAh<|zA0 ((↑i:Int)<(↑l.length:Int)) (by omega)<|zAl<|zAh<|zAi 1<|zAh<|zAg<|S_a [(2,.v (PV.agg [I (l.getD i default).fst,I (l.getD i default).snd]))] (ap (zB0 default (by omega):(List.map prV l)[i]? = some (PV.agg [I (l.getD i default).fst,I (l.getD i default).snd])) an)<|zAd 3<|zAa<|zAc 7<|S_a [(0,.ob),(1,.ob),(0,.v ((I ((zAj n).getD (l.getD i default).snd.toNat 0)).ref))] (ap ((by exact zAr (by omega)):decide (0≤(l.getD i default).snd)=true)<|ap ((by exact zAr (by omega)):decide ((l.getD i default).snd.toNat<8)=true)<|ap (zGo (F:=zAj n) (m:=8) (j:=(l.getD i default).snd.toNat) (by omega):zCc (PV.agg (zAq (zAj n) 8)).ref ((l.getD i default).snd.toNat*(fun x=>x.size) Try.prog.types[3]) none=some (I ((zAj n).getD (l.getD i default).snd.toNat 0)).ref) an)<|zAd 1<|S_a [(0,.ob),(1,.ob)] (ap ((by exact zAr (by omega)):decide (0≤(l.getD i default).fst)=true)<|ap ((by exact zAr (by omega)):decide ((l.getD i default).fst.toNat<10)=true) an)<|S_a [(0,.ob),(1,.ob)] (ap ((by exact zAr (by omega)):decide (0≤(zAj n).getD (l.getD i default).snd.toNat 0)=true)<|ap ((by exact zAr (by omega)):decide (((zAj n).getD (l.getD i default).snd.toNat 0).toNat<8)=true) an)<|S_a [(0,.cs true ([I (w.getD ((l.getD i default).fst.toNat*8+((zAj n).getD (l.getD i default).snd.toNat 0).toNat) 0)]))] (ap (zDu (q:=(PV.agg (zAq w 80)).box) (xs:=[PV.agg (zAq w 80)]) (x:=PV.agg (zAq w 80)) rfl rfl (zE4 (F:=w) (m:=80) (j:=(l.getD i default).fst.toNat*8+((zAj n).getD (l.getD i default).snd.toNat 0).toNat) (by first | rfl | exact zBJ (by kernel_rfl) | exact zBP (by kernel_rfl) | exact zBL (by kernel_rfl) (by kernel_rfl) | exact zBN (by kernel_rfl) | exact zBT (by kernel_rfl) (by kernel_rfl) | exact zBM (by kernel_rfl) | (simp;done)) (by omega)):zAv 9 (PV.agg (zAq w 80)).box [] 0 (0+(l.getD i default).fst.toNat*(fun x=>x.size) Try.prog.types[89]+((zAj n).getD (l.getD i default).snd.toNat 0).toNat*(fun x=>x.size) Try.prog.types[3]) 1=some (true,[I (w.getD ((l.getD i default).fst.toNat*8+((zAj n).getD (l.getD i default).snd.toNat 0).toNat) 0)])) an)<|zAd 3<|zAa<|zDE (w.getD ((l.getD i default).fst.toNat*8+((zAj n).getD (l.getD i default).snd.toNat 0).toNat) 0=(l.getD i default).snd) (fun k0=>(zAg<|zAd 3<|S_a [(4,.ob),(0,.ob),(0,.yes),(2,.v (PV.own 2 (List.map prV (q++[l.getD i default]))))] (ap (blz (List.map prV q))<|ap ((by exact zBx (by simp only [List.length_map,zzLn,zBe]<;>omega)):((List.map prV q).length + [PV.agg [I (l.getD i default).fst,I (l.getD i default).snd]].length).ble zBe=true)<|ap ((by exact zBW (by simp<;>omega)):(0+(List.map prV q).length).beq (List.map prV q).length=true)<|ap ((zA3 (zDx (by kernel_rfl))):PV.own 2 (List.map prV q++[PV.agg [I (l.getD i default).fst,I (l.getD i default).snd]])=PV.own 2 (List.map prV (q++[l.getD i default]))) an)<|zAd 1<|zAa<|zAg<|S_a [(1,.v (I (↑(i+1):Int)))] (ap (wrN i) an)<|zAd 1<|zAa ?_)) (fun k0=>(zAl<|zAg<|S_a [(1,.v (I (↑(i+1):Int)))] (ap (wrN i) an)<|zAd 1<|zAa ?_))
  ·have hb:zVk n w (l.getD i default)=true:=by simp only [zVk,decide_eq_true_eq];exact k0
   rw [if_pos hb] at y4
   exact ⟨(i+1,q++[l.getD i default]),⟨by omega,y4.symm⟩,by simp only;omega,by kernel_rfl,by kernel_rfl⟩
  ·have hb:zVk n w (l.getD i default)=false:=by simp only [zVk,decide_eq_false_iff_not];exact fun h=>h k0
   rw [if_neg (by rw [hb];simp)] at y4
   exact ⟨(i+1,q),⟨by omega,y4.symm⟩,by simp only;omega,by kernel_rfl,by kernel_rfl⟩
 ·refine zAc 1<|zAa<|zAh<|zA1 ((↑i:Int)<(↑l.length:Int)) (by omega)<|zAE 0<|zAc 1<|S_a [(2,.yes)] (ap ((by exact zBW (by simp<;>omega)):(Nat.beq 0 0&&(List.map prV q).length.beq (List.map prV q).length)=true) an)<|zAa<|zAm<|E_a [(1,.yes),(1,.v (PV.own 2 (List.map prV q)))] (ap (blz (List.map prV q))<|ap ((zA3 zAV):PV.own 2 (List.take (List.map prV q).length (List.drop 0 (List.map prV q)))=PV.own 2 (List.map prV q)) an) (PV.own 2 (List.map prV q)) [] ?_ rfl
  rw [List.take_of_length_le (by omega)] at hq
  rw [hq]
end Go.Eng
set_option maxRecDepth 10000
set_option maxHeartbeats 4000000
namespace Go.Eng
open Go Go.Proofs
theorem zTb {α:Type} (φ:α→Bool) (l:List α):(zEL φ l = -1→l.filter (fun x => !φ x)=l)∧(zEL φ l≠-1→∃ i:Nat,zEL φ l=i∧i<l.length∧l.take i=(l.take (i+1)).filter (fun x => !φ x)):=by
 constructor
 ·intro h
  have:l.any φ=false:=by rw [← zD5,h];rfl
  rw [List.filter_eq_self]
  intro x hx
  rw [List.any_eq_false] at this
  simpa using this x hx
 ·intro h
  unfold zEL at h ⊢
  split
  ·rename_i yI
   refine ⟨_,rfl,yI,?_⟩
   have hp:=List.findIdx_getElem (w:=yI)
   rw [List.take_add_one,List.getElem?_eq_getElem yI,List.filter_append]
   simp only [Option.toList,List.filter_cons,hp,Bool.not_true,Bool.false_eq_true,if_false,List.filter_nil,List.append_nil]
   symm
   rw [List.filter_eq_self]
   intro x hx
   obtain ⟨j,hj,rfl⟩:=List.mem_take_iff_getElem.1 hx
   have:=List.not_of_lt_findIdx (show j<l.findIdx φ by omega)
   simpa using this
  ·rename_i hn;rw [if_neg hn] at h;exact absurd rfl h
theorem zK8 {α:Type} {S:List α} {p:Nat} {x:α} (h:p<S.length):(S.set p x).take (p+1)=S.take p++[x]:=by
 rw [zCo (d:=x) (by simpa using h),List.take_set_of_le (Nat.le_refl p)]
 simp [List.getD_eq_getElem?_getD,h]
theorem zNr {α:Type} {S:List α} {i j:Nat} {x d:α} (h:i≠j):(S.set i x).getD j d=S.getD j d:=by
 simp [List.getD_eq_getElem?_getD,List.getElem?_set,h]
theorem zNM {α:Type} (p:α→Bool) (l:List α) (j:Nat) (d:α) (h:j<l.length):(l.take (j+1)).filter p=if p (l.getD j d)=true then (l.take j).filter p++[l.getD j d] else (l.take j).filter p:=by
 rw [zCo (d:=d) h,List.filter_append]
 split
 ·rw [List.filter_cons_of_pos (by assumption)];rfl
 ·rw [List.filter_cons_of_neg (by assumption)];simp
theorem f119 (n:Nw) (cs:List (Int×Int)) (f:Int) (ho:NwOk n) (g:Int×Int) (hg:0≤g.2∧g.2<n.n.length):FG 119 [prV g,.ref (zDP n cs),.ref (I f)] (.bool (decide ((zAj n).getD g.2.toNat 0≠f))):=by
 have ut:=ho.nl
 refine zAf Try.f119 ?_
 refine zAc 2<|zAa<|zAc 5<|S_a [(0,.ob),(1,.ob),(0,.v ((I ((zAj n).getD g.snd.toNat 0)).ref))] (ap ((by exact zAr (by omega)):decide (0≤g.snd)=true)<|ap ((by exact zAr (by omega)):decide (g.snd.toNat<8)=true)<|ap (zGo (F:=zAj n) (m:=8) (j:=g.snd.toNat) (by omega):zCc (PV.agg (zAq (zAj n) 8)).ref (g.snd.toNat*(fun x=>x.size) Try.prog.types[3]) none=some (I ((zAj n).getD g.snd.toNat 0)).ref) an)<|zAd 4<|zAa<|zAm<|E_a [] an (PV.bool ((zAj n).getD g.snd.toNat 0 != f)) [] ?_ rfl
 congr 1;rw [Bool.eq_iff_iff];simp
theorem f57_1 (n:Nw) (cs:List (Int×Int)) (f:Int) (ho:NwOk n) (l:List (Int×Int)) (hl:l.length<4294967296) (hr:∀ x∈l,(fun z:Int×Int=>0≤z.2∧z.2<n.n.length) x):FG 57 [.sl (l.map prV),.func 119 [] [.ref (zDP n cs),.ref (I f)]] (I (zEL (fun x=>decide ((zAj n).getD x.2.toNat 0≠f)) l)):=by
 refine zAf Try.f57 ?_
 refine zAc 1<|zAa<|zAh<|zAc 1<|S_a [(0,.n l.length)] (ap (lnS prV l) an)<|zAd 1<|zAa<|zAi 0 ?_
 refine zAu (fun i=>i≤l.length∧∀ j,j<i→(fun x=>decide ((zAj n).getD x.2.toNat 0≠f)) (l.getD j default)=false) (fun i=>[(8,I (i:Nat))]) (fun i=>l.length-i) (0:Nat) (by simp) fun i ⟨hi,ha⟩=>?_
 by_cases yJ:i<l.length
 ·have gl:=zCe (d:=default) hr i yJ
  refine zAc 1<|zAa<|zAh<|zA0 ((↑i:Int)<(↑l.length:Int)) (by omega)<|zAl<|zAh<|zAi 1<|zAc 2<|zAa<|zAc 3<|S_a [(2,.v (PV.agg [I (l.getD i default).fst,I (l.getD i default).snd]))] (ap (zB0 default (by omega):(List.map prV l)[i]? = some (PV.agg [I (l.getD i default).fst,I (l.getD i default).snd])) an)<|zAd 1<|S_a [(8,.ret (PV.bool (decide ((zAj n).getD (l.getD i default).snd.toNat 0≠f))) [])] (ap (f119 n cs f (by omega) (l.getD i default) (by omega)) an)<|zAa<|zCn ((zAj n).getD (l.getD i default).snd.toNat 0≠f) (fun k0=>(zAc 2<|zAa<|zAm<|E_a [] an (I (↑i:Int)) [] ?_ rfl)) (fun k0=>(zAl<|zAg<|S_a [(1,.v (I (↑(i+1):Int)))] (ap (wrN i) an)<|zAd 1<|zAa ?_))
  ·rw [zBV (i:=i) yJ (fun j hj=>by rw [← zAB (d:=default)];exact ha j hj) (by rw [← zAB (d:=default)];first | assumption | exact decide_eq_true ‹_›)]
  ·refine ⟨i+1,⟨by omega,fun j hj=>?_⟩,by omega,by kernel_rfl,by kernel_rfl⟩
   rcases Nat.lt_succ_iff_lt_or_eq.1 hj with h | rfl
   ·exact ha j h
   ·first | assumption | exact decide_eq_false ‹_› | (simp only [Bool.not_eq_false',decide_eq_true_eq];assumption)
 ·refine zAc 1<|zAa<|zAh<|zA1 ((↑i:Int)<(↑l.length:Int)) (by omega)<|zAE 0<|zAc 1<|zAa<|zAm<|E_a [] an (I (-1)) [] ?_ rfl
  rw [zCi fun j hj=>by rw [← zAB (d:=default)];exact ha j (by omega)]
theorem f116_1 (n:Nw) (cs:List (Int×Int)) (f:Int) (ho:NwOk n) (l:List (Int×Int)) (hl:l.length<4294967296) (hr:∀ x∈l,(fun z:Int×Int=>0≤z.2∧z.2<n.n.length) x):FG 116 [.own 2 (l.map prV),.func 119 [] [.ref (zDP n cs),.ref (I f)]] (.own 2 ((l.filter fun x => !(decide ((zAj n).getD x.2.toNat 0≠f))).map prV)):=by
 have h1:=zTb (fun x=>decide ((zAj n).getD x.2.toNat 0≠f)) l
 have uC:=f57_1 n cs f ho l hl hr
 by_cases hm:zEL (fun x=>decide ((zAj n).getD x.2.toNat 0≠f)) l = -1
 ·rw [hm] at uC
  rw [h1.1 hm]
  refine zAf Try.f116 ?_
  refine zAc 1<|zAa<|zAc 2<|S_a [(3,.ob),(0,.v (prs l)),(3,.ret (I (-1)) [])] (ap (blz (List.map prV l))<|ap (frT prV l)<|ap uC an)<|zAd 1<|zAa<|zAh<|zAc 2<|zAa<|zBX<|zAc 1<|S_a [(2,.yes)] (ap ((by exact zBW (by simp<;>omega)):(Nat.beq 0 0&&(List.map prV l).length.beq (List.map prV l).length)=true) an)<|zAa<|zAm<|E_a [(1,.yes),(1,.v (PV.own 2 (List.map prV l)))] (ap (blz (List.map prV l))<|ap ((zA3 zAV):PV.own 2 (List.take (List.map prV l).length (List.drop 0 (List.map prV l)))=PV.own 2 (List.map prV l)) an) (PV.own 2 (List.map prV l)) [] rfl rfl
 ·obtain ⟨i0,jb,hil0,hf0⟩:=h1.2 hm
  rw [jb] at uC
  clear h1 hm
  refine zAf Try.f116 ?_
  refine zAc 1<|zAa<|zAc 2<|S_a [(3,.ob),(0,.v (prs l)),(3,.ret (I (↑i0:Int)) [])] (ap (blz (List.map prV l))<|ap (frT prV l)<|ap uC an)<|zAd 1<|zAa<|zAh<|zAc 2<|zAa<|zA4<|zAl<|zAh<|zAc 1<|S_a [(1,.v (I (↑(i0+1):Int)))] (ap (wrN i0) an)<|zAd 1<|zAa<|zAi 0 ?_
  refine zAu (fun (i,j,S)=>j≤l.length∧i<j∧S.length=l.length∧S.take i=(l.take j).filter (fun x => !(decide ((zAj n).getD x.2.toNat 0≠f)))∧∀ r,j≤r→S.getD r default=l.getD r default) (fun (i,j,S)=>[(0,.own 2 (S.map prV)),(5,I (i:Nat)),(6,I (j:Nat))]) (fun (_,j,_)=>l.length-j) (i0,i0+1,l) ⟨by omega,by omega,rfl,hf0,fun _ _=>rfl⟩ fun (i,j,S) ⟨hj,hij,hS,ht,hd⟩=>?_
  by_cases kA:j<l.length
  ·have gl:=zCe (d:=default) hr j kA
   have hx:=hd j (Nat.le_refl j)
   have yM:=zNM (fun x => !(decide ((zAj n).getD x.2.toNat 0≠f))) l j default kA
   rw [← hx] at yM gl
   clear uC
   have qz:=hd
   clear hd hx
   refine zAh<|zAc 2<|S_a [(0,.n S.length)] (ap (lnS prV S) an)<|zAd 1<|zAa<|zA0 ((↑j:Int)<(↑S.length:Int)) (by omega)<|zAl<|zAh<|zAi 1<|zAc 2<|S_a [(2,.ob),(1,.n j)] (ap ((by exact zAr (by simp only [List.length_map,zzLn]<;>omega)):decide (j<(List.map prV S).length)=true)<|ap ((by simp):some (0+j)=some j) an)<|S_a [(0,.cs true ([I (S.getD j default).fst,I (S.getD j default).snd]))] (ap (zDu (q:=PV.own 2 (List.map prV S)) (xs:=List.map prV S) (x:=PV.agg [I (S.getD j default).fst,I (S.getD j default).snd]) rfl (zB0 default (by omega)):zAv 0 (PV.own 2 (List.map prV S)) [] j 0 Try.prog.types[42].size=some (true,[I (S.getD j default).fst,I (S.getD j default).snd])) an)<|zAd 2<|zAa<|zAc 2<|S_a [(8,.ret (PV.bool (decide ((zAj n).getD (S.getD j default).snd.toNat 0≠f))) [])] (ap (f119 n cs f (by omega) (S.getD j default) (by omega)) an)<|zAd 1<|zAa<|zDE ((zAj n).getD (S.getD j default).snd.toNat 0≠f) (fun k0=>(zAc 3<|S_a [(2,.ob),(1,.n i)] (ap ((by exact zAr (by simp only [List.length_map,zzLn]<;>omega)):decide (i<(List.map prV S).length)=true)<|ap ((by simp):some (0+i)=some i) an)<|S_a [(8,.root (PV.own 2 (List.map prV (S.set i (S.getD j default)))) true)] (ap (zUY (zB0 default (by omega)) zKL:zBF (PV.own 2 (List.map prV S)) [] i 0 (PV.agg [I (S.getD j default).fst,I (S.getD j default).snd]).cells=some (PV.own 2 (List.map prV (S.set i (S.getD j default))))∧zAJ (PV.own 2 (List.map prV S)) (PV.own 2 (List.map prV (S.set i (S.getD j default)))) []=true) an)<|zAa<|zAg<|zAd 1<|S_a [(1,.v (I (↑(i+1):Int)))] (ap (wrN i) an)<|zAd 1<|zAa<|zAg<|zAd 1<|S_a [(1,.v (I (↑(j+1):Int)))] (ap (wrN j) an)<|zAd 1<|zAa ?_)) (fun k0=>(zAl<|zAg<|zAd 1<|S_a [(1,.v (I (↑(j+1):Int)))] (ap (wrN j) an)<|zAd 1<|zAa ?_))
   ·have hb:((fun x => !(decide ((zAj n).getD x.2.toNat 0≠f))) (S.getD j default))=true:=by first | assumption | (simp only [Bool.not_eq_true',decide_eq_false_iff_not];assumption)
    rw [if_pos hb] at yM
    refine ⟨(i+1,j+1,S.set i (S.getD j default)),⟨by omega,by omega,by simpa using hS,?_,fun r qW=>?_⟩,by simp only;omega,by kernel_rfl,by kernel_rfl⟩
    ·rw [yM,← ht,zK8 (by omega)]
    ·rw [zNr (by omega)];exact qz r (by omega)
   ·have hb:((fun x => !(decide ((zAj n).getD x.2.toNat 0≠f))) (S.getD j default))=false:=by first | assumption | (simp only [Bool.not_eq_false',decide_eq_true_eq];assumption)
    rw [if_neg (fun h=>Bool.noConfusion (hb.symm.trans h))] at yM
    exact ⟨(i,j+1,S),⟨by omega,by omega,hS,by rw [yM,ht],fun r qW=>qz r (by omega)⟩,by simp only;omega,by kernel_rfl,by kernel_rfl⟩
  ·refine zAh<|zAc 2<|S_a [(0,.n S.length)] (ap (lnS prV S) an)<|zAd 1<|zAa<|zA1 ((↑j:Int)<(↑S.length:Int)) (by omega)<|zAE 0<|zAc 2<|S_a [(3,.ob),(0,.yes),(0,.yes),(0,.v (PV.bor 0 [] 2 i (S.length-i)))] (ap ((by exact zBx (by simp only [List.length_map,zzLn,zBe]<;>omega)):i.ble (List.map prV S).length=true)<|ap ((by exact zBx (by simp only [List.length_map,zzLn,zBe]<;>omega)):(List.map prV S).length.ble (List.map prV S).length=true)<|ap ((by simp<;>omega):(i.beq 0||i.blt (List.map prV S).length)=true)<|ap ((by simp):PV.bor 0 [] 2 (0+i) ((List.map prV S).length-i)=PV.bor 0 [] 2 i (S.length-i)) an)<|zQz (g:=prV) (fun q=>q) 0 2 i (S.length-i) S ((0,0)) (by first | omega | (simp<;>omega)) ⟨rfl,rfl⟩ (fun _=>(by first | exact zGL | exact ⟨rfl,rfl,rfl,rfl,Nat.le_refl _,rfl⟩)) zOj.nil (zAa<|zAc 2<|S_a [(4,.yes)] (ap ((by exact zBx (by simp<;>omega)):i.ble (List.map prV (List.take i S++List.replicate (S.length-i) (0,0)++List.drop (i+(S.length-i)) S)).length=true) an)<|zAd 1<|zAa<|zAm<|E_a [(1,.yes),(1,.v (PV.own 2 (List.map prV (List.take i (List.take i S++List.replicate (S.length-i) (0,0)++List.drop (i+(S.length-i)) S)))))] (ap ((by exact zBx (by simp<;>omega)):(0+((↑i:Int).toNat-0)).ble (List.map prV (List.take i S++List.replicate (S.length-i) (0,0)++List.drop (i+(S.length-i)) S)).length=true)<|ap ((by simp):PV.own 2 (List.take i (List.drop 0 (List.map prV (List.take i S++List.replicate (S.length-i) (0,0)++List.drop (i+(S.length-i)) S))))=PV.own 2 (List.map prV (List.take i (List.take i S++List.replicate (S.length-i) (0,0)++List.drop (i+(S.length-i)) S)))) an) (PV.own 2 (List.map prV (List.take i (List.take i S++List.replicate (S.length-i) (0,0)++List.drop (i+(S.length-i)) S)))) [] ?_ rfl)
   rw [List.take_of_length_le (Nat.le_of_not_lt kA)] at ht
   rw [← ht,List.append_assoc,List.take_append_of_le_length (by rw [List.length_take];omega),List.take_take,Nat.min_self]
def ofL (n:Nw) (f:Int) (l:List (Int×Int)):List (Int×Int):=l.filter fun x => !decide ((zAj n).getD x.2.toNat 0≠f)
theorem f91 (n:Nw) (cs l:List (Int×Int)) (f:Int) (ho:NwOk n) (hl:l.length≤1000) (hr:∀ g∈l,(0≤g.1∧g.1<n.h)∧(0≤g.2∧g.2<n.n.length)):FG 91 [zDP n cs,prs l,I f] (.own 2 ((ofL n f l).map prV)):=by
 have h1:=f116_1 n cs f ho l (by omega) fun x hx=>(hr x hx).2
 refine zAf Try.f91 ?_
 refine zAc 3<|zAa<|zAc 1<|S_a [(6,.ret (PV.own 2 (List.map prV l)) [])] (ap (f117 l (by omega)) an)<|zAd 1<|S_a [(3,.ob),(1,.v (PV.own 2 (List.map prV l))),(14,.ret (PV.own 2 (List.map prV (List.filter (fun x => !decide ((zAj n).getD x.snd.toNat 0≠f)) l))) []),(1,.yes)] (ap ((by exact zBx (by simp only [List.length_map,zzLn,zBe]<;>omega)):(List.map prV l).length.ble (List.map prV l).length=true)<|ap ((zA3 zAV):PV.own 2 (List.take (List.map prV l).length (List.drop 0 (List.map prV l)))=PV.own 2 (List.map prV l))<|ap h1<|ap ((by exact zFy _):(PV.own 2 (List.map prV (List.filter (fun x => !decide ((zAj n).getD x.snd.toNat 0≠f)) l))).free=true) an)<|zAd 1<|zAa<|zAm<|E_a [(1,.yes),(1,.v (PV.own 2 (List.map prV (List.filter (fun x => !decide ((zAj n).getD x.snd.toNat 0≠f)) l))))] (ap (blz (List.map prV (List.filter (fun x => !decide ((zAj n).getD x.snd.toNat 0≠f)) l)))<|ap ((zA3 zAV):PV.own 2 (List.take (List.map prV (List.filter (fun x => !decide ((zAj n).getD x.snd.toNat 0≠f)) l)).length (List.drop 0 (List.map prV (List.filter (fun x => !decide ((zAj n).getD x.snd.toNat 0≠f)) l))))=PV.own 2 (List.map prV (List.filter (fun x => !decide ((zAj n).getD x.snd.toNat 0≠f)) l))) an) (PV.own 2 (List.map prV (List.filter (fun x => !decide ((zAj n).getD x.snd.toNat 0≠f)) l))) [] rfl rfl
end Go.Eng
set_option maxRecDepth 10000
set_option maxHeartbeats 4000000
namespace Go.Eng
open Go Go.Proofs
def zVA (n:Nw) (cs:List (Int×Int)) (e:Int) (st:List Int):Int:=if zQq n cs e=0 then if (!st.all fun x=>inB x 0 (n.s.length-1))=true then 1 else if st.Nodup then 0 else 5 else zQq n cs e
structure OffOk (n:Nw) (cs:List (Int×Int)) (e:Int) (st:List Int):Prop where
 err:zVA n cs e st=0
 ev:EvOk n cs e
 rng:∀ s∈st,0≤s∧s<n.s.length
 nd:st.Nodup
abbrev zXn (n:Nw) (cs:List (Int×Int)) (e:Int) (l:List (Int×Int)):PV := .func 113 [] [.ref (zDP n cs),.ref (prs l),.ref (I e)]
theorem f105_2 (n:Nw) (hb:n.s.length≤6) (x:Int):FG 105 [I x,.ref (.func 85 [nwV n] [])] (.bool (!(inB x 0 (n.s.length-1)))):=by
 refine zAf Try.f105 ?_
 refine zAc 1<|zAa<|zAc 2<|S_a [(8,.ret (PV.bool (inB x 0 ((↑n.s.length:Int)-1))) [])] (ap (f85 n x (by omega)) an)<|zAd 2<|zAa<|zAm<|E_a [] an (PV.bool !inB x 0 ((↑n.s.length:Int)-1)) [] rfl rfl
theorem f123_2 (n:Nw) (hb:n.s.length≤6) (l:List (Int)) (hl:l.length<4294967296):FG 123 [.sl (l.map I),.func 105 [] [.ref (.func 85 [nwV n] [])]] (I (zEL (fun x => !(inB x 0 (n.s.length-1))) l)):=by
 refine zAf Try.f123 ?_
 refine zAc 1<|zAa<|zAh<|zAc 1<|S_a [(0,.n l.length)] (ap (lnS I l) an)<|zAd 1<|zAa<|zAi 0 ?_
 refine zAu (fun i=>i≤l.length∧∀ j,j<i→(fun x => !(inB x 0 (n.s.length-1))) (l.getD j 0)=false) (fun i=>[(8,I (i:Nat))]) (fun i=>l.length-i) (0:Nat) (by simp) fun i ⟨hi,ha⟩=>?_
 refine zAc 1<|zAa<|zAh<|zCn ((↑i:Int)<(↑l.length:Int)) (fun k0=>(zAl<|zAh<|zAi 1<|zAc 2<|zAa<|zAc 3<|S_a [(2,.v (I (l.getD i 0)))] (ap (zB0 (0) (by omega):(List.map I l)[i]? = some (I (l.getD i 0))) an)<|zAd 1<|S_a [(7,.ret (PV.bool !inB (l.getD i 0) 0 ((↑n.s.length:Int)-1)) [])] (ap (f105_2 n (by omega) (l.getD i 0)) an)<|zAa<|zEu (!inB (l.getD i 0) 0 ((↑n.s.length:Int)-1)) (fun k1=>(zAc 2<|zAa<|zAm<|E_a [] an (I (↑i:Int)) [] ?_ rfl)) (fun k1=>(zAl<|zAg<|S_a [(1,.v (I (↑(i+1):Int)))] (ap (wrN i) an)<|zAd 1<|zAa ?_)))) (fun k0=>(zAE 0<|zAc 1<|zAa<|zAm<|E_a [] an (I (-1)) [] ?_ rfl))
 ·rw [zBV (i:=i) (by omega) (fun j hj=>by rw [← zAB (d:=0)];exact ha j hj) (by rw [← zAB (d:=0)];first | assumption | exact decide_eq_true ‹_› | (simp only [Bool.not_eq_true',decide_eq_false_iff_not];assumption))]
 ·refine ⟨i+1,⟨by omega,fun j hj=>?_⟩,by omega,by kernel_rfl,by kernel_rfl⟩
  rcases Nat.lt_succ_iff_lt_or_eq.1 hj with h | rfl
  ·exact ha j h
  ·first | assumption | exact decide_eq_false ‹_› | (simp only [Bool.not_eq_false',decide_eq_true_eq];first | assumption | (apply Decidable.of_not_not;assumption))
 ·rw [zCi fun j hj=>by rw [← zAB (d:=0)];exact ha j (by omega)]
theorem f104_2 (n:Nw) (hb:n.s.length≤6) (l:List (Int)) (hl:l.length<4294967296):FG 104 [.sl (l.map I),.func 105 [] [.ref (.func 85 [nwV n] [])]] (.bool (l.any (fun x => !(inB x 0 (n.s.length-1))))):=by
 refine zAf Try.f104 ?_
 refine zAc 1<|zAa<|zAc 2<|S_a [(7,.ret (I (zEL (fun x => !inB x 0 ((↑n.s.length:Int)-1)) l)) [])] (ap (f123_2 n (by omega) l (by omega)) an)<|zAd 2<|zAa<|zAm<|E_a [] an (PV.bool (decide (zEL (fun x => !inB x 0 ((↑n.s.length:Int)-1)) l≥0))) [] ?_ rfl
 rw [zD5]
theorem f68_2 (n:Nw) (hb:n.s.length≤6) (l:List (Int)) (hl:l.length<4294967296):FG 68 [.sl (l.map I),.func 85 [nwV n] []] (.bool (l.all (fun x=>inB x 0 (n.s.length-1)))):=by
 refine zAf Try.f68 ?_
 refine zAc 2<|zAa<|zAc 2<|S_a [(12,.ret (PV.bool (l.any fun x => !inB x 0 ((↑n.s.length:Int)-1))) [])] (ap (f104_2 n (by omega) l (by omega)) an)<|zAd 2<|zAa<|zAm<|E_a [] an (PV.bool !l.any fun x => !inB x 0 ((↑n.s.length:Int)-1)) [] ?_ rfl
 simp [List.not_any_eq_all_not]
theorem f89_1 (n:Nw) (cs:List (Int×Int)) (e:Int) (st:List Int) (ho:OffOk n cs e st) (yM:st.length<1000000):FG 89 [nwV n,prs cs,I e,zAF st] (.tup [zDP n cs,prs (zBU n (zBs n cs e.toNat)),.agg [zXn n cs e (zBU n (zBs n cs e.toNat))],I 0]):=by
 have uG:=ho.ev
 have hcr:=uG.cr
 have qa:=hcr.w
 have hn:=hcr.nw
 have he:=uG.ev
 have hs6:=hn.sl.2
 have hwl:=zC9 (n:=n) (cs:=cs) e.toNat
 have hgl:=zIS (w:=zBs n cs e.toNat) hn
 have hin:(!st.all fun x=>inB x 0 (n.s.length-1))=false:=by
  simp only [Bool.not_eq_false',List.all_eq_true]
  intro s hs;have:=ho.rng s hs
  simp only [inB,Bool.and_eq_true,decide_eq_true_eq];omega
 refine zAf Try.f89 ?_
 refine zAc 6<|zAa<|zAc 3<|S_a [(10,.ret (PV.tup [zDP n cs,I 0]) [])] (ap (f41_1 n cs e (by omega)) an)<|zAd 6<|zAa<|zAh<|zAi 0<|zAc 3<|zAa<|zA4<|zAc 3<|S_a [(7,.ret (PV.bool (st.all fun x=>inB x 0 ((↑n.s.length:Int)-1))) [])] (ap (f68_2 n (by omega) st (by omega)) an)<|zAd 2<|zAa<|zEu (!st.all fun x=>inB x 0 ((↑n.s.length:Int)-1)) (fun k0=>(zAc 5<|zAa<|zAm<|E_a [] an (PV.tup [PV.nilp,PV.sl [],PV.agg [PV.nilf],I 1]) [] ?_ rfl)) (fun k0=>(zAl<|zAh<|zAc 1<|S_a [(0,.n st.length)] (ap (lnS I st) an)<|zAd 1<|zAa<|zAi 1 ?_))
 ·rw [hin] at k0;cases k0
 ·refine zAu (fun i=>i≤st.length) (fun (i:Nat)=>[(38,I (i:Nat))]) (fun i=>st.length-i) (0:Nat) (by omega) fun i hi=>?_
  by_cases yJ:i<st.length
  ·have jp:has (st.take i) (st.getD i 0)=false:=by
    rw [zUP,decide_eq_false_iff_not]
    intro hm
    have yW:=ho.nd
    rw [← List.take_append_drop i st,List.nodup_append] at yW
    refine yW.2.2 _ hm _ ?_ rfl
    rw [List.drop_eq_getElem_cons yJ,zAB yJ];exact List.mem_cons_self
   refine zAc 1<|zAa<|zAh<|zA0 ((↑i:Int)<(↑st.length:Int)) (by omega)<|zAl<|zAh<|zAi 2<|zAc 1<|S_a [(2,.v (I (st.getD i 0)))] (ap (zB0 (0) (by omega):(List.map I st)[i]? = some (I (st.getD i 0))) an)<|zAd 3<|zAa<|zAc 2<|S_a [(3,.ob),(0,.ob),(0,.v (zAF (List.take i st)))] (ap ((by exact zBx (by simp only [List.length_map,zzLn,zBe]<;>omega)):i.ble (List.map I st).length=true)<|ap ((by exact all_map _):((List.map I st).all fun x=>x.cells.length.beq ((fun x=>x.size) Try.prog.types[3]))=true)<|ap ((by simp):PV.sl (List.take i (List.drop 0 (List.map I st)))=zAF (List.take i st)) an)<|zAd 1<|S_a [(8,.ret (PV.bool (has (List.take i st) (st.getD i 0))) [])] (ap (f20 (List.take i st) (st.getD i 0) (by first | omega | (simp<;>omega))) an)<|zAa<|zEu (has (List.take i st) (st.getD i 0)) (fun k1=>(zAc 5<|zAa<|zAm<|E_a [] an (PV.tup [PV.nilp,PV.sl [],PV.agg [PV.nilf],I 5]) [] ?_ rfl)) (fun k1=>(zAl<|zAg<|S_a [(1,.v (I (↑(i+1):Int)))] (ap (wrN i) an)<|zAd 1<|zAa ?_))
   ·rw [jp] at k1;cases k1
   ·exact ⟨i+1,by omega,by omega,by kernel_rfl,by kernel_rfl⟩
  ·refine zAc 1<|zAa<|zAh<|zA1 ((↑i:Int)<(↑st.length:Int)) (by omega)<|zAE 1<|zAc 3<|S_a [(7,.ret (hdV (zBs n cs e.toNat)) [])] (ap (f43 n cs e (by omega) (by omega)) an)<|S_a [(7,.ret (PV.own 2 (List.map prV (zBU n (zBs n cs e.toNat)))) [])] (ap (f42 n cs (zBs n cs e.toNat) (by omega) (by omega)) an)<|zAd 1<|S_a [(3,.v (prs (zBU n (zBs n cs e.toNat))))] (ap ((zQo (zBQ _)):PV.sl (zAC (List.map prV (zBU n (zBs n cs e.toNat))))=prs (zBU n (zBs n cs e.toNat))) an)<|zAa<|zAc 8<|zAa<|zAm<|E_a [] an (PV.tup [(PV.agg (I n.h::prs n.l::PV.sl (List.map ntV n.n)::PV.sl (List.map zAF n.s)::prs cs::PV.map (List.map zBq (List.map pr2 n.l))::(zAq (zAj n) 8++zAq (zAU n) 8))).ref,prs (zBU n (zBs n cs e.toNat)),PV.agg [PV.func 113 [] [(PV.agg (I n.h::prs n.l::PV.sl (List.map ntV n.n)::PV.sl (List.map zAF n.s)::prs cs::PV.map (List.map zBq (List.map pr2 n.l))::(zAq (zAj n) 8++zAq (zAU n) 8))).ref.ref,(prs (zBU n (zBs n cs e.toNat))).ref,(I e).ref]],I 0]) [] rfl rfl
theorem f113 (n:Nw) (cs l:List (Int×Int)) (e:Int) (c:Int×Int) (ho:CrW n cs) (hl:cs.length≤16) (he:0≤e∧e≤1000) (wo:l.length≤1000) (hm:∀ g∈l,(0≤g.1∧g.1<n.h)∧(0≤g.2∧g.2<n.n.length)) (hc:(0≤c.1∧c.1<n.n.length)∧(0≤c.2∧c.2<n.s.length)):FG 113 [prV c,.ref (zDP n cs),.ref (prs l),.ref (I e)] (.sl ((zIk n (zBs n (cs++[c]) e.toNat) l).map prV)):=by
 refine zAf Try.f113 ?_
 refine zAc 2<|zAa<|zAc 4<|S_a [(11,.ret (PV.own 2 (List.map prV (zIk n (zBs n (cs++[c]) e.toNat) l))) [])] (ap (f45 n cs l e c (by omega) (by omega) (by omega) (by omega) (by omega) (by omega)) an)<|zAd 1<|zAa<|zAm<|E_a [(1,.envv ([(4,(PV.agg [I c.fst,I c.snd]).box),(5,prs (zIk n (zBs n (cs++[c]) e.toNat) l))]) (prs (zIk n (zBs n (cs++[c]) e.toNat) l)))] (ap (And.intro (Eq.trans (by kernel_rfl:Env.frz [(4,(PV.agg [I c.fst,I c.snd]).box),(5,PV.own 2 (List.map prV (zIk n (zBs n (cs++[c]) e.toNat) l)))] 5 []=some [(4,(PV.agg [I c.fst,I c.snd]).box),(5,PV.sl (zAC (List.map prV (zIk n (zBs n (cs++[c]) e.toNat) l))))]) ((by simp only [show zAC (List.map prV (zIk n (zBs n (cs++[c]) e.toNat) l))=List.map prV (zIk n (zBs n (cs++[c]) e.toNat) l) from (by first | exact zBQ _ | exact zC1 _ | exact zCj _ | exact zCT (zC1 _) | exact zCT (zCj _) | exact zKt (by simp [zEM]) (zBQ _))]):some [(4,(PV.agg [I c.fst,I c.snd]).box),(5,PV.sl (zAC (List.map prV (zIk n (zBs n (cs++[c]) e.toNat) l))))]=some [(4,(PV.agg [I c.fst,I c.snd]).box),(5,prs (zIk n (zBs n (cs++[c]) e.toNat) l))])) (zUJ (by first | exact zBQ _ | exact zC1 _ | exact zCj _):PV.mapW (inl 5 [] (PV.own 2 (List.map prV (zIk n (zBs n (cs++[c]) e.toNat) l)))) (PV.bor 5 [] 2 0 (List.map prV (zIk n (zBs n (cs++[c]) e.toNat) l)).length)=prs (zIk n (zBs n (cs++[c]) e.toNat) l))) an) (prs (zIk n (zBs n (cs++[c]) e.toNat) l)) [] rfl rfl
end Go.Eng
set_option maxRecDepth 10000
set_option maxHeartbeats 4000000
namespace Go.Eng
open Go Go.Proofs
def zDR (n:Nw) (cs:List (Int×Int)):Bool:=decide ((n.l.length:Int)>20)||(decide ((n.n.length:Int)>12)||(decide ((n.s.length:Int)>10)||(decide ((cs.length:Int)>24)||n.s.any fun l=>decide ((l.length:Int)>14))))
theorem f26 (n:Nw) (cs:List (Int×Int)):FG 26 [nwV n,prs cs] (.bool (zDR n cs)):=by
 refine zAf Try.f26 ?_
 refine zAc 2<|zAa<|zAh<|zAc 2<|S_a [(0,.n n.l.length)] (ap (lnS prV n.l) an)<|zAd 2<|zEY 11 ((↑n.l.length:Int)>20) (fun k0=>(zAd 16<|zAa<|zBX<|zAc 1<|zAa<|zAm<|E_a [] an (PV.bool true) [] ?_ rfl)) (fun k0=>(zAd 2<|S_a [(0,.n n.n.length)] (ap (lnS ntV n.n) an)<|zAd 3<|zEY 17 ((↑n.n.length:Int)>12) (fun k1=>(zAd 10<|zAa<|zBX<|zAc 1<|zAa<|zAm<|E_a [] an (PV.bool true) [] ?_ rfl)) (fun k1=>(zAd 2<|S_a [(0,.n n.s.length)] (ap (lnS zAF n.s) an)<|zAd 3<|zEY 23 ((↑n.s.length:Int)>10) (fun k2=>(zAd 4<|zAa<|zBX<|zAc 1<|zAa<|zAm<|E_a [] an (PV.bool true) [] ?_ rfl)) (fun k2=>(zAd 1<|S_a [(0,.n cs.length)] (ap (lnS prV cs) an)<|zAd 2<|zAa<|zCn ((↑cs.length:Int)>24) (fun k3=>(zAc 1<|zAa<|zAm<|E_a [] an (PV.bool true) [] ?_ rfl)) (fun k3=>(zAl<|zAh<|zAc 2<|S_a [(0,.n n.s.length)] (ap (lnS zAF n.s) an)<|zAd 1<|zAa<|zAi 0 ?_))))))))
 ·simp only [zDR,decide_eq_true k0,Bool.true_or]
 ·simp only [zDR,decide_eq_true k1,Bool.true_or,Bool.or_true]
 ·simp only [zDR,decide_eq_true k2,Bool.true_or,Bool.or_true]
 ·simp only [zDR,decide_eq_true k3,Bool.true_or,Bool.or_true]
 have e:zDR n cs=n.s.any fun l=>decide ((l.length:Int)>14):=by
  simp only [zDR,decide_eq_false k0,decide_eq_false k1,decide_eq_false k2,decide_eq_false k3,Bool.false_or]
 rw [e]
 refine zAu (fun i=>i≤n.s.length∧∀ j,j<i→decide (((n.s.getD j []).length:Int)>14)=false) (fun (i:Nat)=>[(31,I (i:Nat))]) (fun i=>n.s.length-i) (0:Nat) ⟨Nat.zero_le _,fun j hj=>absurd hj (Nat.not_lt_zero j)⟩ fun i ⟨hi,ha⟩=>?_
 by_cases yJ:i<n.s.length
 ·have gN:decide (((n.s.getD i []).length:Int)>14)=true→(n.s.any fun l=>decide ((l.length:Int)>14))=true:=fun h=>by
   rw [zAB yJ] at h
   exact List.any_eq_true.2 ⟨_,List.getElem_mem yJ,h⟩
  have j8:decide (((n.s.getD i []).length:Int)>14)=false→∀ j,j<i+1→decide (((n.s.getD j []).length:Int)>14)=false:=fun h j hj=>by
   rcases Nat.lt_succ_iff_lt_or_eq.1 hj with h2 | rfl
   ·exact ha j h2
   ·exact h
  clear ha
  refine zAc 1<|zAa<|zAh<|zA0 ((↑i:Int)<(↑n.s.length:Int)) (by omega)<|zAl<|zAh<|zAi 1<|zAh<|zAg<|S_a [(2,.v (zAF (n.s.getD i [])))] (ap (zB0 [] (by omega):(List.map zAF n.s)[i]? = some (zAF (n.s.getD i []))) an)<|zAd 2<|zAa<|zAc 1<|S_a [(0,.n ((n.s.getD i []).length))] (ap (lnS I (n.s.getD i [])) an)<|zAd 1<|zAa<|zCn ((↑(n.s.getD i []).length:Int)>14) (fun k4=>(zAc 1<|zAa<|zAm<|E_a [] an (PV.bool true) [] ?_ rfl)) (fun k4=>(zAl<|zAg<|S_a [(1,.v (I (↑(i+1):Int)))] (ap (wrN i) an)<|zAd 1<|zAa ?_))
  ·rw [gN (decide_eq_true k4)]
  ·exact ⟨i+1,⟨by omega,j8 (decide_eq_false k4)⟩,by omega,by kernel_rfl,by kernel_rfl⟩
 ·have hx:(n.s.any fun l=>decide ((l.length:Int)>14))=false:=by
   rw [List.any_eq_false]
   intro x hx
   obtain ⟨j,hj,rfl⟩:=List.getElem_of_mem hx
   have:=ha j (by omega)
   rw [zAB hj] at this
   rw [this];simp
  rw [hx]
  clear ha
  refine zAc 1<|zAa<|zAh<|zA1 ((↑i:Int)<(↑n.s.length:Int)) (by omega)<|zAE 0<|zAc 1<|zAa<|zAm<|E_a [] an (PV.bool false) [] rfl rfl
theorem f27 (n:Nw) (hs:Small n):FG 27 [nwV n] (nwO n):=by
 have h1:=hs.hl
 have h2:=hs.hn
 have h3:=hs.hs
 have h4:=hs.hr
 refine zAf Try.f27 ?_
 refine zAc 2<|zAa<|zAc 4<|S_a [(6,.ret (PV.own 2 (List.map prV n.l)) [])] (ap (f60 n.l (by omega)) an)<|zAd 2<|S_a [(6,.ret (PV.own 2 (List.map ntV n.n)) [])] (ap (f61 n.n (by omega)) an)<|zAd 2<|S_a [(6,.ret (PV.own 1 (List.map zD0 n.s)) [])] (ap (f62 n.s (by omega) (by omega)) an)<|zAd 2<|zAa<|zAm<|E_a [(4,.yes),(1,.v (PV.own 2 (List.map prV n.l))),(1,.yes),(1,.v (PV.own 2 (List.map ntV n.n))),(1,.yes),(1,.v (PV.own 1 (List.map zD0 n.s)))] (ap (blz (List.map prV n.l))<|ap ((zA3 zAV):PV.own 2 (List.take (List.map prV n.l).length (List.drop 0 (List.map prV n.l)))=PV.own 2 (List.map prV n.l))<|ap (blz (List.map ntV n.n))<|ap ((zA3 zAV):PV.own 2 (List.take (List.map ntV n.n).length (List.drop 0 (List.map ntV n.n)))=PV.own 2 (List.map ntV n.n))<|ap (blz (List.map zD0 n.s))<|ap ((zA3 zAV):PV.own 1 (List.take (List.map zD0 n.s).length (List.drop 0 (List.map zD0 n.s)))=PV.own 1 (List.map zD0 n.s)) an) (PV.agg [I n.h,PV.own 2 (List.map prV n.l),PV.own 2 (List.map ntV n.n),PV.own 1 (List.map zD0 n.s)]) [] rfl rfl
theorem f35 (a:Nw) (hs:Small a):FG 35 [nwV a,nwV a] (.bool true):=by
 have h1:=hs.hl
 have h2:=hs.hn
 have h3:=hs.hs
 have h4:=hs.hr
 refine zAf Try.f35 ?_
 refine zAc 3<|zAa<|zAc 6<|zMA 10 (a.h=a.h) (by omega) (zAd 4<|S_a [(8,.ret (PV.bool (decide (a.l=a.l))) [])] (ap (f76 a.l a.l (by omega)) an)<|zAd 2<|zMA 17 (a.l=a.l) (by (simp;done)) (zAd 4<|S_a [(8,.ret (PV.bool (decide (a.n=a.n))) [])] (ap (f77 a.n a.n (by omega)) an)<|zAd 2<|zMA 24 (a.n=a.n) (by (simp;done)) (zAd 4<|S_a [(8,.ret (PV.bool (decide (a.s=a.s))) [])] (ap (f78 a.s a.s (by omega) ?_) an)<|zAd 2<|zAa<|zAm<|E_a [] an (PV.bool (decide (a.s=a.s))) [] (by simp [*]) rfl)))
 exact fun r hr=>by have:=h4 r hr;omega
theorem f28 (n:Nw) (hs:Small n):FG 28 [nwV n] (nwO n):=by
 have h1:=hs.hl
 have h2:=hs.hn
 have h3:=hs.hs
 have h4:=hs.hr
 refine zAf Try.f28 ?_
 refine zAc 2<|zAa<|zAc 4<|S_a [(6,.ret (PV.own 2 (List.map prV n.l)) [])] (ap (f60 n.l (by omega)) an)<|zAd 2<|S_a [(6,.ret (PV.own 1 (List.map zD0 n.s)) [])] (ap (f62 n.s (by omega) (by omega)) an)<|zAd 3<|zAa<|zAh<|zAc 2<|S_a [(0,.n n.n.length)] (ap (lnS ntV n.n) an)<|zAd 1<|zAa<|zAi 0 ?_
 refine zAu (fun (i,q)=>i≤n.n.length∧q=n.n.take i) (fun (i,q)=>[(3,.box (.agg [I n.h,.own 2 (n.l.map prV),.own 2 (q.map ntV),.own 1 (n.s.map zD0)])),(18,I (i:Nat))]) (fun (i,_)=>n.n.length-i) ((0:Nat),([]:List (Int×Bool))) ⟨Nat.zero_le _,rfl⟩ fun (i,q) ⟨hi,hq⟩=>?_
 have gK:q.length≤i:=by rw [hq,List.length_take];omega
 by_cases yJ:i<n.n.length
 ·have jV:=zCo (d:=default) yJ
  rw [← hq] at jV
  clear hq
  refine zAc 1<|zAa<|zAh<|zA0 ((↑i:Int)<(↑n.n.length:Int)) (by omega)<|zAl<|zAh<|zAi 1<|zAh<|zAg<|S_a [(2,.v (PV.agg [I (n.n.getD i default).fst,PV.bool (n.n.getD i default).snd]))] (ap (zB0 default (by omega):(List.map ntV n.n)[i]? = some (PV.agg [I (n.n.getD i default).fst,PV.bool (n.n.getD i default).snd])) an)<|zAd 3<|zAa<|zAg<|zAd 1<|S_a [(1,.v (PV.bor 3 [(0,2)] 2 0 q.length))] (ap ((by simp):PV.bor 3 [(0,2)] 2 0 (List.map ntV q).length=PV.bor 3 [(0,2)] 2 0 q.length) an)<|zAd 2<|S_a [(4,.ob),(0,.ob),(0,.yes),(2,.v (PV.own 2 (List.map ntV (q++[n.n.getD i default]))))] (ap ((by exact zBx (by simp only [List.length_map,zzLn,zBe]<;>omega)):(0+q.length).ble (List.map ntV q).length=true)<|ap ((by exact zBx (by simp only [List.length_map,zzLn,zBe]<;>omega)):((List.map ntV q).length + [PV.agg [I (n.n.getD i default).fst,PV.bool (n.n.getD i default).snd]].length).ble zBe=true)<|ap ((by exact zBW (by simp<;>omega)):(0+q.length).beq (List.map ntV q).length=true)<|ap ((zA3 (zDx (by kernel_rfl))):PV.own 2 (List.map ntV q++[PV.agg [I (n.n.getD i default).fst,PV.bool (n.n.getD i default).snd]])=PV.own 2 (List.map ntV (q++[n.n.getD i default]))) an)<|zAd 2<|zAa<|zAg<|S_a [(1,.v (I (↑(i+1):Int)))] (ap (wrN i) an)<|zAd 1<|zAa ?_
  exact ⟨(i+1,q++[n.n.getD i default]),⟨by omega,jV.symm⟩,by simp only;omega,by kernel_rfl,by kernel_rfl⟩
 ·have v4:q=n.n:=by rw [hq,List.take_of_length_le (by omega)]
  clear hq
  subst v4
  refine zAc 1<|zAa<|zAh<|zA1 ((↑i:Int)<(↑n.n.length:Int)) (by omega)<|zAE 0<|zAc 1<|S_a [(4,.yes),(2,.yes),(2,.yes)] (ap ((by exact zBW (by simp<;>omega)):(Nat.beq 0 0&&(List.map prV n.l).length.beq (List.map prV n.l).length)=true)<|ap ((by exact zBW (by simp<;>omega)):(Nat.beq 0 0&&(List.map ntV n.n).length.beq (List.map ntV n.n).length)=true)<|ap ((by exact zBW (by simp<;>omega)):(Nat.beq 0 0&&(List.map zD0 n.s).length.beq (List.map zD0 n.s).length)=true) an)<|zAa<|zAm<|E_a [(4,.yes),(1,.v (PV.own 2 (List.map prV n.l))),(1,.yes),(1,.v (PV.own 2 (List.map ntV n.n))),(1,.yes),(1,.v (PV.own 1 (List.map zD0 n.s)))] (ap (blz (List.map prV n.l))<|ap ((zA3 zAV):PV.own 2 (List.take (List.map prV n.l).length (List.drop 0 (List.map prV n.l)))=PV.own 2 (List.map prV n.l))<|ap (blz (List.map ntV n.n))<|ap ((zA3 zAV):PV.own 2 (List.take (List.map ntV n.n).length (List.drop 0 (List.map ntV n.n)))=PV.own 2 (List.map ntV n.n))<|ap (blz (List.map zD0 n.s))<|ap ((zA3 zAV):PV.own 1 (List.take (List.map zD0 n.s).length (List.drop 0 (List.map zD0 n.s)))=PV.own 1 (List.map zD0 n.s)) an) (PV.agg [I n.h,PV.own 2 (List.map prV n.l),PV.own 2 (List.map ntV n.n),PV.own 1 (List.map zD0 n.s)]) [] rfl rfl
end Go.Eng
set_option maxRecDepth 100000
set_option maxHeartbeats 4000000
namespace Go.Eng
open Go Go.Proofs
def zDO:Nw:=⟨4,[(0,1),(1,2),(2,3)],[(-1,false),(0,true)],[[0],[0,3]]⟩
def zFj:List (Int×Int):=[(0,1),(1,0)]
def zJB:List (Int×Int):=[(2,0),(3,0)]
theorem zTJ:NwOk zDO:=zTf (by decide +kernel)
theorem zJ2:CrOk zDO zFj:=zVy (by decide +kernel)
theorem zOc:zBU zDO (zBs zDO zFj (1:Int).toNat)=zJB:=by decide +kernel
theorem zUp:OffOk zDO zFj 1 [0,1]:=⟨by decide +kernel,zT1 (by decide +kernel),by decide,by decide⟩
theorem zWo:zIk zDO (zBs zDO (zFj++[(1,0)]) (1:Int).toNat) zJB=[]:=by decide +kernel
theorem zVQ:zIk zDO (zBs zDO (zFj++[(1,1)]) (1:Int).toNat) zJB=zJB:=by decide +kernel
def zYV:List (PV×PV):=[(.agg [I 1,I 0],.sl []),(.agg [I 1,I 1],.sl (zJB.map prV))]
abbrev zQP:List PV:=[.addr 50000000 [] 0 0 none,.addr 50000001 [] 0 0 none,.addr 50000002 [] 0 0 none,.addr 50000003 [] 0 0 none,.addr 50000004 [] 0 0 none]
abbrev zQp (b:Bool) (l:List PV):List PV:=[.box (.bool b),.box (.own 2 l),.box (.own 2 [prV (1,0),prV (1,1)]),.box (.omap [(prV (1,0),.sl []),(prV (1,1),prs zJB)]),.box (.func 114 [] zQP)]
theorem zOY:zDi Try.prog zGK 114 (.nils 0::prs zJB::zQP) (zQp false []) (.tup []) (zQp true [prV (1,1)]):=zDi.closed 60
theorem zRJ:FG 90 [zDP zDO zFj,.agg [zXn zDO zFj 1 zJB],prs zJB,I 0,zAF [0,1]] (.tup [.own 2 [.agg [I 1,I 1]],.bool true]):=by
 have h0:FG 113 [.agg [I 1,I 0],.ref (zDP zDO zFj),.ref (prs zJB),.ref (I 1)] (.sl []):=by
  have:=f113 zDO zFj zJB 1 (1,0) zJ2.w (by decide) (by decide) (by decide) (by decide) (by decide)
  rw [zWo] at this;exact this
 have h1:FG 113 [.agg [I 1,I 1],.ref (zDP zDO zFj),.ref (prs zJB),.ref (I 1)] (.sl (zJB.map prV)):=by
  have:=f113 zDO zFj zJB 1 (1,1) zJ2.w (by decide) (by decide) (by decide) (by decide) (by decide)
  rw [zVQ] at this;exact this
 refine zAf Try.f90 ?_
 refine zAc 3<|zAa<|zAc 3<|zAa<|zAc 1<|zAa<|zAh<|zAc 1<|zAd 1<|zAd 1<|zAa<|zAi 0 ?_
 refine zAu (fun j=>j≤2) (fun (j:Nat)=>[(12,.box (.omap (zYV.take j))),(13,.box (.own 2 (([(1,0),(1,1)]:List (Int×Int)).take j |>.map prV))),(23,I (j:Nat))]) (fun j=>2-j) (0:Nat) (by omega) fun j hj=>?_
 have hj3:j=0∨j=1∨j=2:=by omega
 rcases hj3 with e | e | e
 ·subst e
  refine zAc 1<|zAa<|zAh<|zBX<|zAl<|zAh<|zAi 1<|zAc 3<|zAa<|zAc 10<|zAa<|zAg<|zAd 2<|zAd 1<|zAd 6<|S_a [(9,.ret (PV.sl []) [])] (ap h0 an)<|zAd 4<|zAa<|zAg<|zAd 2<|zAa ?_
  exact ⟨1,by omega,by omega,by kernel_rfl,by kernel_rfl⟩
 ·subst e
  refine zAc 1<|zAa<|zAh<|zBX<|zAl<|zAh<|zAi 1<|zAc 3<|zAa<|zAc 10<|zAa<|zAg<|zAd 2<|zAd 1<|zAd 6<|S_a [(9,.ret (prs zJB) [])] (ap h1 an)<|zAd 4<|zAa<|zAg<|zAd 2<|zAa ?_
  exact ⟨2,by omega,by omega,by kernel_rfl,by kernel_rfl⟩
 ·subst e
  have y8:=zOY
  refine zAc 1<|zAa<|zAh<|zA4<|zAE 0<|zAc 1<|zAa<|zAc 2<|zAa<|zAc 1<|zAa<|zAc 2<|zAa<|zAc 2<|S_a [(8,.ret (PV.tup []) (zQp true [prV (1,1)]))] (ap y8 an)<|zAa<|zAc 1<|zAd 1<|zAd 1<|zAd 1<|zAa<|zAm<|E_a [] an (PV.tup [PV.own 2 [PV.agg [I (1,1).fst,I (1,1).snd]],PV.bool true]) [] rfl rfl
theorem zO6:FG 51 [nwV zDO,prs zFj,I 1,zAF [0,1]] (.tup [.own 2 [.agg [I 1,I 1]],I 0]):=by
 have ho:=f89_1 zDO zFj 1 [0,1] zUp (by decide)
 rw [zOc] at ho
 have gZ:FG 91 [zDP zDO zFj,prs zJB,I 0] (.own 2 (zJB.map prV)):=by
  have:=f91 zDO zFj zJB 0 zTJ (by decide) (by decide)
  rwa [show ofL zDO 0 zJB=zJB from by decide +kernel] at this
 have hc:=zRJ
 refine zAf Try.f51 ?_
 refine zAc 3<|zAa<|zAc 4<|S_a [(12,.ret (PV.tup [zDP zDO zFj,prs zJB,PV.agg [zXn zDO zFj 1 zJB],I 0]) [])] (ap ho an)<|zAd 10<|zAa<|zAh<|zAc 2<|zAa<|zA4<|zAl<|zAc 1<|zAa<|zAh<|zAc 2<|zAd 1<|zAd 1<|zAa<|zAi 0 ?_
 refine zAu (fun j=>j≤2) (fun (j:Nat)=>[(14,.own 2 (([(1,1)]:List (Int×Int)).take j |>.map prV)),(34,I (j:Nat))]) (fun j=>2-j) (0:Nat) (by omega) fun j hj=>?_
 have hj3:j=0∨j=1∨j=2:=by omega
 rcases hj3 with e | e | e
 ·subst e
  refine zAc 1<|zAa<|zAh<|zBX<|zAl<|zAh<|zAi 1<|zAc 2<|zAa<|zAh<|zAc 8<|zAa<|zA4<|zAl<|zAc 5<|S_a [(9,.ret (PV.own 2 (List.map prV zJB)) [])] (ap gZ an)<|zAd 2<|S_a [(14,.ret (PV.tup [PV.own 2 [PV.agg [I 1,I 1]],PV.bool true]) [])] (ap hc an)<|zAd 5<|zAa<|zAh<|zAc 2<|zAa<|zA4<|zAl<|zAg<|zAd 4<|zAa<|zAg<|zAd 2<|zAa ?_
  exact ⟨1,by omega,by omega,by kernel_rfl,by kernel_rfl⟩
 ·subst e
  refine zAc 1<|zAa<|zAh<|zBX<|zAl<|zAh<|zAi 1<|zAc 2<|zAa<|zAh<|zAc 8<|zAa<|zBX<|zAE 1<|zAg<|zAd 2<|zAa ?_
  exact ⟨2,by omega,by omega,by kernel_rfl,by kernel_rfl⟩
 ·subst e
  refine zAc 1<|zAa<|zAh<|zA4<|zAE 0<|zAc 3<|zAa<|zAm<|E_a [] an (PV.tup [PV.own 2 [PV.agg [I (1,1).fst,I (1,1).snd]],I 0]) [] rfl rfl
end Go.Eng
