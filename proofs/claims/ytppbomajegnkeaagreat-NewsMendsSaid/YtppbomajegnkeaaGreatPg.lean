/- For whatever news, cries, evenings, cry and stands, the law NewsMends returns true and changes no argument: the gaps that a further cry mends, and those that none does, are as the reference tells them. -/
import Derived.Test.YtppbomajegnkeaaGreatPf
import Derived.Test.YtppbomajegnkeaaGreatPd
set_option linter.unusedVariables false
set_option linter.unusedSimpArgs false
set_option linter.unusedSectionVars false
set_option maxRecDepth 10000
set_option maxHeartbeats 4000000
namespace Go.Eng
open Go Go.Proofs
abbrev hdV (w:List Int):PV := .agg (zAQ w 80)
def zQp (w:List Int) (i:Nat) (x:Int):List Int:=w.set i (max (w.getD i 0) x)
theorem zIt {w:List Int} {i:Nat} {x:Int}:(zQp w i x).length=w.length:=by simp [zQp]
def begC (n:Nw) (h:Nat) (w:List Int) (c:Int×Int):List Int:=if has (n.s.getD c.2.toNat []) h=true then zQp w (h*8+((zAk n).getD c.1.toNat 0).toNat) c.1 else w
def begH (n:Nw) (h:Nat) (w:List Int) (cs:List (Int×Int)):List Int:=cs.foldl (begC n h) w
def begN (n:Nw) (cs:List (Int×Int)) (h:Nat):List Int:=(List.range h).foldl (fun w h=>begH n h w cs) (List.replicate 80 (-1))
def nxtR (now:List Int) (h o:Nat) (w:List Int) (k:Nat):List Int:=(List.range k).foldl (fun w i=>zQp w (h*8+i) (now.getD (o*8+i) 0)) w
def nxtH (now:List Int) (h:Nat) (w:List Int) (l:List Nat):List Int:=l.foldl (fun w o=>nxtR now h o w 8) w
def nxtN (n:Nw) (now:List Int) (h:Nat):List Int:=(List.range h).foldl (fun w h=>nxtH now h w (zIf n h n.h.toNat)) now
def zOf (n:Nw) (cs:List (Int×Int)):List Int:=begN n cs n.h.toNat
def zDZ (n:Nw) (now:List Int):List Int:=nxtN n now n.h.toNat
def zAL (n:Nw) (cs:List (Int×Int)):Nat→List Int
 | 0=>zOf n cs
 | k+1=>zDZ n (zAL n cs k)
theorem zTP {n:Nw} {h:Nat} {w:List Int} {c:Int×Int}:(begC n h w c).length=w.length:=by unfold begC;split<;>simp [zIt]
theorem zLh {n:Nw} {h:Nat}:∀ {cs:List (Int×Int)} {w:List Int},(begH n h w cs).length=w.length
 | [],w=>rfl
 | c::cs,w=>by
  show (begH n h (begC n h w c) cs).length=_
  rw [zLh,zTP]
theorem zIN {n:Nw} {cs:List (Int×Int)} {h:Nat}:begN n cs (h+1)=begH n h (begN n cs h) cs:=by
 simp only [begN,List.range_succ,List.foldl_append,List.foldl_cons,List.foldl_nil]
theorem zKY {n:Nw} {cs:List (Int×Int)}:∀ h,(begN n cs h).length=80
 | 0=>by simp [begN]
 | h+1=>by rw [zIN,zLh];exact zKY h
theorem zRl {n:Nw} {h:Nat} {w:List Int} {cs:List (Int×Int)} {i:Nat} (hi:i<cs.length):begH n h w (cs.take (i+1))=begC n h (begH n h w (cs.take i)) (cs.getD i default):=zEW hi
theorem zMs {now w:List Int} {h o k:Nat}:nxtR now h o w (k+1)=zQp (nxtR now h o w k) (h*8+k) (now.getD (o*8+k) 0):=by
 simp only [nxtR,List.range_succ,List.foldl_append,List.foldl_cons,List.foldl_nil]
theorem zLC {now w:List Int} {h o:Nat}:∀ k,(nxtR now h o w k).length=w.length
 | 0=>rfl
 | k+1=>by rw [zMs,zIt];exact zLC k
theorem zLf {now:List Int} {h:Nat}:∀ {l:List Nat} {w:List Int},(nxtH now h w l).length=w.length
 | [],_=>rfl
 | o::l,w=>by
  show (nxtH now h (nxtR now h o w 8) l).length=_
  rw [zLf,zLC]
theorem zMW {n:Nw} {now:List Int} {h:Nat}:nxtN n now (h+1)=nxtH now h (nxtN n now h) (zIf n h n.h.toNat):=by
 simp only [nxtN,List.range_succ,List.foldl_append,List.foldl_cons,List.foldl_nil]
theorem zKW {n:Nw} {now:List Int}:∀ h,(nxtN n now h).length=now.length
 | 0=>rfl
 | h+1=>by rw [zMW,zLf];exact zKW h
theorem zRu {now:List Int} {h:Nat} {w:List Int} {l:List Nat} {i:Nat} (hi:i<l.length):nxtH now h w (l.take (i+1))=nxtR now h (l.getD i 0) (nxtH now h w (l.take i)) 8:=zEW hi
theorem zOT {n:Nw} {cs:List (Int×Int)}:(zOf n cs).length=80:=zKY _
theorem zQQ {n:Nw} {w:List Int} (h:w.length=80):(zDZ n w).length=80:=by rw [zDZ,zKW,h]
theorem zCT {n:Nw} {cs:List (Int×Int)}:∀ k,(zAL n cs k).length=80
 | 0=>zOT
 | k+1=>zQQ (zCT k)
theorem zJO {F:List Int} {i:Nat} {a:Int} (hF:F.length=8) (hi:i<8) (ha : -1≤a∧a<i) (j:Nat):(zMM F i a).getD j 0=if j=i then (if a = -1 then (i:Int) else F.getD a.toNat 0) else F.getD j 0:=by
 unfold zMM
 by_cases hj:j=i
 ·subst hj
  rw [if_pos rfl]
  split
  ·rw [zCS,if_pos ⟨rfl,by omega⟩]
  ·rw [zCS,if_pos ⟨rfl,by simp;omega⟩,zCS,if_neg (by omega)]
 ·rw [if_neg hj]
  split
  ·rw [zCS,if_neg (fun h=>hj h.1.symm)]
  ·rw [zCS,if_neg (fun h=>hj h.1.symm),zCS,if_neg (fun h=>hj h.1.symm)]
theorem zNv {n:Nw} (ho:NwOk n):∀ i,i≤n.n.length→∀ j,j<i→0≤(zOy n.n i).getD j 0∧(zOy n.n i).getD j 0≤j
 | 0,_,j,hj=>absurd hj (Nat.not_lt_zero j)
 | i + 1,hi,j,hj=>by
  have h8:=ho.nl.2
  have ha:=ho.na i (by omega)
  rw [zOy,zJO (zHh i) (by omega) ha]
  split
  ·subst j
   split
   ·omega
   ·have:=zNv ho i (by omega) ((n.n.getD i default).1.toNat) (by omega)
    omega
  ·exact zNv ho i (by omega) j (by omega)
theorem zCj {n:Nw} (ho:NwOk n) (j:Nat) (hj:j<n.n.length):0≤(zAk n).getD j 0∧(zAk n).getD j 0≤j:=zNv ho _ (Nat.le_refl _) j hj
theorem f100 (n:Nw) (cs:List (Int×Int)) (ho:CrW n cs):FG 100 [zDv n cs] (hdV (zOf n cs)):=by
 have hb:=ho.nw.h
 have hn:=ho.nw
 have yN:=ho.len
 refine zAf Tryz.f100 ?_
 refine zAd 1<|zAa<|zAd 1<|zAa<|zAg<|zAd 1<|zAa<|zAh 0 ?_
 refine zAo (fun (h,w)=>h≤10∧w.length=80∧∀ j,j<h*8→w.getD j 0 = -1) (fun (h,w)=>[(3,.box (hdV w)),(11,I (h:Nat))]) (fun (h,_)=>10-h) ((0:Nat),List.replicate 80 0) ⟨by omega,rfl,fun j h=>by omega⟩ fun (h,w) ⟨hh,hw,ha⟩=>?_
 by_cases ga:h<10
 ·refine zAd 1<|zAa<|zAg<|zAJ ((↑h:Int)<10) (by omega)<|zAj<|zAg<|zAh 1<|zAd 2<|zAa<|zAd 1<|zAa<|zAh 2 ?_
  refine zAo (fun (i,v)=>i≤8∧v.length=80∧∀ j,j<h*8+i→v.getD j 0 = -1) (fun (i,v)=>[(3,.box (hdV v)),(14,I (i:Nat))]) (fun (i,_)=>8-i) ((0:Nat),w) ⟨by omega,hw,fun j h=>ha j (by omega)⟩ fun (i,v) ⟨hi,hv,hav⟩=>?_
  by_cases yB:i<8
  ·refine zAd 1<|zAa<|zAg<|zAJ ((↑i:Int)<8) (by omega)<|zAj<|zAg<|zAh 3<|zAd 2<|zAa<|zAe<|zAc 2<|S_a [(2,.ob)] (ap ((by exact zAr (by omega)):decide (h<10)=true) an)<|S_a [(2,.ob)] (ap ((by exact zAr (by omega)):decide (i<8)=true) an)<|S_a [(7,.root ((PV.agg (zAQ (v.set (h*8+i) (-1)) 80)).box) true)] (ap (zQc (zKF (q:=(PV.agg (zAQ v 80)).box) (xs:=[PV.agg (zAQ v 80)]) (x:=PV.agg (zAQ v 80)) (y:=PV.agg (zAQ (v.set (h*8+i) (-1)) 80)) (q':=(PV.agg (zAQ (v.set (h*8+i) (-1)) 80)).box) rfl (zNs (F:=v) (m:=80) (j:=h*8+i) (u:=-1) (by first | rfl | exact zB3 (by kernel_rfl) | exact zB5 (by kernel_rfl) | exact zDN (by kernel_rfl) (by kernel_rfl) | exact zDV (by kernel_rfl) | exact zD5 (by kernel_rfl) (by kernel_rfl) | exact zDO (by kernel_rfl) | (simp;done)) (by omega) (by omega)) rfl (hb:=zN7 (F:=v) (m:=80) (j:=h*8+i) (by first | rfl | exact zB3 (by kernel_rfl) | exact zB5 (by kernel_rfl) | exact zDN (by kernel_rfl) (by kernel_rfl) | exact zDV (by kernel_rfl) | exact zD5 (by kernel_rfl) (by kernel_rfl) | exact zDO (by kernel_rfl) | (simp;done)) (by omega))) rfl:zBC (PV.agg (zAQ v 80)).box [] 0 (0+(↑h:Int).toNat*(fun x=>x.size) Tryz.prog.types[128]+(↑i:Int).toNat*(fun x=>x.size) Tryz.prog.types[3]) (I (-1)).cells=some (PV.agg (zAQ (v.set (h*8+i) (-1)) 80)).box∧zAM (PV.agg (zAQ v 80)).box (PV.agg (zAQ (v.set (h*8+i) (-1)) 80)).box []=true) an)<|zAa<|zAe<|S_a [(1,.v (I (↑(i+1):Int)))] (ap (wrN i) an)<|zAc 1<|zAa ?_
   refine ⟨(i+1,v.set (h*8+i) (-1)),⟨by omega,by simpa using hv,fun j hj=>?_⟩,by simp only;omega,by kernel_rfl,by kernel_rfl⟩
   rw [zCS]
   split
   ·rfl
   ·exact hav j (by omega)
  ·refine zAd 1<|zAa<|zAg<|zAK ((↑i:Int)<8) (by omega)<|zAs 2<|zAe<|S_a [(1,.v (I (↑(h+1):Int)))] (ap (wrN h) an)<|zAc 1<|zAa ?_
   exact ⟨(h+1,v),⟨by omega,hv,fun j hj=>hav j (by omega)⟩,by simp only;omega,by kernel_rfl,by kernel_rfl⟩
 ·have hw0:w=List.replicate 80 (-1):=by
   refine List.ext_getElem (by simp [hw]) fun j h1 h2=>?_
   have:=ha j (by omega)
   rw [zAq h1] at this
   rw [this,List.getElem_replicate]
  clear ha
  have hw0':begN n cs 0=w:=by rw [hw0];rfl
  clear hw0
  refine zAd 1<|zAa<|zAg<|zAK ((↑h:Int)<10) (by omega)<|zAs 0<|zAd 3<|zAa<|zAg<|zAd 6<|zAa<|zAh 4 ?_
  refine zAo (fun (h,v)=>h≤n.h.toNat∧v=begN n cs h) (fun (h,v)=>[(3,.box (hdV v)),(30,I (h:Nat))]) (fun (h,_)=>n.h.toNat-h) ((0:Nat),w) ⟨by omega,hw0'.symm⟩ fun (h,v) ⟨hh,hv⟩=>?_
  have kB:v.length=80:=by rw [hv];exact zKY h
  by_cases ga:(h:Int)<n.h
  ·have yC:=zIN (n:=n) (cs:=cs) (h:=h)
   rw [← hv] at yC
   refine zAd 1<|zAa<|zAg<|zAJ ((↑h:Int)<n.h) (by omega)<|zAj<|zAg<|zAh 5<|zAd 2<|zAa<|zAd 4<|S_a [(0,.n cs.length)] (ap (lnS prV cs) an)<|zAc 1<|zAa<|zAh 6 ?_
   refine zAo (fun (i,q)=>i≤cs.length∧q=begH n h v (cs.take i)) (fun (i,q)=>[(3,.box (hdV q)),(38,I (i:Nat))]) (fun (i,_)=>cs.length-i) ((0:Nat),v) ⟨by omega,rfl⟩ fun (i,q) ⟨hi,hq⟩=>?_
   have km:q.length=80:=by rw [hq,zLh];exact kB
   by_cases yB:i<cs.length
   ·have hci:=zBz (d:=default) ho.cs i yB
    have yU:=zRl (n:=n) (h:=h) (w:=v) yB
    rw [← hq] at yU
    have hfb:=zCj hn (cs.getD i default).1.toNat (by omega)
    have ka:=hn.nl
    have jH:=hci.2
    have v1:0≤(cs.getD i default).1∧(cs.getD i default).1<8:=by omega
    have gv:((zAk n).getD (cs.getD i default).1.toNat 0).toNat<8:=by have:=hn.nl;omega
    clear yC hv hq
    refine zAd 1<|zAa<|zAg<|zAJ ((↑i:Int)<(↑cs.length:Int)) (by omega)<|zAj<|zAg<|zAh 7<|zAg<|zAe<|S_a [(2,.v (PV.agg [I (cs.getD i default).fst,I (cs.getD i default).snd]))] (ap (zBx default (by omega):(List.map prV cs)[i]? = some (PV.agg [I (cs.getD i default).fst,I (cs.getD i default).snd])) an)<|zAc 3<|zAa<|zAd 4<|S_a [(9,.ret (PV.bool (has (n.s.getD (cs.getD i default).snd.toNat []) (↑h:Int))) [])] (ap (f140 n (prs cs) (List.map pr2 n.l) (zAk n) (zA2 n) (by omega) ((↑h:Int)) ((cs.getD i default).snd) (by omega)) an)<|zAa<|zDf (has (n.s.getD (cs.getD i default).snd.toNat []) (↑h:Int)) (fun k0=>(zAd 5<|S_a [(0,.ob),(1,.ob),(0,.v ((I ((zAk n).getD (cs.getD i default).fst.toNat 0)).ref))] (ap ((by exact zAr (by omega)):decide (0≤(cs.getD i default).fst)=true)<|ap ((by exact zAr (by omega)):decide ((cs.getD i default).fst.toNat<8)=true)<|ap (zGQ (F:=zAk n) (m:=8) (j:=(cs.getD i default).fst.toNat) (by omega):zCo (PV.agg (zAQ (zAk n) 8)).ref ((cs.getD i default).fst.toNat*(fun x=>x.size) Tryz.prog.types[3]) none=some (I ((zAk n).getD (cs.getD i default).fst.toNat 0)).ref) an)<|zAc 2<|zAa<|zAe<|zAc 4<|S_a [(2,.ob)] (ap ((by exact zAr (by omega)):decide (h<10)=true) an)<|S_a [(0,.ob),(1,.ob)] (ap ((by exact zAr (by omega)):decide (0≤(zAk n).getD (cs.getD i default).fst.toNat 0)=true)<|ap ((by exact zAr (by omega)):decide (((zAk n).getD (cs.getD i default).fst.toNat 0).toNat<8)=true) an)<|S_a [(0,.cs true ([I (q.getD (h*8+((zAk n).getD (cs.getD i default).fst.toNat 0).toNat) 0)]))] (ap (zDb (q:=(PV.agg (zAQ q 80)).box) (xs:=[PV.agg (zAQ q 80)]) (x:=PV.agg (zAQ q 80)) rfl rfl (zFj (F:=q) (m:=80) (j:=h*8+((zAk n).getD (cs.getD i default).fst.toNat 0).toNat) (by first | rfl | exact zB3 (by kernel_rfl) | exact zB5 (by kernel_rfl) | exact zDN (by kernel_rfl) (by kernel_rfl) | exact zDV (by kernel_rfl) | exact zD5 (by kernel_rfl) (by kernel_rfl) | exact zDO (by kernel_rfl) | (simp;done)) (by omega)):zAv 3 (PV.agg (zAQ q 80)).box [] 0 (0+(↑h:Int).toNat*(fun x=>x.size) Tryz.prog.types[128]+((zAk n).getD (cs.getD i default).fst.toNat 0).toNat*(fun x=>x.size) Tryz.prog.types[3]) 1=some (true,[I (q.getD (h*8+((zAk n).getD (cs.getD i default).fst.toNat 0).toNat) 0)])) an)<|zAc 3<|S_a [(9,.ret (I (max (q.getD (h*8+((zAk n).getD (cs.getD i default).fst.toNat 0).toNat) 0) (cs.getD i default).fst)) [])] (ap (f165 (q.getD (h*8+((zAk n).getD (cs.getD i default).fst.toNat 0).toNat) 0) ((cs.getD i default).fst)) an)<|S_a [(2,.ob)] (ap ((by exact zAr (by omega)):decide (h<10)=true) an)<|S_a [(0,.ob),(1,.ob)] (ap ((by exact zAr (by omega)):decide (0≤(zAk n).getD (cs.getD i default).fst.toNat 0)=true)<|ap ((by exact zAr (by omega)):decide (((zAk n).getD (cs.getD i default).fst.toNat 0).toNat<8)=true) an)<|S_a [(8,.root ((PV.agg (zAQ (q.set (h*8+((zAk n).getD (cs.getD i default).fst.toNat 0).toNat) (max (q.getD (h*8+((zAk n).getD (cs.getD i default).fst.toNat 0).toNat) 0) (cs.getD i default).fst)) 80)).box) true)] (ap (zQc (zKF (q:=(PV.agg (zAQ q 80)).box) (xs:=[PV.agg (zAQ q 80)]) (x:=PV.agg (zAQ q 80)) (y:=PV.agg (zAQ (q.set (h*8+((zAk n).getD (cs.getD i default).fst.toNat 0).toNat) (max (q.getD (h*8+((zAk n).getD (cs.getD i default).fst.toNat 0).toNat) 0) (cs.getD i default).fst)) 80)) (q':=(PV.agg (zAQ (q.set (h*8+((zAk n).getD (cs.getD i default).fst.toNat 0).toNat) (max (q.getD (h*8+((zAk n).getD (cs.getD i default).fst.toNat 0).toNat) 0) (cs.getD i default).fst)) 80)).box) rfl (zNs (F:=q) (m:=80) (j:=h*8+((zAk n).getD (cs.getD i default).fst.toNat 0).toNat) (u:=max (q.getD (h*8+((zAk n).getD (cs.getD i default).fst.toNat 0).toNat) 0) (cs.getD i default).fst) (by first | rfl | exact zB3 (by kernel_rfl) | exact zB5 (by kernel_rfl) | exact zDN (by kernel_rfl) (by kernel_rfl) | exact zDV (by kernel_rfl) | exact zD5 (by kernel_rfl) (by kernel_rfl) | exact zDO (by kernel_rfl) | (simp;done)) (by omega) (by omega)) rfl (hb:=zN7 (F:=q) (m:=80) (j:=h*8+((zAk n).getD (cs.getD i default).fst.toNat 0).toNat) (by first | rfl | exact zB3 (by kernel_rfl) | exact zB5 (by kernel_rfl) | exact zDN (by kernel_rfl) (by kernel_rfl) | exact zDV (by kernel_rfl) | exact zD5 (by kernel_rfl) (by kernel_rfl) | exact zDO (by kernel_rfl) | (simp;done)) (by omega))) rfl:zBC (PV.agg (zAQ q 80)).box [] 0 (0+(↑h:Int).toNat*(fun x=>x.size) Tryz.prog.types[128]+((zAk n).getD (cs.getD i default).fst.toNat 0).toNat*(fun x=>x.size) Tryz.prog.types[3]) (I (max (q.getD (h*8+((zAk n).getD (cs.getD i default).fst.toNat 0).toNat) 0) (cs.getD i default).fst)).cells=some (PV.agg (zAQ (q.set (h*8+((zAk n).getD (cs.getD i default).fst.toNat 0).toNat) (max (q.getD (h*8+((zAk n).getD (cs.getD i default).fst.toNat 0).toNat) 0) (cs.getD i default).fst)) 80)).box∧zAM (PV.agg (zAQ q 80)).box (PV.agg (zAQ (q.set (h*8+((zAk n).getD (cs.getD i default).fst.toNat 0).toNat) (max (q.getD (h*8+((zAk n).getD (cs.getD i default).fst.toNat 0).toNat) 0) (cs.getD i default).fst)) 80)).box []=true) an)<|zAa<|zAe<|S_a [(1,.v (I (↑(i+1):Int)))] (ap (wrN i) an)<|zAc 1<|zAa ?_)) (fun k0=>(zAj<|zAe<|S_a [(1,.v (I (↑(i+1):Int)))] (ap (wrN i) an)<|zAc 1<|zAa ?_))
    ·rw [begC,if_pos k0] at yU
     exact ⟨(i+1,zQp q (h*8+((zAk n).getD (cs.getD i default).1.toNat 0).toNat) (cs.getD i default).1),⟨by omega,yU.symm⟩,by simp only;omega,by kernel_rfl,by kernel_rfl⟩
    ·rw [begC,if_neg (by rw [k0];simp)] at yU
     exact ⟨(i+1,q),⟨by omega,yU.symm⟩,by simp only;omega,by kernel_rfl,by kernel_rfl⟩
   ·refine zAd 1<|zAa<|zAg<|zAK ((↑i:Int)<(↑cs.length:Int)) (by omega)<|zAs 6<|zAe<|S_a [(1,.v (I (↑(h+1):Int)))] (ap (wrN h) an)<|zAc 1<|zAa ?_
    rw [List.take_of_length_le (by omega)] at hq
    exact ⟨(h+1,q),⟨by omega,by rw [yC,hq]⟩,by simp only;omega,by kernel_rfl,by kernel_rfl⟩
  ·have e:h=n.h.toNat:=by omega
   subst e
   refine zAd 1<|zAa<|zAg<|zAK ((↑n.h.toNat:Int)<n.h) (by omega)<|zAs 4<|zAd 2<|zAa<|zAm<|E_a [] an (PV.agg (zAQ v 80)) [] ?_ rfl
   rw [hv];rfl
theorem zRe {n:Nw} {h o m:Nat} (ho:o∈zIf n h m):o<m:=by
 simp only [zIf,List.mem_filter,List.mem_range] at ho;exact ho.1
theorem zTX {w:List Int} {o i:Nat} (hi:i<8):((w.drop o).take 8).getD i 0=w.getD (o+i) 0:=by
 simp [List.getD_eq_getElem?_getD,List.getElem?_take,hi]
theorem f101 (n:Nw) (cs:List (Int×Int)) (now:List Int) (ho:NwOk n) (hw:now.length=80):FG 101 [zDv n cs,hdV now] (hdV (zDZ n now)):=by
 have hb:=ho.h
 refine zAf Tryz.f101 ?_
 refine zAd 2<|zAa<|zAd 3<|zAa<|zAg<|zAd 6<|zAa<|zAh 0 ?_
 refine zAo (fun (h,v)=>h≤n.h.toNat∧v=nxtN n now h) (fun (h,v)=>[(5,.box (hdV v)),(16,I (h:Nat))]) (fun (h,_)=>n.h.toNat-h) ((0:Nat),now) ⟨by omega,rfl⟩ fun (h,v) ⟨hh,hv⟩=>?_
 have kB:v.length=80:=by rw [hv,zKW];exact hw
 by_cases ga:(h:Int)<n.h
 ·have yC:=zMW (n:=n) (now:=now) (h:=h)
  rw [← hv] at yC
  have hA:=zUt n cs h ho ga
  refine zAd 1<|zAa<|zAg<|zAJ ((↑h:Int)<n.h) (by omega)<|zAj<|zAg<|zAh 1<|zAd 3<|zAa<|zAd 2<|S_a [(7,.ret (PV.func 169 [] [(zDv n cs).ref,(I (↑h:Int)).ref]) [])] (ap (f116 n cs ((↑h:Int))) an)<|zAa<|zAh 2 ?_
  refine zOm (t:=21) hA (fun j q=>q=nxtH now h v ((zIf n h n.h.toNat).take j)) (fun q=>[(5,.box (hdV q))]) v rfl (fun j x q hx hq=>?_) (fun q hq=>?_)
  ·rw [List.getElem?_map] at hx
   obtain ⟨o,hm,rfl⟩:=Option.map_eq_some_iff.1 hx
   have hj:j<(zIf n h n.h.toNat).length:=(List.getElem?_eq_some_iff.1 hm).1
   have hol:o<n.h.toNat:=zRe (List.mem_of_getElem? hm)
   have km:q.length=80:=by rw [hq,zLf];exact kB
   have yU:=zRu (now:=now) (h:=h) (w:=v) hj
   rw [← hq,show (zIf n h n.h.toNat).getD j 0=o by simp [List.getD_eq_getElem?_getD,hm]] at yU
   clear yC hv hA hq hm hj
   refine zO6 ?_
   refine zAe<|zAc 1<|zAa ?_
   refine ⟨rfl,by kernel_rfl,?_⟩
   refine zAh 3<|zAd 1<|S_a [(2,.ob)] (ap ((by exact zAr (by omega)):decide (o<10)=true) an)<|S_a [(0,.cs true (zAQ (List.take 8 (List.drop (o*8) now)) 8))] (ap (zDb (q:=(PV.agg (zAQ now 80)).box) (xs:=[PV.agg (zAQ now 80)]) (x:=PV.agg (zAQ now 80)) rfl rfl (zU8 (K:=8) (c:=o*8) (by omega) (by first | rfl | exact zB3 (by kernel_rfl) | exact zB5 (by kernel_rfl) | exact zDO (by kernel_rfl) | (simp;done)) (by omega) (by kernel_rfl)):zAv 3 (PV.agg (zAQ now 80)).box [] 0 (0+(↑o:Int).toNat*(fun x=>x.size) Tryz.prog.types[128]) Tryz.prog.types[128].size=some (true,zAQ (List.take 8 (List.drop (o*8) now)) 8)) an)<|zAc 1<|zAa<|zAh 4 ?_
   refine zAo (fun (i,p)=>i≤8∧p=nxtR now h o q i) (fun (i,p)=>[(5,.box (hdV p)),(26,I (i:Nat))]) (fun (i,_)=>8-i) ((0:Nat),q) ⟨by omega,rfl⟩ fun (i,p) ⟨hi,hp⟩=>?_
   have uy:p.length=80:=by rw [hp,zLC];exact km
   by_cases yB:i<8
   ·have yQ:=zMs (now:=now) (w:=q) (h:=h) (o:=o) (k:=i)
    rw [← hp,← zTX yB] at yQ
    refine zAd 1<|zAa<|zAg<|zAJ ((↑i:Int)<8) (by omega)<|zAj<|zAg<|zAh 5<|zAd 1<|S_a [(2,.ob),(0,.v (I ((List.take 8 (List.drop (o*8) now)).getD i 0)))] (ap ((by exact zAr (by omega)):decide (i<8)=true)<|ap (zTn (F:=List.take 8 (List.drop (o*8) now)) (m:=8) (j:=i) (by omega):sub (PV.agg (zAQ (List.take 8 (List.drop (o*8) now)) 8)) (i*(fun x=>x.size) Tryz.prog.types[3]) none=some (I ((List.take 8 (List.drop (o*8) now)).getD i 0))) an)<|zAc 2<|zAa<|zAe<|zAc 4<|S_a [(2,.ob)] (ap ((by exact zAr (by omega)):decide (h<10)=true) an)<|S_a [(2,.ob)] (ap ((by exact zAr (by omega)):decide (i<8)=true) an)<|S_a [(0,.cs true ([I (p.getD (h*8+i) 0)]))] (ap (zDb (q:=(PV.agg (zAQ p 80)).box) (xs:=[PV.agg (zAQ p 80)]) (x:=PV.agg (zAQ p 80)) rfl rfl (zFj (F:=p) (m:=80) (j:=h*8+i) (by first | rfl | exact zB3 (by kernel_rfl) | exact zB5 (by kernel_rfl) | exact zDN (by kernel_rfl) (by kernel_rfl) | exact zDV (by kernel_rfl) | exact zD5 (by kernel_rfl) (by kernel_rfl) | exact zDO (by kernel_rfl) | (simp;done)) (by omega)):zAv 5 (PV.agg (zAQ p 80)).box [] 0 (0+(↑h:Int).toNat*(fun x=>x.size) Tryz.prog.types[128]+(↑i:Int).toNat*(fun x=>x.size) Tryz.prog.types[3]) 1=some (true,[I (p.getD (h*8+i) 0)])) an)<|zAc 2<|S_a [(9,.ret (I (max (p.getD (h*8+i) 0) ((List.take 8 (List.drop (o*8) now)).getD i 0))) [])] (ap (f165 (p.getD (h*8+i) 0) ((List.take 8 (List.drop (o*8) now)).getD i 0)) an)<|S_a [(2,.ob)] (ap ((by exact zAr (by omega)):decide (h<10)=true) an)<|S_a [(2,.ob)] (ap ((by exact zAr (by omega)):decide (i<8)=true) an)<|S_a [(8,.root ((PV.agg (zAQ (p.set (h*8+i) (max (p.getD (h*8+i) 0) ((List.take 8 (List.drop (o*8) now)).getD i 0))) 80)).box) true)] (ap (zQc (zKF (q:=(PV.agg (zAQ p 80)).box) (xs:=[PV.agg (zAQ p 80)]) (x:=PV.agg (zAQ p 80)) (y:=PV.agg (zAQ (p.set (h*8+i) (max (p.getD (h*8+i) 0) ((List.take 8 (List.drop (o*8) now)).getD i 0))) 80)) (q':=(PV.agg (zAQ (p.set (h*8+i) (max (p.getD (h*8+i) 0) ((List.take 8 (List.drop (o*8) now)).getD i 0))) 80)).box) rfl (zNs (F:=p) (m:=80) (j:=h*8+i) (u:=max (p.getD (h*8+i) 0) ((List.take 8 (List.drop (o*8) now)).getD i 0)) (by first | rfl | exact zB3 (by kernel_rfl) | exact zB5 (by kernel_rfl) | exact zDN (by kernel_rfl) (by kernel_rfl) | exact zDV (by kernel_rfl) | exact zD5 (by kernel_rfl) (by kernel_rfl) | exact zDO (by kernel_rfl) | (simp;done)) (by omega) (by omega)) rfl (hb:=zN7 (F:=p) (m:=80) (j:=h*8+i) (by first | rfl | exact zB3 (by kernel_rfl) | exact zB5 (by kernel_rfl) | exact zDN (by kernel_rfl) (by kernel_rfl) | exact zDV (by kernel_rfl) | exact zD5 (by kernel_rfl) (by kernel_rfl) | exact zDO (by kernel_rfl) | (simp;done)) (by omega))) rfl:zBC (PV.agg (zAQ p 80)).box [] 0 (0+(↑h:Int).toNat*(fun x=>x.size) Tryz.prog.types[128]+(↑i:Int).toNat*(fun x=>x.size) Tryz.prog.types[3]) (I (max (p.getD (h*8+i) 0) ((List.take 8 (List.drop (o*8) now)).getD i 0))).cells=some (PV.agg (zAQ (p.set (h*8+i) (max (p.getD (h*8+i) 0) ((List.take 8 (List.drop (o*8) now)).getD i 0))) 80)).box∧zAM (PV.agg (zAQ p 80)).box (PV.agg (zAQ (p.set (h*8+i) (max (p.getD (h*8+i) 0) ((List.take 8 (List.drop (o*8) now)).getD i 0))) 80)).box []=true) an)<|zAa<|zAe<|S_a [(1,.v (I (↑(i+1):Int)))] (ap (wrN i) an)<|zAc 1<|zAa ?_
    exact ⟨(i+1,_),⟨by omega,yQ.symm⟩,by simp only;omega,by kernel_rfl,by kernel_rfl⟩
   ·refine zAd 1<|zAa<|zAg<|zAK ((↑i:Int)<8) (by omega)<|zAs 4 ?_
    rw [show i=8 by omega] at hp
    exact ⟨by kernel_rfl,p,by rw [yU,hp],by kernel_rfl⟩
  ·rw [List.length_map,List.take_length] at hq
   show W _ _ _ _ _ _ _ _
   refine zAe<|S_a [(1,.v (I (↑(h+1):Int)))] (ap (wrN h) an)<|zAc 1<|zAa ?_
   exact ⟨(h+1,q),⟨by omega,by rw [yC,hq]⟩,by simp only;omega,by kernel_rfl,by kernel_rfl⟩
 ·have e:h=n.h.toNat:=by omega
  subst e
  refine zAd 1<|zAa<|zAg<|zAK ((↑n.h.toNat:Int)<n.h) (by omega)<|zAs 0<|zAd 2<|zAa<|zAm<|E_a [] an (PV.agg (zAQ v 80)) [] ?_ rfl
  rw [hv];rfl
end Go.Eng
set_option maxRecDepth 10000
set_option maxHeartbeats 4000000
namespace Go.Eng
open Go Go.Proofs
def zQu (n:Nw) (w:List Int) (h i:Nat):Bool:=decide (w.getD (h*8+((zAk n).getD i 0).toNat) 0=i)&&decide ((zA2 n).getD i 0≠i)
def zPC (n:Nw) (w:List Int) (h k:Nat):List (Int×Int):=((List.range k).filter fun i=>zQu n w h i).map fun (i:Nat)=>((h:Int),(i:Int))
def zTo (n:Nw) (w:List Int) (h:Nat):List (Int×Int):=(List.range h).flatMap fun h=>zPC n w h n.n.length
def zAT (n:Nw) (w:List Int):List (Int×Int):=zTo n w n.h.toNat
theorem zQB {n:Nw} {w:List Int} {h k:Nat}:zPC n w h (k+1)=if zQu n w h k=true then zPC n w h k++[((h:Int),(k:Int))] else zPC n w h k:=by
 unfold zPC;rw [List.range_succ,List.filter_append,List.map_append]
 by_cases hn:zQu n w h k=true
 ·rw [if_pos hn];simp [hn]
 ·rw [if_neg hn];simp [hn]
theorem zMt {n:Nw} {w:List Int} {h:Nat}:zTo n w (h+1)=zTo n w h++zPC n w h n.n.length:=by
 unfold zTo;rw [List.range_succ,List.flatMap_append];simp
theorem zOW {n:Nw} {w:List Int} {h k:Nat}:(zPC n w h k).length≤k:=by
 unfold zPC;rw [List.length_map];exact Nat.le_trans (List.length_filter_le _ _) (by simp)
theorem zK4 {n:Nw} {w:List Int}:∀ h,(zTo n w h).length≤h*n.n.length
 | 0=>by simp [zTo]
 | h+1=>by
  have h1:=zK4 (n:=n) (w:=w) h
  have h2:=zOW (n:=n) (w:=w) (h:=h) (k:=n.n.length)
  rw [zMt,List.length_append,Nat.succ_mul];omega
theorem zDi {n:Nw} {w:List Int} (ho:NwOk n):(zAT n w).length≤80:=by
 have h1:=zK4 (n:=n) (w:=w) n.h.toNat
 have h2:=ho.h
 have h3:=ho.nl
 have h4:n.h.toNat*n.n.length≤10*8:=Nat.mul_le_mul (by omega) (by omega)
 unfold zAT;omega
theorem f92 (n:Nw) (cs:List (Int×Int)) (e:Int) (ho:CrW n cs) (he:0≤e∧e≤1000):FG 92 [zDv n cs,I e] (hdV (zAL n cs e.toNat)):=by
 have hn:=ho.nw
 refine zAf Tryz.f92 ?_
 refine zAd 1<|zAa<|zAd 1<|S_a [(5,.ret (hdV (zOf n cs)) [])] (ap (f100 n cs (by omega)) an)<|zAc 2<|zAa<|zAg<|zAd 2<|zAa<|zAh 0 ?_
 refine zAo (fun (k,w)=>k≤e.toNat∧w=zAL n cs k) (fun (k,w)=>[(5,.box (hdV w)),(9,I (k:Nat))]) (fun (k,_)=>e.toNat-k) ((0:Nat),zOf n cs) ⟨by omega,rfl⟩ fun (k,w) ⟨hk,hw⟩=>?_
 have hwl:w.length=80:=by rw [hw];exact zCT k
 by_cases kK:(k:Int)<e
 ·refine zAd 1<|zAa<|zAg<|zAJ ((↑k:Int)<e) (by omega)<|zAj<|zAg<|zAh 1<|zAe<|zAc 2<|S_a [(7,.ret (hdV (zDZ n w)) [])] (ap (f101 n cs w (by omega) (by omega)) an)<|zAc 1<|zAa<|zAe<|S_a [(1,.v (I (↑(k+1):Int)))] (ap (wrN k) an)<|zAc 1<|zAa ?_
  exact ⟨(k+1,zDZ n w),⟨by omega,by rw [hw];rfl⟩,by simp only;omega,by kernel_rfl,by kernel_rfl⟩
 ·refine zAd 1<|zAa<|zAg<|zAK ((↑k:Int)<e) (by omega)<|zAs 0<|zAd 2<|zAa<|zAm<|E_a [] an (PV.agg (zAQ w 80)) [] ?_ rfl
  rw [hw,show k=e.toNat by omega]
theorem f91 (n:Nw) (cs:List (Int×Int)) (w:List Int) (ho:NwOk n) (hw:w.length=80):FG 91 [zDv n cs,hdV w] (.own 2 ((zAT n w).map prV)):=by
 have hb:=ho.h
 have ka:=ho.nl
 refine zAf Tryz.f91 ?_
 refine zAd 2<|zAa<|zAd 1<|zAa<|zAg<|zAd 6<|zAa<|zAh 0 ?_
 refine zAo (fun (h,l)=>h≤n.h.toNat∧l=zTo n w h) (fun (h,l)=>[(5,.own 2 (l.map prV)),(13,I (h:Nat))]) (fun (h,_)=>n.h.toNat-h) ((0:Nat),([]:List (Int×Int))) ⟨by omega,rfl⟩ fun (h,l) ⟨hh,hl⟩=>?_
 have qG:l.length≤h*8:=by
  have h1:=zK4 (n:=n) (w:=w) h
  rw [← hl] at h1
  exact Nat.le_trans h1 (Nat.mul_le_mul (Nat.le_refl _) (by omega))
 by_cases ga:(h:Int)<n.h
 ·have yC:=zMt (n:=n) (w:=w) (h:=h)
  rw [← hl] at yC
  refine zAd 1<|zAa<|zAg<|zAJ ((↑h:Int)<n.h) (by omega)<|zAj<|zAg<|zAh 1<|zAd 2<|zAa<|zAd 5<|S_a [(0,.n n.n.length)] (ap (lnS ntV n.n) an)<|zAc 1<|zAa<|zAh 2 ?_
  refine zAo (fun (i,m)=>i≤n.n.length∧m=l++zPC n w h i) (fun (i,m)=>[(5,.own 2 (m.map prV)),(22,I (i:Nat))]) (fun (i,_)=>n.n.length-i) ((0:Nat),l) ⟨by omega,by simp [zPC]⟩ fun (i,m) ⟨hi,hm⟩=>?_
  have hml:m.length≤88:=by
   have:=zOW (n:=n) (w:=w) (h:=h) (k:=i)
   rw [hm,List.length_append];omega
  by_cases yB:i<n.n.length
  ·have yQ:=zQB (n:=n) (w:=w) (h:=h) (k:=i)
   have hfb:=zCj ho i yB
   have gv:0≤(zAk n).getD i 0∧(zAk n).getD i 0<8:=by omega
   clear yC
   have kH:zQu n w h i=false→m=l++zPC n w h (i+1):=fun hg=>by rw [yQ,if_neg (by rw [hg];simp)];exact hm
   refine zAd 1<|zAa<|zAg<|zAJ ((↑i:Int)<(↑n.n.length:Int)) (by omega)<|zAj<|zAg<|zAh 3<|zAd 2<|zAa<|zAd 5<|S_a [(2,.ob),(0,.v ((I ((zAk n).getD i 0)).ref))] (ap ((by exact zAr (by omega)):decide (i<8)=true)<|ap (zGQ (F:=zAk n) (m:=8) (j:=i) (by omega):zCo (PV.agg (zAQ (zAk n) 8)).ref (i*(fun x=>x.size) Tryz.prog.types[3]) none=some (I ((zAk n).getD i 0)).ref) an)<|zAc 1<|S_a [(2,.ob)] (ap ((by exact zAr (by omega)):decide (h<10)=true) an)<|S_a [(0,.ob),(1,.ob)] (ap ((by exact zAr (by omega)):decide (0≤(zAk n).getD i 0)=true)<|ap ((by exact zAr (by omega)):decide (((zAk n).getD i 0).toNat<8)=true) an)<|S_a [(0,.cs true ([I (w.getD (h*8+((zAk n).getD i 0).toNat) 0)]))] (ap (zDb (q:=(PV.agg (zAQ w 80)).box) (xs:=[PV.agg (zAQ w 80)]) (x:=PV.agg (zAQ w 80)) rfl rfl (zFj (F:=w) (m:=80) (j:=h*8+((zAk n).getD i 0).toNat) (by first | rfl | exact zB3 (by kernel_rfl) | exact zB5 (by kernel_rfl) | exact zDN (by kernel_rfl) (by kernel_rfl) | exact zDV (by kernel_rfl) | exact zD5 (by kernel_rfl) (by kernel_rfl) | exact zDO (by kernel_rfl) | (simp;done)) (by omega)):zAv 3 (PV.agg (zAQ w 80)).box [] 0 (0+(↑h:Int).toNat*(fun x=>x.size) Tryz.prog.types[128]+((zAk n).getD i 0).toNat*(fun x=>x.size) Tryz.prog.types[3]) 1=some (true,[I (w.getD (h*8+((zAk n).getD i 0).toNat) 0)])) an)<|zAc 3<|zDa 37 (w.getD (h*8+((zAk n).getD i 0).toNat) 0=(↑i:Int)) (fun k0=>(zAc 4<|S_a [(2,.ob),(0,.v ((I ((zA2 n).getD i 0)).ref))] (ap ((by exact zAr (by omega)):decide (i<8)=true)<|ap (zGQ (F:=zA2 n) (m:=8) (j:=i) (by omega):zCo (PV.agg (zAQ (zA2 n) 8)).ref (i*(fun x=>x.size) Tryz.prog.types[3]) none=some (I ((zA2 n).getD i 0)).ref) an)<|zAc 4<|zAa<|zDk ((zA2 n).getD i 0=(↑i:Int)) (fun k1=>(zAe<|zAc 5<|S_a [(4,.ob),(0,.ob),(0,.yes),(2,.v (PV.own 2 (List.map prV (m++[((↑h:Int),(↑i:Int))]))))] (ap (blz (List.map prV m))<|ap ((by exact zA9 (by simp only [List.length_map,zzLn,zA1]<;>omega)):((List.map prV m).length + [PV.agg [I (↑h:Int),I (↑i:Int)]].length).ble zA1=true)<|ap ((by exact zBj (by simp<;>omega)):(0+(List.map prV m).length).beq (List.map prV m).length=true)<|ap ((zAE (zB0 (by kernel_rfl))):PV.own 2 (List.map prV m++[PV.agg [I (↑h:Int),I (↑i:Int)]])=PV.own 2 (List.map prV (m++[((↑h:Int),(↑i:Int))]))) an)<|zAc 1<|zAa<|zAe<|S_a [(1,.v (I (↑(i+1):Int)))] (ap (wrN i) an)<|zAc 1<|zAa ?_)) (fun k1=>(zAj<|zAe<|S_a [(1,.v (I (↑(i+1):Int)))] (ap (wrN i) an)<|zAc 1<|zAa ?_)))) (fun k0=>(zAc 9<|zAa<|zAW<|zAj<|zAe<|S_a [(1,.v (I (↑(i+1):Int)))] (ap (wrN i) an)<|zAc 1<|zAa ?_))
   ·have hg:zQu n w h i=true:=by simp only [zQu,decide_eq_true k0,Bool.true_and,decide_eq_true_eq];exact k1
    exact ⟨(i+1,m++[((h:Int),(i:Int))]),⟨by omega,by rw [yQ,if_pos hg,hm,List.append_assoc]⟩,by simp only;omega,by kernel_rfl,by kernel_rfl⟩
   ·exact ⟨(i+1,m),⟨by omega,kH (by simp only [zQu,decide_eq_true k0,Bool.true_and,decide_eq_false_iff_not];exact fun h=>h k1)⟩,by simp only;omega,by kernel_rfl,by kernel_rfl⟩
   ·exact ⟨(i+1,m),⟨by omega,kH (by simp only [zQu,decide_eq_false k0,Bool.false_and])⟩,by simp only;omega,by kernel_rfl,by kernel_rfl⟩
  ·refine zAd 1<|zAa<|zAg<|zAK ((↑i:Int)<(↑n.n.length:Int)) (by omega)<|zAs 2<|zAe<|S_a [(1,.v (I (↑(h+1):Int)))] (ap (wrN h) an)<|zAc 1<|zAa ?_
   exact ⟨(h+1,m),⟨by omega,by rw [yC,hm,show i=n.n.length by omega]⟩,by simp only;omega,by kernel_rfl,by kernel_rfl⟩
 ·have e:h=n.h.toNat:=by omega
  subst e
  refine zAd 1<|zAa<|zAg<|zAK ((↑n.h.toNat:Int)<n.h) (by omega)<|zAs 0<|zAd 1<|S_a [(2,.yes)] (ap ((by exact zBj (by simp<;>omega)):(Nat.beq 0 0&&(List.map prV l).length.beq (List.map prV l).length)=true) an)<|zAa<|zAm<|E_a [(1,.yes),(1,.v (PV.own 2 (List.map prV l)))] (ap (blz (List.map prV l))<|ap ((zAE zAz):PV.own 2 (List.take (List.map prV l).length (List.drop 0 (List.map prV l)))=PV.own 2 (List.map prV l)) an) (PV.own 2 (List.map prV l)) [] ?_ rfl
  rw [hl];rfl
theorem f22_1 (n:Nw) (cs:List (Int×Int)) (e:Int) (ho:EvOk n cs e):FG 22 [nwV n,prs cs,I e] (.tup [.own 2 ((zAT n (zAL n cs e.toNat)).map prV),I 0]):=by
 have hc:=ho.cr
 have kg:=hc.w
 have hn:=hc.nw
 have he:=ho.ev
 have hw:=zCT (n:=n) (cs:=cs) e.toNat
 refine zAf Tryz.f22 ?_
 refine zAd 3<|zAa<|zAd 3<|S_a [(10,.ret (PV.tup [zDv n cs,I 0]) [])] (ap (f90_1 n cs e (by omega)) an)<|zAc 5<|zAa<|zAg<|zAd 2<|zAa<|zAW<|zAj<|zAd 3<|S_a [(7,.ret (hdV (zAL n cs e.toNat)) [])] (ap (f92 n cs e (by omega) (by omega)) an)<|S_a [(7,.ret (PV.own 2 (List.map prV (zAT n (zAL n cs e.toNat)))) [])] (ap (f91 n cs (zAL n cs e.toNat) (by omega) (by omega)) an)<|zAc 2<|zAa<|zAm<|E_a [(1,.yes),(1,.v (PV.own 2 (List.map prV (zAT n (zAL n cs e.toNat)))))] (ap (blz (List.map prV (zAT n (zAL n cs e.toNat))))<|ap ((zAE zAz):PV.own 2 (List.take (List.map prV (zAT n (zAL n cs e.toNat))).length (List.drop 0 (List.map prV (zAT n (zAL n cs e.toNat)))))=PV.own 2 (List.map prV (zAT n (zAL n cs e.toNat)))) an) (PV.tup [PV.own 2 (List.map prV (zAT n (zAL n cs e.toNat))),I 0]) [] rfl rfl
def msl (n:Nw) (l:List (Int×Int)):List Int:=(l.filter fun g => !(n.n.getD g.2.toNat default).2).map Prod.fst
theorem zSI {n:Nw} {l:List (Int×Int)} {i:Nat} (hi:i<l.length):msl n (l.take (i+1))=if (n.n.getD (l.getD i default).2.toNat default).2=true then msl n (l.take i) else msl n (l.take i)++[(l.getD i default).1]:=by
 unfold msl;rw [zBP (d:=default) hi,List.filter_append,List.map_append]
 generalize l.getD i default=g
 cases hb:(n.n.getD g.2.toNat default).2
 ·rw [List.filter_cons_of_pos (by rw [hb];rfl)];rfl
 ·rw [List.filter_cons_of_neg (by rw [hb];simp)];simp
theorem zNo {n:Nw} {w:List Int} {g:Int×Int} (hg:g∈zAT n w):∃ h i:Nat,h<n.h.toNat∧i<n.n.length∧g=((h:Int),(i:Int))∧zQu n w h i=true:=by
 simp only [zAT,zTo,List.mem_flatMap,List.mem_range,zPC,List.mem_map,List.mem_filter] at hg
 obtain ⟨h,hh,i,⟨hi,hb⟩,rfl⟩:=hg
 exact ⟨h,i,hh,hi,rfl,hb⟩
theorem f26_1 (n:Nw) (cs:List (Int×Int)) (e:Int) (ho:EvOk n cs e):FG 26 [nwV n,prs cs,I e] (.tup [.own 1 ((zGT (msl n (zAT n (zAL n cs e.toNat)))).map I),I 0]):=by
 have hn:=ho.cr.nw
 have hX:=zDi (w:=zAL n cs e.toNat) hn
 have yv:∀ g∈zAT n (zAL n cs e.toNat),0≤g.2∧g.2<n.n.length:=fun g hg=>by
  obtain ⟨h,i,h1,h2,rfl,_⟩:=zNo hg
  simp only;omega
 have h1:=f22_1 n cs e ho
 generalize zAT n (zAL n cs e.toNat)=G at *
 refine zAf Tryz.f26 ?_
 refine zAd 3<|zAa<|zAd 3<|S_a [(10,.ret (PV.tup [PV.own 2 (List.map prV G),I 0]) [])] (ap h1 an)<|zAc 5<|zAa<|zAg<|zAd 2<|zAa<|zAW<|zAj<|zAd 1<|zAa<|zAg<|zAd 1<|S_a [(0,.n G.length)] (ap (lnS prV G) an)<|zAc 1<|zAa<|zAh 0 ?_
 refine zAo (fun (i,l)=>i≤G.length∧l=msl n (G.take i)) (fun (i,l)=>[(10,.own 1 (l.map I)),(25,I (i:Nat))]) (fun (i,_)=>G.length-i) ((0:Nat),([]:List Int)) ⟨by omega,by simp [msl]⟩ fun (i,l) ⟨hi,hl⟩=>?_
 have qG:l.length≤i:=by
  rw [hl,msl,List.length_map]
  exact Nat.le_trans (List.length_filter_le _ _) (by rw [List.length_take];omega)
 by_cases yB:i<G.length
 ·have yU:=zSI (n:=n) yB
  rw [← hl] at yU
  have jm:=zBz (d:=default) yv i yB
  clear h1 yv
  refine zAd 1<|zAa<|zAg<|zAJ ((↑i:Int)<(↑G.length:Int)) (by omega)<|zAj<|zAg<|zAh 1<|zAg<|zAe<|S_a [(2,.ob),(1,.n i)] (ap ((by exact zAr (by simp only [List.length_map,zzLn]<;>omega)):decide (i<(List.map prV G).length)=true)<|ap ((by simp):some (0+i)=some i) an)<|S_a [(0,.cs true ([I (G.getD i default).fst,I (G.getD i default).snd]))] (ap (zDb (q:=PV.own 2 (List.map prV G)) (xs:=List.map prV G) (x:=PV.agg [I (G.getD i default).fst,I (G.getD i default).snd]) rfl (zBx default (by omega)):zAv 8 (PV.own 2 (List.map prV G)) [] i 0 Tryz.prog.types[108].size=some (true,[I (G.getD i default).fst,I (G.getD i default).snd])) an)<|zAc 2<|zAa<|zAd 4<|S_a [(0,.ob),(1,.v (PV.agg [I (n.n.getD (G.getD i default).snd.toNat default).fst,PV.bool (n.n.getD (G.getD i default).snd.toNat default).snd]))] (ap ((by exact zAr (by omega)):decide (0≤(G.getD i default).snd)=true)<|ap (zBx default (by omega):(List.map ntV n.n)[(G.getD i default).snd.toNat]? = some (PV.agg [I (n.n.getD (G.getD i default).snd.toNat default).fst,PV.bool (n.n.getD (G.getD i default).snd.toNat default).snd])) an)<|zAc 3<|zAa<|zDf (!(n.n.getD (G.getD i default).snd.toNat default).snd) (fun k0=>(zAe<|zAc 4<|S_a [(4,.ob),(0,.ob),(0,.yes),(2,.v (PV.own 1 (List.map I (l++[(G.getD i default).fst]))))] (ap (blz (List.map I l))<|ap ((by exact zA9 (by simp only [List.length_map,zzLn,zA1]<;>omega)):((List.map I l).length + [I (G.getD i default).fst].length).ble zA1=true)<|ap ((by exact zBj (by simp<;>omega)):(0+(List.map I l).length).beq (List.map I l).length=true)<|ap ((zAE (zB0 (by kernel_rfl))):PV.own 1 (List.map I l++[I (G.getD i default).fst])=PV.own 1 (List.map I (l++[(G.getD i default).fst]))) an)<|zAc 1<|zAa<|zAe<|S_a [(1,.v (I (↑(i+1):Int)))] (ap (wrN i) an)<|zAc 1<|zAa ?_)) (fun k0=>(zAj<|zAe<|S_a [(1,.v (I (↑(i+1):Int)))] (ap (wrN i) an)<|zAc 1<|zAa ?_))
  ·rw [Bool.not_eq_true'] at k0
   rw [if_neg (by rw [k0];simp)] at yU
   exact ⟨(i+1,l++[(G.getD i default).1]),⟨by omega,yU.symm⟩,by simp only;omega,by kernel_rfl,by kernel_rfl⟩
  ·rw [Bool.not_eq_false'] at k0
   rw [if_pos k0] at yU
   exact ⟨(i+1,l),⟨by omega,yU.symm⟩,by simp only;omega,by kernel_rfl,by kernel_rfl⟩
 ·rw [List.take_of_length_le (by omega)] at hl
  rw [← hl]
  clear h1 yv
  refine zAd 1<|zAa<|zAg<|zAK ((↑i:Int)<(↑G.length:Int)) (by omega)<|zAs 0<|zAd 1<|S_a [(3,.ob),(1,.v (PV.own 1 (List.map I l))),(2,.ret (PV.own 1 (List.map I (zGT l))) [])] (ap ((by exact zA9 (by simp only [List.length_map,zzLn,zA1]<;>omega)):(List.map I l).length.ble (List.map I l).length=true)<|ap ((zAE zAz):PV.own 1 (List.take (List.map I l).length (List.drop 0 (List.map I l)))=PV.own 1 (List.map I l))<|ap (f97 l (by omega)) an)<|zAc 2<|zAa<|zAm<|E_a [(1,.yes),(1,.v (PV.own 1 (List.map I (zGT l))))] (ap (blz (List.map I (zGT l)))<|ap ((zAE zAz):PV.own 1 (List.take (List.map I (zGT l)).length (List.drop 0 (List.map I (zGT l))))=PV.own 1 (List.map I (zGT l))) an) (PV.tup [PV.own 1 (List.map I (zGT l)),I 0]) [] rfl rfl
theorem f29_1 (n:Nw) (cs:List (Int×Int)) (k:Nat) (ho:CrOk n cs) (hk:k≤1000) (he:zAL n cs (k+1)=zAL n cs k) (hm:∀ j,j<k→zAL n cs (j+1)≠zAL n cs j):FG 29 [nwV n,prs cs] (.tup [I k,I 0]):=by
 have hn:=ho.nw
 have kg:=ho.w
 have y6:=zOT (n:=n) (cs:=cs)
 refine zAf Tryz.f29 ?_
 refine zAd 3<|zAa<|zAd 2<|S_a [(8,.ret (PV.tup [zDv n cs,I 0]) [])] (ap (f99_1 n cs (by omega)) an)<|zAc 5<|zAa<|zAg<|zAd 2<|zAa<|zAW<|zAj<|zAd 1<|S_a [(5,.ret (hdV (zOf n cs)) [])] (ap (f100 n cs (by omega)) an)<|zAc 3<|zAa<|zAg<|zAd 2<|S_a [(7,.ret (hdV (zDZ n (zOf n cs))) [])] (ap (f101 n cs (zOf n cs) (by omega) (by omega)) an)<|zAc 2<|zAa<|zAh 0 ?_
 refine zAo (fun j=>j≤k) (fun (j:Nat)=>[(8,I (j:Nat)),(9,.box (hdV (zAL n cs j))),(10,.box (hdV (zAL n cs (j+1))))]) (fun j=>k-j) (0:Nat) (by omega) fun j hj=>?_
 have wd:=zCT (n:=n) (cs:=cs) j
 have hl2:=zCT (n:=n) (cs:=cs) (j+1)
 by_cases wI:j<k
 ·have hI:=hm j wI
  refine zAg<|zAd 2<|S_a [(0,.v (PV.bool !decide (zAL n cs (j+1)=zAL n cs j)))] (ap (zR5 80 (by omega) (by omega):zHx Tryz.prog BinOp.neq 130 (PV.agg (zAQ (zAL n cs (j+1)) 80)) (PV.agg (zAQ (zAL n cs j) 80))=some (PV.bool !decide (zAL n cs (j+1)=zAL n cs j))) an)<|zAa<|zCH (zAL n cs (j+1)=zAL n cs j) (by omega)<|zAj<|zAg<|zAh 1<|zAd 2<|zAa<|zAe<|zAc 1<|S_a [(1,.v (I (↑(j+1):Int)))] (ap (wrN j) an)<|zAc 1<|zAa<|zAg<|zAd 1<|zAa<|zAe<|zAc 2<|zAa<|zAe<|zAc 2<|S_a [(7,.ret (hdV (zDZ n (zAL n cs (j+1)))) [])] (ap (f101 n cs (zAL n cs (j+1)) (by omega) (by omega)) an)<|zAc 1<|zAa ?_
  exact ⟨j+1,by omega,by omega,by kernel_rfl,by kernel_rfl⟩
 ·have e:j=k:=by omega
  subst e
  refine zAg<|zAd 2<|S_a [(0,.v (PV.bool !decide (zAL n cs (j+1)=zAL n cs j)))] (ap (zR5 80 (by omega) (by omega):zHx Tryz.prog BinOp.neq 130 (PV.agg (zAQ (zAL n cs (j+1)) 80)) (PV.agg (zAQ (zAL n cs j) 80))=some (PV.bool !decide (zAL n cs (j+1)=zAL n cs j))) an)<|zAa<|zFF (zAL n cs (j+1)=zAL n cs j) (by omega)<|zAs 0<|zAd 3<|zAa<|zAm<|E_a [] an (PV.tup [I (↑j:Int),I 0]) [] rfl rfl
def zUU (n:Nw) (cs:List (Int×Int)) (k:Nat):Int:=(List.range k).foldl (fun a k=>if zAT n (zAL n cs k)=[] then a else (k:Int)+1) 0
theorem zSn {n:Nw} {cs:List (Int×Int)} {k:Nat}:zUU n cs (k+1)=if zAT n (zAL n cs k)=[] then zUU n cs k else (k:Int)+1:=by
 simp only [zUU,List.range_succ,List.foldl_append,List.foldl_cons,List.foldl_nil]
theorem f31_1 (n:Nw) (cs:List (Int×Int)) (ho:CrOk n cs):FG 31 [nwV n,prs cs] (.tup [if zAT n (zAL n cs 12)=[] then I (zUU n cs 12) else I 0,if zAT n (zAL n cs 12)=[] then I 0 else I 6]):=by
 have hn:=ho.nw
 have kg:=ho.w
 refine zAf Tryz.f31 ?_
 refine zAd 3<|zAa<|zAd 2<|S_a [(8,.ret (PV.tup [zDv n cs,I 0]) [])] (ap (f99_1 n cs (by omega)) an)<|zAc 5<|zAa<|zAg<|zAd 2<|zAa<|zAW<|zAj<|zAd 1<|S_a [(5,.ret (hdV (zOf n cs)) [])] (ap (f100 n cs (by omega)) an)<|zAc 3<|zAa<|zAg<|zAd 1<|zAa<|zAh 0 ?_
 refine zAo (fun k=>k≤12) (fun (k:Nat)=>[(8,I (zUU n cs k)),(9,.box (hdV (zAL n cs k))),(22,I (k:Nat))]) (fun k=>12-k) (0:Nat) (by omega) fun k hk=>?_
 have wd:=zCT (n:=n) (cs:=cs) k
 have gb:=zDi (w:=zAL n cs k) hn
 by_cases kK:k<12
 ·have yQ:=zSn (n:=n) (cs:=cs) (k:=k)
  refine zAd 1<|zAa<|zAg<|zAJ ((↑k:Int)<12) (by omega)<|zAj<|zAg<|zAh 1<|zAd 2<|zAa<|zAg<|zAd 2<|S_a [(7,.ret (PV.own 2 (List.map prV (zAT n (zAL n cs k)))) [])] (ap (f91 n cs (zAL n cs k) (by omega) (by omega)) an)<|S_a [(0,.n ((zAT n (zAL n cs k)).length))] (ap (lnS prV (zAT n (zAL n cs k))) an)<|zAc 1<|zAa<|zBZ ((↑(zAT n (zAL n cs k)).length:Int)>0) (fun k1=>(zAe<|zAc 1<|S_a [(1,.v (I (↑(k+1):Int)))] (ap (wrN k) an)<|zAc 1<|zAa<|zAe<|zAc 2<|S_a [(7,.ret (hdV (zDZ n (zAL n cs k))) [])] (ap (f101 n cs (zAL n cs k) (by omega) (by omega)) an)<|zAc 1<|zAa<|zAe<|S_a [(1,.v (I (↑(k+1):Int)))] (ap (wrN k) an)<|zAc 1<|zAa ?_)) (fun k1=>(zAj<|zAe<|zAc 2<|S_a [(7,.ret (hdV (zDZ n (zAL n cs k))) [])] (ap (f101 n cs (zAL n cs k) (by omega) (by omega)) an)<|zAc 1<|zAa<|zAe<|S_a [(1,.v (I (↑(k+1):Int)))] (ap (wrN k) an)<|zAc 1<|zAa ?_))
  ·rw [if_neg (by intro h;rw [h] at k1;simp at k1)] at yQ
   exact ⟨k+1,by omega,by omega,by rw [yQ];kernel_rfl,by kernel_rfl⟩
  ·rw [if_pos (List.eq_nil_of_length_eq_zero (by omega))] at yQ
   exact ⟨k+1,by omega,by omega,by rw [yQ];kernel_rfl,by kernel_rfl⟩
 ·have e:k=12:=by omega
  subst e
  refine zAd 1<|zAa<|zAg<|zAW<|zAs 0<|zAg<|zAd 2<|S_a [(7,.ret (PV.own 2 (List.map prV (zAT n (zAL n cs 12)))) [])] (ap (f91 n cs (zAL n cs 12) (by omega) (by omega)) an)<|S_a [(0,.n ((zAT n (zAL n cs 12)).length))] (ap (lnS prV (zAT n (zAL n cs 12))) an)<|zAc 1<|zAa<|zBZ ((↑(zAT n (zAL n cs 12)).length:Int)>0) (fun k0=>(zAd 2<|zAa<|zAm<|E_a [] an (PV.tup [I 0,I 6]) [] ?_ rfl)) (fun k0=>(zAj<|zAd 3<|zAa<|zAm<|E_a [] an (PV.tup [I (zUU n cs 12),I 0]) [] ?_ rfl))
  ·have h:¬ zAT n (zAL n cs 12)=[]:=by intro h;rw [h] at k0;simp at k0
   rw [if_neg h,if_neg h]
  ·have h:zAT n (zAL n cs 12)=[]:=List.eq_nil_of_length_eq_zero (by omega)
   rw [if_pos h,if_pos h]
end Go.Eng
namespace Go.Eng
open Go Go.Proofs
theorem zHj {n:Nw} (ho:NwOk n) (j:Nat):∀ i,j<i→i≤n.n.length→(zOy n.n i).getD j 0=(zOy n.n (j+1)).getD j 0
 | 0,h,_=>absurd h (Nat.not_lt_zero j)
 | i + 1,h,hi=>by
  have h8:=ho.nl.2
  by_cases hj:j=i
  ·subst hj;rfl
  ·rw [zOy,zJO (zHh i) (by omega) (ho.na i (by omega)),if_neg hj]
   exact zHj ho j i (by omega) (by omega)
theorem zM7 {n:Nw} (ho:NwOk n) {i:Nat} (hi:i<n.n.length):(zAk n).getD i 0=if (n.n.getD i default).1 = -1 then (i:Int) else (zAk n).getD (n.n.getD i default).1.toNat 0:=by
 have h8:=ho.nl.2
 have ha:=ho.na i hi
 unfold zAk
 rw [zHj ho i n.n.length hi (Nat.le_refl _),zOy,zJO (zHh i) (by omega) ha,if_pos rfl]
 split
 ·rfl
 ·rename_i hI
  rw [zHj ho (n.n.getD i default).1.toNat i (by omega) (by omega),zHj ho (n.n.getD i default).1.toNat n.n.length (by omega) (Nat.le_refl _)]
def chn (n:Nw) (i j:Nat):Prop:=(zAk n).getD i 0=(zAk n).getD j 0
theorem zOk {n:Nw} (ho:NwOk n):∀ (j i:Nat),i<j→j<n.n.length→chn n i j→∃ k,i<k∧k≤j∧k<n.n.length∧(n.n.getD k default).1=i∧chn n k j:=by
 intro j
 induction j using Nat.strongRecOn with
 | ind j ih =>
  intro i qF hj hc
  have ha:=ho.na j hj
  have hr:=zM7 ho hj
  have uV:=zCj ho i (by omega)
  by_cases h:(n.n.getD j default).1 = -1
  ·rw [if_pos h] at hr
   unfold chn at hc
   omega
  ·rw [if_neg h] at hr
   by_cases he:(n.n.getD j default).1=(i:Int)
   ·exact ⟨j,qF,Nat.le_refl _,hj,he,rfl⟩
   ·by_cases yJ:(i:Int)<(n.n.getD j default).1
    ·obtain ⟨k,h1,h2,h3,h4,h5⟩:=ih (n.n.getD j default).1.toNat (by omega) i (by omega) (by omega) (by unfold chn at hc ⊢;rw [hc,hr])
     exact ⟨k,h1,by omega,h3,h4,by unfold chn at h5 ⊢;rw [h5,hr]⟩
    ·
     exfalso
     obtain ⟨k,h1,h2,h3,h4,_⟩:=ih i qF (n.n.getD j default).1.toNat (by omega) (by omega) (by unfold chn at hc ⊢;rw [← hr,hc])
     exact ho.nd j k (by omega) hj h (by rw [h4];omega)
theorem zGj {F L:List Int} {i j:Nat} (h:i≠j):∀ k,(zTN F i L k).getD j 0=L.getD j 0
 | 0=>rfl
 | k+1=>by
  rw [zG7,zMP]
  split
  ·rw [zCS,if_neg (fun h2=>h h2.1)];exact zGj h k
  ·exact zGj h k
theorem zQ8 {F L:List Int} {i:Nat} (hL:L.length=8) (hi:i<8) (h0:L.getD i 0=0):∀ k,∃ l:Nat,(zTN F i L k).getD i 0=l∧(l=0∨l<k∧F.getD l 0=F.getD i 0)∧∀ j,j<k→F.getD j 0=F.getD i 0→j≤l
 | 0=>⟨0,h0,.inl rfl,fun j hj=>absurd hj (Nat.not_lt_zero j)⟩
 | k + 1 => by
  obtain ⟨l,h1,h2,h3⟩:=zQ8 hL hi h0 k
  rw [zG7,zMP]
  split
  ·rename_i hk
   refine ⟨max l k,?_,?_,fun j hj hf=>?_⟩
   ·rw [zCS,if_pos ⟨rfl,by rw [zIn];omega⟩,h1];omega
   ·by_cases yF:l≤k
    ·right;rw [Nat.max_eq_right yF];exact ⟨by omega,hk⟩
    ·rw [Nat.max_eq_left (by omega)]
     rcases h2 with h2 | ⟨h2,h4⟩
     ·exact .inl h2
     ·exact .inr ⟨by omega,h4⟩
   ·by_cases wI:j=k
    ·omega
    ·have:=h3 j (by omega) hf;omega
  ·rename_i hk
   refine ⟨l,h1,?_,fun j hj hf=>?_⟩
   ·rcases h2 with h2 | ⟨h2,h4⟩
    ·exact .inl h2
    ·exact .inr ⟨by omega,h4⟩
   ·by_cases wI:j=k
    ·subst wI;exact absurd hf hk
    ·exact h3 j (by omega) hf
theorem zMT {F:List Int} {m:Nat}:∀ i j,i≤j→(zQq F m i).getD j 0=0
 | 0,j,_=>by
  simp only [zQq,List.range_zero,List.foldl_nil,List.getD_eq_getElem?_getD,List.getElem?_replicate]
  split<;>rfl
 | i+1,j,h=>by rw [zFO,zGj (by omega)];exact zMT i j (by omega)
theorem zMA {F:List Int} {m j:Nat}:∀ i,j<i→(zQq F m i).getD j 0=(zQq F m (j+1)).getD j 0
 | 0,h=>absurd h (Nat.not_lt_zero j)
 | i+1,h=>by
  by_cases hj:j=i
  ·subst hj;rfl
  ·rw [zFO,zGj (by omega)];exact zMA i (by omega)
theorem zQ9 {n:Nw} (ho:NwOk n) {i:Nat} (hi:i<n.n.length):∃ l:Nat,(zA2 n).getD i 0=l∧l<n.n.length∧chn n l i∧i≤l∧∀ k,k<n.n.length→chn n k i→k≤l:=by
 have h8:=ho.nl.2
 obtain ⟨l,h1,h2,h3⟩:=zQ8 (F:=zAk n) (i:=i) (zLq (F:=zAk n) (m:=n.n.length) i) (by omega) (zMT i i (Nat.le_refl i)) n.n.length
 have yB:=h3 i hi rfl
 refine ⟨l,?_,?_,?_,yB,fun k hk hc=>h3 k hk hc⟩
 ·unfold zA2
  rw [zMA n.n.length hi,zFO];exact h1
 ·rcases h2 with h2 | ⟨h2,_⟩<;>omega
 ·rcases h2 with h2 | ⟨_,h4⟩
  ·have:i=l:=by omega
   subst this;rfl
  ·exact h4
end Go.Eng
set_option maxRecDepth 10000
set_option maxHeartbeats 4000000
namespace Go.Eng
open Go Go.Proofs
def zLw (n:Nw) (x:Int):Int:=zEo (fun y=>decide (y.1=x)) n.n
theorem f143 (n:Nw) (x:Int) (hl:n.n.length<1000000):FG 143 [nwV n,I x] (I (zLw n x)):=by
 refine zAf Tryz.f143 ?_
 refine zAd 2<|zAa<|zAg<|zAd 1<|zAa<|zAh 0 ?_
 refine zAo (fun i=>i≤n.n.length∧∀ j,j<i→decide ((n.n.getD j default).1=x)=false) (fun (i:Nat)=>[(5,I (i:Nat))]) (fun i=>n.n.length-i) (0:Nat) ⟨by omega,fun j hj=>absurd hj (Nat.not_lt_zero j)⟩ fun i ⟨hi,ha⟩=>?_
 refine zAg<|zAd 3<|S_a [(0,.n n.n.length)] (ap (lnS ntV n.n) an)<|zAc 1<|zAa<|zBZ ((↑i:Int)<(↑n.n.length:Int)) (fun k0=>(zAj<|zAg<|zAh 1<|zAd 3<|S_a [(2,.v (PV.agg [I (n.n.getD i default).fst,PV.bool (n.n.getD i default).snd]))] (ap (zBx default (by omega):(List.map ntV n.n)[i]? = some (PV.agg [I (n.n.getD i default).fst,PV.bool (n.n.getD i default).snd])) an)<|zAc 4<|zAa<|zBZ ((n.n.getD i default).fst=x) (fun k1=>(zAd 2<|zAa<|zAm<|E_a [] an (I (↑i:Int)) [] ?_ rfl)) (fun k1=>(zAj<|zAe<|zAc 1<|S_a [(1,.v (I (↑(i+1):Int)))] (ap (wrN i) an)<|zAc 1<|zAa ?_)))) (fun k0=>(zAs 0<|zAd 1<|zAa<|zAm<|E_a [] an (I (-1)) [] ?_ rfl))
 ·rw [zLw,zBO (i:=i) (by omega) (fun j hj=>by rw [← zAq (d:=default)];exact ha j hj) (by rw [← zAq (d:=default)];exact decide_eq_true (by assumption))]
 ·refine ⟨i+1,⟨by omega,fun j hj=>?_⟩,by omega,by kernel_rfl,by kernel_rfl⟩
  rcases Nat.lt_succ_iff_lt_or_eq.1 hj with h | rfl
  ·exact ha j h
  ·exact decide_eq_false (by assumption)
 ·rw [zLw,zB1 fun j hj=>by rw [← zAq (d:=default)];exact ha j (by omega)]
def zUy (a b:Int) (x:Int×Int):Bool:=decide (x.1=a∧x.2=b∨x.1=b∧x.2=a)
def zRO (n:Nw) (a b:Int):Bool:=n.l.any (zUy a b)
theorem zO1 {a b:Int} {x:Int×Int}:pr2 x=pr2 (a,b)↔x.1=a∧x.2=b∨x.1=b∧x.2=a:=by
 obtain ⟨c,d⟩:=x
 simp only [pr2,Prod.mk.injEq]
 constructor
 ·rintro ⟨h1,h2⟩
  repeat' split at h1
  all_goals (repeat' split at h2)
  all_goals omega
 ·intro h
  constructor
  ·repeat' split
   all_goals omega
  ·repeat' split
   all_goals omega
theorem zVA {n:Nw} {a b:Int}:zRO n a b=zGp n a b:=by
 rw [Bool.eq_iff_iff]
 simp only [zRO,zGp,List.any_eq_true,zUy,decide_eq_true_eq,List.mem_map]
 constructor
 ·rintro ⟨x,hx,h⟩;exact ⟨x,hx,zO1.2 h⟩
 ·rintro ⟨x,hx,h⟩;exact ⟨x,hx,zO1.1 h⟩
theorem f114 (n:Nw) (a b:Int) (hl:n.l.length<1000000):FG 114 [nwV n,I a,I b] (.bool (zGp n a b)):=by
 rw [← zVA]
 refine zAf Tryz.f114 ?_
 refine zAd 2<|zAa<|zAg<|zAd 1<|zAa<|zAh 0 ?_
 refine zAo (fun i=>i≤n.l.length∧∀ j,j<i→zUy a b (n.l.getD j default)=false) (fun (i:Nat)=>[(7,I (i:Nat))]) (fun i=>n.l.length-i) (0:Nat) ⟨by omega,fun j hj=>absurd hj (Nat.not_lt_zero j)⟩ fun i ⟨hi,ha⟩=>?_
 by_cases yB:i<n.l.length
 ·have yC:zUy a b (n.l.getD i default)=false→∀ j,j<i+1→zUy a b (n.l.getD j default)=false:=fun h j hj=>by
   rcases Nat.lt_succ_iff_lt_or_eq.1 hj with h2 | rfl
   ·exact ha j h2
   ·exact h
  have uh:zUy a b (n.l.getD i default)=true→zRO n a b=true:=fun h=>by
   rw [zAq yB] at h
   exact List.any_eq_true.2 ⟨_,List.getElem_mem yB,h⟩
  clear ha
  refine zAg<|zAd 3<|S_a [(0,.n n.l.length)] (ap (lnS prV n.l) an)<|zAc 1<|zAa<|zAJ ((↑i:Int)<(↑n.l.length:Int)) (by omega)<|zAj<|zAg<|zAh 1<|zAd 3<|S_a [(2,.v (PV.agg [I (n.l.getD i default).fst,I (n.l.getD i default).snd]))] (ap (zBx default (by omega):(List.map prV n.l)[i]? = some (PV.agg [I (n.l.getD i default).fst,I (n.l.getD i default).snd])) an)<|zAc 3<|zAa<|zAd 1<|zAc 4<|zDa 25 ((n.l.getD i default).fst=a) (fun k0=>(zAc 1<|zAc 5<|zDa 31 ((n.l.getD i default).snd=b) (fun k1=>(zAc 11<|zAa<|zBM<|zAd 1<|zAa<|zAm<|E_a [] an (PV.bool true) [] ?_ rfl)) (fun k1=>(zAc 1<|zAc 4<|zDa 36 ((n.l.getD i default).fst=b) (fun k2=>(zAc 1<|zAc 5<|zAa<|zAK ((n.l.getD i default).snd=a) (by omega)<|zAj<|zAe<|zAc 1<|S_a [(1,.v (I (↑(i+1):Int)))] (ap (wrN i) an)<|zAc 1<|zAa ?_)) (fun k2=>(zAc 6<|zAa<|zAW<|zAj<|zAe<|zAc 1<|S_a [(1,.v (I (↑(i+1):Int)))] (ap (wrN i) an)<|zAc 1<|zAa ?_)))))) (fun k0=>(zAc 6<|zAc 1<|zAc 4<|zDa 36 ((n.l.getD i default).fst=b) (fun k3=>(zAc 1<|zAc 5<|zAa<|zBZ ((n.l.getD i default).snd=a) (fun k4=>(zAd 1<|zAa<|zAm<|E_a [] an (PV.bool true) [] ?_ rfl)) (fun k4=>(zAj<|zAe<|zAc 1<|S_a [(1,.v (I (↑(i+1):Int)))] (ap (wrN i) an)<|zAc 1<|zAa ?_)))) (fun k3=>(zAc 6<|zAa<|zAW<|zAj<|zAe<|zAc 1<|S_a [(1,.v (I (↑(i+1):Int)))] (ap (wrN i) an)<|zAc 1<|zAa ?_))))
  all_goals first | (rw [uh (by simp only [zUy,decide_eq_true_eq];omega)];done) | exact ⟨i+1,⟨by omega,yC (by simp only [zUy,decide_eq_false_iff_not];omega)⟩,by omega,by kernel_rfl,by kernel_rfl⟩
 ·refine zAg<|zAd 3<|S_a [(0,.n n.l.length)] (ap (lnS prV n.l) an)<|zAc 1<|zAa<|zAK ((↑i:Int)<(↑n.l.length:Int)) (by omega)<|zAs 0<|zAd 1<|zAa<|zAm<|E_a [] an (PV.bool false) [] ?_ rfl
  have:zRO n a b=false:=by
   simp only [zRO,List.any_eq_false,Bool.not_eq_true]
   intro x hx
   obtain ⟨j,hj,rfl⟩:=List.getElem_of_mem hx
   have:=ha j (by omega)
   rwa [zAq hj] at this
  rw [this]
end Go.Eng
set_option maxRecDepth 10000
set_option maxHeartbeats 4000000
namespace Go.Eng
open Go Go.Proofs
abbrev bls (l:List Bool):PV := .sl (l.map PV.bool)
abbrev knV (K:List (List Bool)):PV := .sl (K.map bls)
def kn (K:List (List Bool)) (h i:Nat):Bool:=(K.getD h []).getD i false
structure RelK (n:Nw) (K:List (List Bool)) (w:List Int):Prop where
 len:K.length=n.h.toNat
 row:∀ r∈K,r.length=n.n.length
 wl:w.length=80
 top:∀ h i,h<n.h.toNat→i<n.n.length→kn K h i=true→(i:Int)≤w.getD (h*8+((zAk n).getD i 0).toNat) 0
 at_:∀ h c,h<n.h.toNat→c<8→w.getD (h*8+c) 0 = -1∨∃ i,i<n.n.length∧(zAk n).getD i 0=c∧w.getD (h*8+c) 0=i∧kn K h i=true
def hld (n:Nw) (w:List Int) (h i:Nat):Bool:=decide (w.getD (h*8+((zAk n).getD i 0).toNat) 0=i)
theorem zT1 {n:Nw} {x:Int} (h:zLw n x≠-1):∃ k:Nat,zLw n x=k∧k<n.n.length∧(n.n.getD k default).1=x:=by
 unfold zLw zEo at h ⊢
 split
 ·rename_i yJ
  have hp:=List.findIdx_getElem (w:=yJ)
  exact ⟨_,rfl,yJ,by rw [zAq yJ];simpa using hp⟩
 ·rename_i hn;rw [if_neg hn] at h;exact absurd rfl h
theorem zTE {n:Nw} {x:Int} (h:zLw n x = -1) (k:Nat) (hk:k<n.n.length):(n.n.getD k default).1≠x:=by
 have h2:=zD2 (fun y:Int×Bool=>decide (y.1=x)) n.n
 unfold zLw at h
 rw [h] at h2
 intro he
 have:(n.n.any fun y=>decide (y.1=x))=true:=List.any_eq_true.2 ⟨_,List.getElem_mem hk,by rw [zAq hk] at he;simpa using he⟩
 rw [this] at h2;cases h2
theorem zVp {n:Nw} (ho:NwOk n) {i k:Nat} (hk:k<n.n.length) (h:(n.n.getD k default).1=i):i<k∧chn n k i:=by
 have ha:=ho.na k hk
 have hr:=zM7 ho hk
 refine ⟨by omega,?_⟩
 rw [if_neg (by omega),h,Int.toNat_natCast] at hr
 exact hr
theorem zS1 {n:Nw} (ho:NwOk n) {a b:Nat} {x:Int} (hx:0≤x) (ha:a<n.n.length) (hb:b<n.n.length) (h1:(n.n.getD a default).1=x) (h2:(n.n.getD b default).1=x):a=b:=by
 by_cases h:a=b
 ·exact h
 ·exfalso
  by_cases yJ:a<b
  ·exact ho.nd b a yJ hb (by omega) (by rw [h1,h2])
  ·exact ho.nd a b (by omega) ha (by omega) (by rw [h1,h2])
theorem zLy {n:Nw} (ho:NwOk n) {i:Nat} (hi:i<n.n.length):(zLw n i = -1∧∀ k,k<n.n.length→chn n k i→¬ i<k)∨∃ m:Nat,zLw n i=m∧i<m∧m<n.n.length∧chn n m i∧∀ k,k<n.n.length→chn n k i→i<k→m≤k:=by
 by_cases h:zLw n i = -1
 ·left
  refine ⟨h,fun k hk hc wJ=>?_⟩
  obtain ⟨j,_,_,h3,h4,_⟩:=zOk ho k i wJ hk hc.symm
  exact zTE h j h3 h4
 ·right
  obtain ⟨m,h1,h2,h3⟩:=zT1 h
  obtain ⟨h4,h5⟩:=zVp ho h2 h3
  refine ⟨m,h1,h4,h2,h5,fun k hk hc wJ=>?_⟩
  obtain ⟨j,g1,g2,g3,g4,_⟩:=zOk ho k i wJ hk hc.symm
  have:=zS1 ho (by omega) h2 g3 h3 g4
  omega
theorem zWv {n:Nw} {K:List (List Bool)} {w:List Int} {h i:Nat} (ho:NwOk n) (hr:RelK n K w) (hh:h<n.h.toNat) (hi:i<n.n.length) (h1:kn K h i=true) (h2:∀ k,k<n.n.length→chn n k i→i<k→kn K h k=false):hld n w h i=true:=by
 have hfb:=zCj ho i hi
 have ka:=ho.nl.2
 have ht:=hr.top h i hh hi h1
 rcases hr.at_ h ((zAk n).getD i 0).toNat hh (by omega) with h3 | ⟨j,g1,g2,g3,g4⟩
 ·omega
 ·by_cases hj:j=i
  ·subst hj;simpa only [hld,decide_eq_true_eq] using g3
  ·have:=h2 j g1 (by unfold chn;omega) (by omega)
   rw [this] at g4;cases g4
theorem zSO {n:Nw} {K:List (List Bool)} {w:List Int} {h i:Nat} (ho:NwOk n) (hr:RelK n K w) (hh:h<n.h.toNat) (hi:i<n.n.length) (h1:kn K h i=false∨∃ k,k<n.n.length∧chn n k i∧i<k∧kn K h k=true):hld n w h i=false:=by
 have hfb:=zCj ho i hi
 have ka:=ho.nl.2
 simp only [hld,decide_eq_false_iff_not]
 intro he
 rcases h1 with h1 | ⟨k,g1,g2,g3,g4⟩
 ·rcases hr.at_ h ((zAk n).getD i 0).toNat hh (by omega) with h3 | ⟨j,g1,g2,g3,g4⟩
  ·omega
  ·have:j=i:=by omega
   subst this;rw [h1] at g4;cases g4
 ·have:=hr.top h k hh g1 g4
  unfold chn at g2
  rw [g2] at this;omega
theorem zXF (n:Nw) (K:List (List Bool)) (w:List Int) (h i:Nat) (ho:NwOk n) (hr:RelK n K w) (hh:h<n.h.toNat) (hi:i<n.n.length):FG 113 [nwV n,knV K,I h,I i] (.bool (hld n w h i)):=by
 have ka:=ho.nl.2
 have kK:=hr.len
 have yD:(K.getD h []).length=n.n.length:=zBz (d:=[]) hr.row h (by omega)
 refine zAf Tryz.f113 ?_
 have kM:=zLy ho hi
 refine zAd 2<|zAa<|zAg<|zAd 2<|S_a [(2,.v (PV.sl (List.map PV.bool (K.getD h []))))] (ap (zBx [] (by omega):(List.map bls K)[h]? = some (PV.sl (List.map PV.bool (K.getD h [])))) an)<|zAc 2<|S_a [(2,.v (PV.bool ((K.getD h []).getD i false)))] (ap (zBx false (by omega):(List.map PV.bool (K.getD h []))[i]? = some (PV.bool ((K.getD h []).getD i false))) an)<|zAc 2<|zAa<|zDf (!(K.getD h []).getD i false) (fun k0=>(zAd 1<|zAa<|zAm<|E_a [] an (PV.bool false) [] ?_ rfl)) (fun k0=>(zAj<|zAg<|zAd 2<|S_a [(8,.ret (I (zLw n (↑i:Int))) [])] (ap (f143 n ((↑i:Int)) (by first | omega | (simp<;>omega))) an)<|zAc 1<|zAa<|zAh 0 ?_))
 ·rw [Bool.not_eq_true'] at k0
  rw [zSO ho hr hh hi (.inl k0)]
 ·refine zAo (fun (m:Int)=>(m = -1∨∃ k:Nat,m=k∧i<k∧k<n.n.length∧chn n k i)∧∀ k,k<n.n.length→chn n k i→i<k→(m = -1∨(k:Int)<m)→kn K h k=false) (fun m=>[(3,I m)]) (fun m=>(if m = -1 then 0 else n.n.length+1-m.toNat)) (zLw n i) ?_ fun m ⟨hm,ha⟩=>?_
  ·rcases kM with ⟨g1,g2⟩ | ⟨m,g1,g2,g3,g4,g5⟩
   ·exact ⟨.inl g1,fun k hk hc wJ _=>absurd wJ (g2 k hk hc)⟩
   ·exact ⟨.inr ⟨m,g1,g2,g3,g4⟩,fun k hk hc wJ hx=>by have:=g5 k hk hc wJ;omega⟩
  ·rw [Bool.not_eq_false'] at k0
   rcases hm with rfl | ⟨k,rfl,h1,h2,h3⟩
   ·have:=zWv ho hr hh hi k0 fun k hk hc wJ=>ha k hk hc wJ (.inl rfl)
    rw [this]
    clear ha kM
    refine zAg<|zAd 2<|zAa<|zAW<|zAs 0<|zAd 1<|zAa<|zAm<|E_a [] an (PV.bool true) [] rfl rfl
   ·have qR:=zLy ho h2
    clear kM
    refine zAg<|zAd 2<|zAa<|zBM<|zAj<|zAg<|zAh 1<|zAd 2<|S_a [(2,.v (PV.sl (List.map PV.bool (K.getD h []))))] (ap (zBx [] (by omega):(List.map bls K)[h]? = some (PV.sl (List.map PV.bool (K.getD h [])))) an)<|zAc 2<|S_a [(2,.v (PV.bool ((K.getD h []).getD k false)))] (ap (zBx false (by omega):(List.map PV.bool (K.getD h []))[k]? = some (PV.bool ((K.getD h []).getD k false))) an)<|zAc 1<|zAa<|zDf ((K.getD h []).getD k false) (fun k2=>(zAd 1<|zAa<|zAm<|E_a [] an (PV.bool false) [] ?_ rfl)) (fun k2=>(zAj<|zAe<|zAc 2<|S_a [(8,.ret (I (zLw n (↑k:Int))) [])] (ap (f143 n ((↑k:Int)) (by first | omega | (simp<;>omega))) an)<|zAc 1<|zAa ?_))
    ·rw [zSO ho hr hh hi (.inr ⟨k,h2,h3,h1,by assumption⟩)]
    ·have uk:kn K h k=false:=by assumption
     refine ⟨zLw n k,?_,?_,by kernel_rfl,by kernel_rfl⟩
     ·rcases qR with ⟨g1,g2⟩ | ⟨m,g1,g2,g3,g4,g5⟩
      ·refine ⟨.inl g1,fun j hj hc qF _=>?_⟩
       by_cases wI:j=k
       ·subst wI;exact uk
       ·by_cases yJ:j<k
        ·exact ha j hj hc qF (.inr (by omega))
        ·exact absurd (by omega:k<j) (g2 j hj (by unfold chn at *;omega))
      ·refine ⟨.inr ⟨m,g1,by omega,g3,by unfold chn at *;omega⟩,fun j hj hc qF hx=>?_⟩
       by_cases wI:j=k
       ·subst wI;exact uk
       ·by_cases yJ:j<k
        ·exact ha j hj hc qF (.inr (by omega))
        ·have:=g5 j hj (by unfold chn at *;omega) (by omega)
         omega
     ·rcases qR with ⟨g1,_⟩ | ⟨m,g1,g2,g3,_⟩
      ·rw [g1,if_pos rfl,if_neg (by omega)];omega
      ·rw [g1,if_neg (by omega),if_neg (by omega)];omega
end Go.Eng
set_option maxRecDepth 10000
set_option maxHeartbeats 4000000
namespace Go.Eng
open Go Go.Proofs
def hrB (n:Nw) (h i:Int) (c:Int×Int):Bool:=decide (c.1=i)&&has (n.s.getD c.2.toNat []) h
def zFI (n:Nw) (cs:List (Int×Int)) (h i:Int):Bool:=cs.any (hrB n h i)
theorem f141 (n:Nw) (cs:List (Int×Int)) (h i:Int) (ho:CrW n cs):FG 141 [nwV n,prs cs,I h,I i] (.bool (zFI n cs h i)):=by
 have hn:=ho.nw
 have yN:=ho.len
 have ji:=hn.sl.2
 refine zAf Tryz.f141 ?_
 refine zAd 2<|zAa<|zAg<|zAd 1<|zAa<|zAh 0 ?_
 refine zAo (fun j=>j≤cs.length∧∀ k,k<j→hrB n h i (cs.getD k default)=false) (fun (j:Nat)=>[(9,I (j:Nat))]) (fun j=>cs.length-j) (0:Nat) ⟨by omega,fun j hj=>absurd hj (Nat.not_lt_zero j)⟩ fun j ⟨hj,ha⟩=>?_
 by_cases yz:j<cs.length
 ·obtain ⟨jX,jH⟩:=zBz (d:=default) ho.cs j yz
  have ug:=zBz (d:=[]) hn.rows (cs.getD j default).2.toNat (by omega)
  have yC:hrB n h i (cs.getD j default)=false→∀ k,k<j+1→hrB n h i (cs.getD k default)=false:=fun h k hk=>by
   rcases Nat.lt_succ_iff_lt_or_eq.1 hk with h2 | rfl
   ·exact ha k h2
   ·exact h
  have uh:hrB n h i (cs.getD j default)=true→zFI n cs h i=true:=fun h=>by
   rw [zAq yz] at h
   exact List.any_eq_true.2 ⟨_,List.getElem_mem yz,h⟩
  clear ha
  refine zAg<|zAd 2<|S_a [(0,.n cs.length)] (ap (lnS prV cs) an)<|zAc 1<|zAa<|zAJ ((↑j:Int)<(↑cs.length:Int)) (by omega)<|zAj<|zAg<|zAh 1<|zAg<|zAd 2<|S_a [(2,.v (PV.agg [I (cs.getD j default).fst,I (cs.getD j default).snd]))] (ap (zBx default (by omega):(List.map prV cs)[j]? = some (PV.agg [I (cs.getD j default).fst,I (cs.getD j default).snd])) an)<|zAc 4<|zAa<|zDk ((cs.getD j default).fst=i) (fun k0=>(zAs 1<|zAe<|zAc 1<|S_a [(1,.v (I (↑(j+1):Int)))] (ap (wrN j) an)<|zAc 1<|zAa ?_)) (fun k0=>(zAj<|zAd 4<|S_a [(2,.v (PV.agg [I (cs.getD j default).fst,I (cs.getD j default).snd]))] (ap (zBx default (by omega):(List.map prV cs)[j]? = some (PV.agg [I (cs.getD j default).fst,I (cs.getD j default).snd])) an)<|zAc 2<|S_a [(0,.ob),(1,.v (zAw (n.s.getD (cs.getD j default).snd.toNat [])))] (ap ((by exact zAr (by omega)):decide (0≤(cs.getD j default).snd)=true)<|ap (zBx [] (by omega):(List.map zAw n.s)[(cs.getD j default).snd.toNat]? = some (zAw (n.s.getD (cs.getD j default).snd.toNat []))) an)<|zAc 2<|zAa<|zAd 1<|zAa<|zAh 2 ?_))
  ·exact ⟨j+1,⟨by omega,yC (by simp only [hrB,decide_eq_false (by assumption),Bool.false_and])⟩,by omega,by kernel_rfl,by kernel_rfl⟩
  ·have he:(cs.getD j default).1=i:=by first | assumption | (apply Decidable.of_not_not;assumption)
   refine zAo (fun k=>k≤(n.s.getD (cs.getD j default).2.toNat []).length∧∀ r,r<k→decide (h=(n.s.getD (cs.getD j default).2.toNat []).getD r 0)=false) (fun (k:Nat)=>[(11,I (k:Nat))]) (fun k=>(n.s.getD (cs.getD j default).2.toNat []).length-k) (0:Nat) ⟨by omega,fun j hj=>absurd hj (Nat.not_lt_zero j)⟩ fun k ⟨hk,hb⟩=>?_
   generalize hL:n.s.getD (cs.getD j default).2.toNat []=L at *
   by_cases kK:k<L.length
   ·refine zAg<|zAd 2<|S_a [(0,.n L.length)] (ap (lnS I L) an)<|zAc 1<|zAa<|zAJ ((↑k:Int)<(↑L.length:Int)) (by omega)<|zAj<|zAg<|zAh 3<|zAd 2<|S_a [(2,.v (I (L.getD k 0)))] (ap (zBx (0) (by omega):(List.map I L)[k]? = some (I (L.getD k 0))) an)<|zAc 3<|zAa<|zBZ (L.getD k 0=h) (fun k2=>(zAd 1<|zAa<|zAm<|E_a [] an (PV.bool true) [] ?_ rfl)) (fun k2=>(zAj<|zAe<|zAc 1<|S_a [(1,.v (I (↑(k+1):Int)))] (ap (wrN k) an)<|zAc 1<|zAa ?_))
    ·have h3:L.getD k 0=h:=by assumption
     have:has L h=true:=by
      rw [zLc,decide_eq_true_eq,← h3,zAq kK];exact List.getElem_mem kK
     rw [uh (by simp only [hrB,decide_eq_true he,hL,this];rfl)]
    ·refine ⟨k+1,⟨by omega,fun r hr=>?_⟩,by omega,by kernel_rfl,by kernel_rfl⟩
     rcases Nat.lt_succ_iff_lt_or_eq.1 hr with h2 | rfl
     ·exact hb r h2
     ·exact decide_eq_false fun h=>absurd h.symm (by assumption)
   ·have:has L h=false:=by
     rw [zLc,decide_eq_false_iff_not]
     intro hm
     obtain ⟨r,hr,rfl⟩:=List.getElem_of_mem hm
     have:=hb r (by omega)
     rw [zAq hr] at this
     simp at this
    have kH:=yC (by simp only [hrB,hL,this,Bool.and_false])
    clear hb
    refine zAg<|zAd 2<|S_a [(0,.n L.length)] (ap (lnS I L) an)<|zAc 1<|zAa<|zAK ((↑k:Int)<(↑L.length:Int)) (by omega)<|zAs 2<|zAe<|zAc 1<|S_a [(1,.v (I (↑(j+1):Int)))] (ap (wrN j) an)<|zAc 1<|zAa ?_
    exact ⟨j+1,⟨by omega,kH⟩,by omega,by kernel_rfl,by kernel_rfl⟩
 ·refine zAg<|zAd 2<|S_a [(0,.n cs.length)] (ap (lnS prV cs) an)<|zAc 1<|zAa<|zAK ((↑j:Int)<(↑cs.length:Int)) (by omega)<|zAs 0<|zAd 1<|zAa<|zAm<|E_a [] an (PV.bool false) [] ?_ rfl
  have:zFI n cs h i=false:=by
   simp only [zFI,List.any_eq_false,Bool.not_eq_true]
   intro x hx
   obtain ⟨j,hj,rfl⟩:=List.getElem_of_mem hx
   have:=ha j (by omega)
   rwa [zAq hj] at this
  rw [this]
end Go.Eng
set_option maxRecDepth 10000
set_option maxHeartbeats 4000000
namespace Go.Eng
open Go Go.Proofs
abbrev lsB (l:List Bool):PV := .own 1 (l.map PV.bool)
instance:FrzOf lsB bls:=⟨fun x=>by simp only [zAY,zE5]⟩
def zOP (n:Nw) (cs:List (Int×Int)) (h k:Nat):List Bool:=(List.range k).map fun (i:Nat)=>zFI n cs h i
def zPI (n:Nw) (cs:List (Int×Int)) (k:Nat):List (List Bool):=(List.range k).map fun h=>zOP n cs h n.n.length
theorem zQP {n:Nw} {cs:List (Int×Int)} {h k:Nat}:zOP n cs h (k+1)=zOP n cs h k++[zFI n cs h k]:=by
 simp only [zOP,List.range_succ,List.map_append,List.map_cons,List.map_nil]
theorem zSz {n:Nw} {cs:List (Int×Int)} {k:Nat}:zPI n cs (k+1)=zPI n cs k++[zOP n cs k n.n.length]:=by
 simp only [zPI,List.range_succ,List.map_append,List.map_cons,List.map_nil]
theorem f112 (n:Nw) (cs:List (Int×Int)) (ho:CrW n cs):FG 112 [nwV n,prs cs] (.own 1 ((zPI n cs n.h.toNat).map lsB)):=by
 have hn:=ho.nw
 have hb:=hn.h
 have ka:=hn.nl
 refine zAf Tryz.f112 ?_
 refine zAd 2<|zAa<|zAd 1<|zAa<|zAg<|zAd 1<|zAa<|zAh 0 ?_
 refine zAo (fun (h,K)=>h≤n.h.toNat∧K=zPI n cs h) (fun (h,K)=>[(5,.own 1 (K.map lsB)),(6,I (h:Nat))]) (fun (h,_)=>n.h.toNat-h) ((0:Nat),([]:List (List Bool))) ⟨by omega,rfl⟩ fun (h,K) ⟨hh,hK⟩=>?_
 have hKl:K.length=h:=by rw [hK];simp [zPI]
 by_cases ga:(h:Int)<n.h
 ·have yQ:=zSz (n:=n) (cs:=cs) (k:=h)
  rw [← hK] at yQ
  clear hK
  refine zAg<|zAd 4<|zAa<|zAJ ((↑h:Int)<n.h) (by omega)<|zAj<|zAg<|zAh 1<|zAd 2<|S_a [(0,.n n.n.length)] (ap (lnS ntV n.n) an)<|S_a [(4,.ob),(0,.ob),(1,.v (PV.own 1 (List.map PV.bool (List.replicate n.n.length false))))] (ap ((by exact zAr (by omega)):decide (n.n.length≤n.n.length)=true)<|ap ((by exact zAr (by simp [zA1]<;>omega)):decide (n.n.length≤zA1)=true)<|ap ((by simp):PV.own 1 (List.replicate n.n.length (PV.bool false))=PV.own 1 (List.map PV.bool (List.replicate n.n.length false))) an)<|zAc 1<|zAa<|zAg<|zAd 1<|zAa<|zAh 2 ?_
  refine zAo (fun (i,r)=>i≤n.n.length∧r=zOP n cs h i++List.replicate (n.n.length-i) false) (fun (i,r)=>[(7,.own 1 (r.map PV.bool)),(8,I (i:Nat))]) (fun (i,_)=>n.n.length-i) ((0:Nat),List.replicate n.n.length false) ⟨by omega,by simp [zOP]⟩ fun (i,r) ⟨hi,hr⟩=>?_
  have ug:r.length=n.n.length:=by rw [hr];simp [zOP];omega
  by_cases yB:i<n.n.length
  ·refine zAg<|zAd 2<|S_a [(0,.n r.length)] (ap (lnS PV.bool r) an)<|zAc 1<|zAa<|zAJ ((↑i:Int)<(↑r.length:Int)) (by omega)<|zAj<|zAg<|zAh 3<|zAe<|zAc 6<|S_a [(12,.ret (PV.bool (zFI n cs (↑h:Int) (↑i:Int))) [])] (ap (f141 n cs ((↑h:Int)) ((↑i:Int)) (by omega)) an)<|S_a [(2,.ob),(1,.n i)] (ap ((by exact zAr (by simp only [List.length_map,zzLn]<;>omega)):decide (i<(List.map PV.bool r).length)=true)<|ap ((by simp):some (0+i)=some i) an)<|S_a [(8,.root (PV.own 1 (List.map PV.bool (r.set i (zFI n cs (↑h:Int) (↑i:Int))))) true)] (ap (zN2 (zBx false (by omega)) zFg:zBC (PV.own 1 (List.map PV.bool r)) [] i 0 (PV.bool (zFI n cs (↑h:Int) (↑i:Int))).cells=some (PV.own 1 (List.map PV.bool (r.set i (zFI n cs (↑h:Int) (↑i:Int)))))∧zAM (PV.own 1 (List.map PV.bool r)) (PV.own 1 (List.map PV.bool (r.set i (zFI n cs (↑h:Int) (↑i:Int))))) []=true) an)<|zAa<|zAe<|zAc 1<|S_a [(1,.v (I (↑(i+1):Int)))] (ap (wrN i) an)<|zAc 1<|zAa ?_
   refine ⟨(i+1,r.set i (zFI n cs h i)),⟨by omega,?_⟩,by simp only;omega,by kernel_rfl,by kernel_rfl⟩
   obtain ⟨k,hk⟩:∃ k,n.n.length-i=k+1:=⟨n.n.length-i-1,by omega⟩
   rw [hr,hk,show n.n.length-(i+1)=k by omega,List.replicate_succ,List.set_append_right _ _ (by simp [zOP]),zQP]
   try simp [zOP]
  ·have hrr:r=zOP n cs h n.n.length:=by rw [hr,show i=n.n.length by omega];simp
   rw [← hrr] at yQ
   clear hr hrr
   refine zAg<|zAd 2<|S_a [(0,.n r.length)] (ap (lnS PV.bool r) an)<|zAc 1<|zAa<|zAK ((↑i:Int)<(↑r.length:Int)) (by omega)<|zAs 2<|zAe<|zAc 2<|S_a [(2,.yes)] (ap ((by exact zBj (by simp<;>omega)):(Nat.beq 0 0&&(List.map PV.bool r).length.beq (List.map PV.bool r).length)=true) an)<|S_a [(4,.ob),(0,.ob),(0,.yes),(2,.v (PV.own 1 (List.map lsB (K++[r]))))] (ap (blz (List.map lsB K))<|ap ((by exact zA9 (by simp only [List.length_map,zzLn,zA1]<;>omega)):((List.map lsB K).length + [PV.own 1 (List.map PV.bool r)].length).ble zA1=true)<|ap ((by exact zBj (by simp<;>omega)):(0+(List.map lsB K).length).beq (List.map lsB K).length=true)<|ap ((zAE (zB0 (by kernel_rfl))):PV.own 1 (List.map lsB K++[PV.own 1 (List.map PV.bool r)])=PV.own 1 (List.map lsB (K++[r]))) an)<|zAc 1<|zAa<|zAe<|zAc 1<|S_a [(1,.v (I (↑(h+1):Int)))] (ap (wrN h) an)<|zAc 1<|zAa ?_
   exact ⟨(h+1,K++[r]),⟨by omega,yQ.symm⟩,by simp only;omega,by kernel_rfl,by kernel_rfl⟩
 ·have e:h=n.h.toNat:=by omega
  subst e
  refine zAg<|zAd 4<|zAa<|zAK ((↑n.h.toNat:Int)<n.h) (by omega)<|zAs 0<|zAd 1<|S_a [(2,.yes)] (ap ((by exact zBj (by simp<;>omega)):(Nat.beq 0 0&&(List.map lsB K).length.beq (List.map lsB K).length)=true) an)<|zAa<|zAm<|E_a [(1,.yes),(1,.v (PV.own 1 (List.map lsB K)))] (ap (blz (List.map lsB K))<|ap ((zAE zAz):PV.own 1 (List.take (List.map lsB K).length (List.drop 0 (List.map lsB K)))=PV.own 1 (List.map lsB K)) an) (PV.own 1 (List.map lsB K)) [] (by simp [*]) rfl
end Go.Eng
namespace Go.Eng
open Go Go.Proofs
structure Tr (n:Nw) (w:List Int) (S:Nat→Nat→Prop):Prop where
 wl:w.length=80
 at_:∀ h c,h<n.h.toNat→c<8→w.getD (h*8+c) 0 = -1∨∃ i,i<n.n.length∧(zAk n).getD i 0=(c:Int)∧w.getD (h*8+c) 0=i∧S h i
 top:∀ h i,h<n.h.toNat→i<n.n.length→S h i→(i:Int)≤w.getD (h*8+((zAk n).getD i 0).toNat) 0
theorem zLi {w:List Int} {i j:Nat} {x:Int} (hi:i<w.length):(zQp w i x).getD j 0=if i=j then max (w.getD j 0) x else w.getD j 0:=by
 unfold zQp
 rw [zCS]
 by_cases h:i=j
 ·subst h;rw [if_pos ⟨rfl,hi⟩,if_pos rfl]
 ·rw [if_neg (fun h2=>h h2.1),if_neg h]
theorem Tr.upd {n:Nw} {w:List Int} {S:Nat→Nat→Prop} (ho:NwOk n) (ht:Tr n w S) {h0 i0:Nat} (hh:h0<n.h.toNat) (hi:i0<n.n.length):Tr n (zQp w (h0*8+((zAk n).getD i0 0).toNat) i0) (fun h i=>S h i∨h=h0∧i=i0):=by
 have ka:=ho.nl.2
 have hH:=ho.h.2
 have gN:=zCj ho i0 hi
 have yJ:h0*8+((zAk n).getD i0 0).toNat<w.length:=by rw [ht.wl];omega
 refine ⟨by rw [zIt];exact ht.wl,fun h c gl hc=>?_,fun h i gl hi1 hS=>?_⟩
 ·rw [zLi yJ]
  split
  ·rename_i he
   have e1:h=h0:=by omega
   have e2:((zAk n).getD i0 0).toNat=c:=by omega
   have e3:(zAk n).getD i0 0=(c:Int):=by omega
   subst e1
   have hw:=ht.at_ h c gl hc
   by_cases hm:w.getD (h*8+c) 0≤(i0:Int)
   ·right
    exact ⟨i0,hi,e3,by rw [Int.max_eq_right hm],.inr ⟨rfl,rfl⟩⟩
   ·rcases hw with hw | ⟨i,g1,g2,g3,g4⟩
    ·omega
    ·right;exact ⟨i,g1,g2,by rw [Int.max_eq_left (by omega)];exact g3,.inl g4⟩
  ·rcases ht.at_ h c gl hc with hw | ⟨i,g1,g2,g3,g4⟩
   ·exact .inl hw
   ·exact .inr ⟨i,g1,g2,g3,.inl g4⟩
 ·rw [zLi yJ]
  have gv:=zCj ho i hi1
  rcases hS with hS | ⟨rfl,rfl⟩
  ·have:=ht.top h i gl hi1 hS
   split<;>omega
  ·rw [if_pos rfl];omega
theorem Tr.same {n:Nw} {w:List Int} {S S':Nat→Nat→Prop} (ht:Tr n w S) (h:∀ a i,a<n.h.toNat→i<n.n.length→(S a i↔S' a i)):Tr n w S' :=
 ⟨ht.wl,fun a c ha hc=>by
  rcases ht.at_ a c ha hc with h1 | ⟨i,g1,g2,g3,g4⟩
  ·exact .inl h1
  ·exact .inr ⟨i,g1,g2,g3,(h a i ha g1).1 g4⟩,fun a i ha hi hs=>ht.top a i ha hi ((h a i ha hi).2 hs)⟩
theorem Tr.none (n:Nw) (ho:NwOk n):Tr n (List.replicate 80 (-1)) (fun _ _=>False):=by
 have hH:=ho.h.2
 refine ⟨by simp,fun h c hh hc => .inl ?_,fun _ _ _ _ h=>h.elim⟩
 rw [zAq (by rw [List.length_replicate];omega),List.getElem_replicate]
end Go.Eng
namespace Go.Eng
open Go Go.Proofs
theorem Tr.begC {n:Nw} {w:List Int} {S:Nat→Nat→Prop} (ho:NwOk n) (ht:Tr n w S) {h:Nat} (hh:h<n.h.toNat) {c:Int×Int} (hc:0≤c.1∧c.1<n.n.length):Tr n (begC n h w c) (fun a i=>S a i∨a=h∧hrB n h i c=true):=by
 unfold Go.Eng.begC
 split
 ·rename_i hs
  have:=ht.upd ho hh (i0:=c.1.toNat) (by omega)
  rw [Int.toNat_of_nonneg hc.1] at this
  refine this.same fun a i _ _=>?_
  simp only [hrB,hs,Bool.and_true,decide_eq_true_eq]
  refine or_congr Iff.rfl (and_congr Iff.rfl ⟨fun e=>by omega,fun e=>by omega⟩)
 ·rename_i hs
  refine ht.same fun a i _ _=>?_
  have h2:has (n.s.getD c.2.toNat []) h=false:=by
   cases hx:has (n.s.getD c.2.toNat []) h
   ·rfl
   ·exact absurd hx hs
  simp only [hrB,h2,Bool.and_false,Bool.false_eq_true,and_false,or_false]
theorem Tr.begH {n:Nw} (ho:NwOk n) {h:Nat} (hh:h<n.h.toNat):∀ (cs:List (Int×Int)) {w:List Int} {S:Nat→Nat→Prop},Tr n w S→(∀ c∈cs,0≤c.1∧c.1<n.n.length)→Tr n (begH n h w cs) (fun a i=>S a i∨a=h∧zFI n cs h i=true)
 | [],w,S,ht,_=>ht.same fun a i _ _=>by simp [zFI]
 | c::cs,w,S,ht,hc=>by
  have h1:=Tr.begH ho hh cs (ht.begC ho hh (hc c List.mem_cons_self)) fun d hd=>hc d (List.mem_cons_of_mem _ hd)
  refine Tr.same (w:=Go.Eng.begH n h w (c::cs)) h1 fun a i _ _=>?_
  simp only [zFI,List.any_cons,Bool.or_eq_true,or_assoc,and_or_left]
theorem Tr.begN {n:Nw} {cs:List (Int×Int)} (ho:CrW n cs):∀ k,k≤n.h.toNat→Tr n (begN n cs k) (fun a i=>a<k∧zFI n cs a i=true)
 | 0,_=>(Tr.none n ho.nw).same fun a i _ _=>by simp
 | k + 1,hk=>by
  rw [zIN]
  refine (Tr.begH ho.nw (by omega) cs (Tr.begN ho k (by omega)) fun c hc=>(ho.cs c hc).1).same fun a i _ _=>?_
  constructor
  ·rintro (⟨h1,h2⟩ | ⟨rfl,h2⟩)
   ·exact ⟨by omega,h2⟩
   ·exact ⟨by omega,h2⟩
  ·rintro ⟨h1,h2⟩
   by_cases e:a=k
   ·subst e;exact .inr ⟨rfl,h2⟩
   ·exact .inl ⟨by omega,h2⟩
theorem RelK.of_tr {n:Nw} {K:List (List Bool)} {w:List Int} (h1:K.length=n.h.toNat) (h2:∀ r∈K,r.length=n.n.length) (ht:Tr n w fun a i=>kn K a i=true):RelK n K w :=
 ⟨h1,h2,ht.wl,ht.top,ht.at_⟩
theorem RelK.tr {n:Nw} {K:List (List Bool)} {w:List Int} (h:RelK n K w):Tr n w fun a i=>kn K a i=true:=⟨h.wl,h.at_,h.top⟩
theorem zWV {n:Nw} {cs:List (Int×Int)} {a i:Nat} (ha:a<n.h.toNat) (hi:i<n.n.length):kn (zPI n cs n.h.toNat) a i=zFI n cs a i:=by
 unfold kn zPI
 rw [zAq (l:=(List.range n.h.toNat).map fun h=>zOP n cs h n.n.length) (by rw [List.length_map,List.length_range];exact ha)]
 simp only [List.getElem_map,List.getElem_range]
 unfold zOP
 rw [zAq (by rw [List.length_map,List.length_range];exact hi)]
 simp only [List.getElem_map,List.getElem_range]
theorem zVu {n:Nw} {cs:List (Int×Int)} (ho:CrW n cs):RelK n (zPI n cs n.h.toNat) (zOf n cs):=by
 refine RelK.of_tr (by simp [zPI]) (fun r hr=>?_) ?_
 ·obtain ⟨h,_,rfl⟩:=List.mem_map.1 hr
  simp [zOP]
 ·refine (Tr.begN ho n.h.toNat (Nat.le_refl _)).same fun a i ha hi=>?_
  rw [zWV ha hi]
  exact ⟨fun h=>h.2,fun h=>⟨ha,h⟩⟩
end Go.Eng
namespace Go.Eng
open Go Go.Proofs
def nxB (n:Nw) (K:List (List Bool)) (w:List Int) (h i:Nat):Bool:=kn K h i||(zIf n h n.h.toNat).any fun o=>hld n w o i
def zGz (n:Nw) (K:List (List Bool)) (w:List Int) (h:Nat):List Bool:=(List.range n.n.length).map fun i=>nxB n K w h i
def zMK (n:Nw) (K:List (List Bool)) (w:List Int):List (List Bool):=(List.range n.h.toNat).map fun h=>zGz n K w h
theorem zVE {n:Nw} {K:List (List Bool)} {w:List Int} {a i:Nat} (ha:a<n.h.toNat) (hi:i<n.n.length):kn (zMK n K w) a i=nxB n K w a i:=by
 unfold kn zMK
 rw [zAq (l:=(List.range n.h.toNat).map fun h=>zGz n K w h) (by rw [List.length_map,List.length_range];exact ha)]
 simp only [List.getElem_map,List.getElem_range]
 unfold zGz
 rw [zAq (by rw [List.length_map,List.length_range];exact hi)]
 simp only [List.getElem_map,List.getElem_range]
theorem Tr.skip {n:Nw} {w:List Int} {S:Nat→Nat→Prop} (ho:NwOk n) (ht:Tr n w S) {h0 c0:Nat} (hh:h0<n.h.toNat) (hc:c0<8):Tr n (zQp w (h0*8+c0) (-1)) S:=by
 have hH:=ho.h.2
 have yJ:h0*8+c0<w.length:=by rw [ht.wl];omega
 have hge : -1≤w.getD (h0*8+c0) 0:=by
  rcases ht.at_ h0 c0 hh hc with h | ⟨i,_,_,h,_⟩<;>omega
 have he:∀ j,(zQp w (h0*8+c0) (-1)).getD j 0=w.getD j 0:=fun j=>by
  rw [zLi yJ]
  split
  ·rename_i e;subst e;exact Int.max_eq_left hge
  ·rfl
 exact ⟨by rw [zIt];exact ht.wl,fun h c h1 h2=>by rw [he];exact ht.at_ h c h1 h2,fun h i h1 h2 h3=>by rw [he];exact ht.top h i h1 h2 h3⟩
theorem Tr.nxtR {n:Nw} {now:List Int} {S0:Nat→Nat→Prop} (ho:NwOk n) (h0:Tr n now S0) {h o:Nat} (hh:h<n.h.toNat) (gc:o<n.h.toNat) {w:List Int} {S:Nat→Nat→Prop} (ht:Tr n w S):∀ k,k≤8→Tr n (nxtR now h o w k) (fun a i=>S a i∨a=h∧(zAk n).getD i 0<(k:Int)∧hld n now o i=true)
 | 0,_=>Tr.same (w:=Go.Eng.nxtR now h o w 0) ht fun a i _ hi=>by
  have:=zCj ho i hi
  exact ⟨.inl,fun h=>h.elim id fun h=>by have:=h.2.1;omega⟩
 | k + 1,hk=>by
  have ih:=Tr.nxtR ho h0 hh gc ht k (by omega)
  have e:Go.Eng.nxtR now h o w (k+1)=zQp (Go.Eng.nxtR now h o w k) (h*8+k) (now.getD (o*8+k) 0):=by
   simp only [Go.Eng.nxtR,List.range_succ,List.foldl_append,List.foldl_cons,List.foldl_nil]
  rw [e]
  rcases h0.at_ o k gc (by omega) with hm | ⟨j,g1,g2,g3,_⟩
  ·rw [hm]
   refine (ih.skip ho hh (by omega)).same fun a i _ hi=>or_congr Iff.rfl (and_congr Iff.rfl ⟨fun ⟨x,y⟩=>⟨by omega,y⟩,fun ⟨x,y⟩=>⟨?_,y⟩⟩)
   have hf:=zCj ho i hi
   by_cases ek:(zAk n).getD i 0=(k:Int)
   ·simp only [hld,decide_eq_true_eq,ek,Int.toNat_natCast,hm] at y
    omega
   ·omega
  ·have:=ih.upd ho hh g1
   rw [g2,Int.toNat_natCast] at this
   rw [g3]
   refine this.same fun a i _ hi=>?_
   have hf:=zCj ho i hi
   constructor
   ·rintro ((x | ⟨x,y,z⟩) | ⟨rfl,rfl⟩)
    ·exact .inl x
    ·exact .inr ⟨x,by omega,z⟩
    ·refine .inr ⟨rfl,by omega,?_⟩
     simp only [hld,decide_eq_true_eq,g2,Int.toNat_natCast,g3]
   ·rintro (x | ⟨rfl,y,z⟩)
    ·exact .inl (.inl x)
    ·by_cases ek:(zAk n).getD i 0=(k:Int)
     ·simp only [hld,decide_eq_true_eq,ek,Int.toNat_natCast,g3] at z
      exact .inr ⟨rfl,by omega⟩
     ·exact .inl (.inr ⟨rfl,by omega,z⟩)
theorem Tr.nxtH {n:Nw} {now:List Int} {S0:Nat→Nat→Prop} (ho:NwOk n) (h0:Tr n now S0) {h:Nat} (hh:h<n.h.toNat):∀ (l:List Nat),(∀ o∈l,o<n.h.toNat)→∀ {w:List Int} {S:Nat→Nat→Prop},Tr n w S→Tr n (nxtH now h w l) (fun a i=>S a i∨a=h∧(l.any fun o=>hld n now o i)=true)
 | [],_,w,S,ht=>Tr.same (w:=Go.Eng.nxtH now h w []) ht fun a i _ _=>by simp
 | o::l,hl,w,S,ht=>by
  have h1:=Tr.nxtH ho h0 hh l (fun x hx=>hl x (List.mem_cons_of_mem _ hx)) (Tr.nxtR ho h0 hh (hl o List.mem_cons_self) ht 8 (Nat.le_refl _))
  refine Tr.same (w:=Go.Eng.nxtH now h w (o::l)) h1 fun a i _ hi=>?_
  have hf:=zCj ho i hi
  have ka:=ho.nl.2
  simp only [List.any_cons,Bool.or_eq_true,and_or_left,or_assoc]
  refine or_congr Iff.rfl (or_congr (and_congr Iff.rfl ⟨fun x=>x.2,fun x=>⟨by omega,x⟩⟩) Iff.rfl)
theorem Tr.nxtN {n:Nw} {now:List Int} {S0:Nat→Nat→Prop} (ho:NwOk n) (h0:Tr n now S0):∀ k,k≤n.h.toNat→Tr n (nxtN n now k) (fun a i=>S0 a i∨a<k∧((zIf n a n.h.toNat).any fun o=>hld n now o i)=true)
 | 0,_=>Tr.same (w:=Go.Eng.nxtN n now 0) h0 fun a i _ _=>by simp
 | k + 1,hk=>by
  have ih:=Tr.nxtN ho h0 k (by omega)
  have e:Go.Eng.nxtN n now (k+1)=Go.Eng.nxtH now k (Go.Eng.nxtN n now k) (zIf n k n.h.toNat):=by
   simp only [Go.Eng.nxtN,List.range_succ,List.foldl_append,List.foldl_cons,List.foldl_nil]
  rw [e]
  refine (Tr.nxtH ho h0 (by omega) _ (fun o hm=>List.mem_range.1 (List.mem_filter.1 hm).1) ih).same fun a i _ _=>?_
  constructor
  ·rintro ((x | ⟨x,y⟩) | ⟨rfl,y⟩)
   ·exact .inl x
   ·exact .inr ⟨by omega,y⟩
   ·exact .inr ⟨by omega,y⟩
  ·rintro (x | ⟨x,y⟩)
   ·exact .inl (.inl x)
   ·by_cases ea:a=k
    ·subst ea;exact .inr ⟨rfl,y⟩
    ·exact .inl (.inr ⟨by omega,y⟩)
theorem zSH {n:Nw} (ho:NwOk n) {K:List (List Bool)} {w:List Int} (h:RelK n K w):RelK n (zMK n K w) (zDZ n w):=by
 refine RelK.of_tr (by simp [zMK]) (fun r hr=>?_) ?_
 ·obtain ⟨h,_,rfl⟩:=List.mem_map.1 hr
  simp [zGz]
 ·refine (Tr.nxtN ho h.tr n.h.toNat (Nat.le_refl _)).same fun a i ha hi=>?_
  rw [zVE ha hi,nxB,Bool.or_eq_true]
  exact or_congr Iff.rfl ⟨fun x=>x.2,fun x=>⟨ha,x⟩⟩
end Go.Eng
set_option maxRecDepth 10000
set_option maxHeartbeats 4000000
namespace Go.Eng
open Go Go.Proofs
instance (n:Nw) (i j:Nat):Decidable (chn n i j):=inferInstanceAs (Decidable ((zAk n).getD i 0=(zAk n).getD j 0))
def zLS (n:Nw) (K:List (List Bool)) (h i:Nat):Bool:=kn K h i && !((List.range n.n.length).any fun k=>decide (i<k)&&(decide (chn n k i)&&kn K h k))
theorem zRL {n:Nw} {K:List (List Bool)} {w:List Int} {h i:Nat} (ho:NwOk n) (hr:RelK n K w) (hh:h<n.h.toNat) (hi:i<n.n.length):zLS n K h i=hld n w h i:=by
 unfold zLS
 cases h1:kn K h i
 ·rw [zSO ho hr hh hi (.inl h1)];rfl
 ·cases h2:(List.range n.n.length).any fun k=>decide (i<k)&&(decide (chn n k i)&&kn K h k)
  ·rw [zWv ho hr hh hi h1 fun k hk hc wJ=>?_]
   ·rfl
   ·have h3:=(List.any_eq_false.1 h2) k (List.mem_range.2 hk)
    simpa [wJ,hc] using h3
  ·obtain ⟨k,hk,h3⟩:=List.any_eq_true.1 h2
   simp only [Bool.and_eq_true,decide_eq_true_eq] at h3
   rw [zSO ho hr hh hi (.inr ⟨k,List.mem_range.1 hk,h3.2.1,h3.1,h3.2.2⟩)];rfl
theorem f113 (n:Nw) (K:List (List Bool)) (h i:Nat) (ho:NwOk n) (hr:∃ w,RelK n K w) (hh:h<n.h.toNat) (hi:i<n.n.length):FG 113 [nwV n,knV K,I h,I i] (.bool (zLS n K h i)):=by
 obtain ⟨w,hr⟩:=hr
 rw [zRL ho hr hh hi]
 exact zXF n K w h i ho hr hh hi
def nxP (n:Nw) (K:List (List Bool)) (w:List Int) (h o j:Nat):Bool:=kn K h j||(zIf n h o).any fun o=>hld n w o j
theorem zSG {n:Nw} {K:List (List Bool)} {w:List Int} {h o j:Nat}:nxP n K w h (o+1) j=(nxP n K w h o j||zGp n h o&&hld n w o j):=by
 unfold nxP;rw [zIX]
 cases zGp n h o<;>simp [Bool.or_assoc]
theorem zZe {P H:Nat→Bool} {a:Bool} {q:List Bool} {m i:Nat} (hq:∀ j,j<m→q.getD j false=(P j||(a&&(decide (j<i)&&H j)))) (hi:i<m):q.getD i false=P i:=by
 rw [hq i hi,decide_eq_false (Nat.lt_irrefl i)];cases a<;>simp
theorem zUu {P H:Nat→Bool} {a:Bool} {q:List Bool} {m i:Nat} {x:Bool} (hq:∀ j,j<m→q.getD j false=(P j||(a&&(decide (j<i)&&H j)))) (hl:q.length=m) (hi:i<m) (ha:a=true) (hx:x=(P i||H i)) (j:Nat) (hj:j<m):(q.set i x).getD j false=(P j||(a&&(decide (j<i+1)&&H j))):=by
 subst ha
 by_cases e:i=j
 ·subst e
  rw [zAq (by rw [List.length_set];omega),List.getElem_set_self,hx,decide_eq_true (Nat.lt_succ_self i),Bool.true_and,Bool.true_and]
 ·rw [zAq (by rw [List.length_set];omega),List.getElem_set_ne e,← zAq (d:=false) (by omega),hq j hj]
  by_cases h:j<i
  ·rw [decide_eq_true h,decide_eq_true (by omega:j<i+1)]
  ·rw [decide_eq_false h,decide_eq_false (by omega:¬ j<i+1)]
theorem zUn {n:Nw} {K:List (List Bool)} {w:List Int} {h o i m:Nat} {q:List Bool} (hq:∀ j,j<m→q.getD j false=(nxP n K w h o j||(zGp n h o&&(decide (j<i)&&hld n w o j)))) (hx:zGp n h o=false∨m≤i) (j:Nat) (hj:j<m):q.getD j false=nxP n K w h (o+1) j:=by
 rw [hq j hj,zSG]
 rcases hx with hx | hx
 ·rw [hx];rfl
 ·rw [decide_eq_true (by omega:j<i),Bool.true_and]
theorem zXq {n:Nw} {K:List (List Bool)} {w:List Int} {h:Nat} {r:List Bool} (hl:r.length=n.n.length) (hr:∀ j,j<n.n.length→r.getD j false=nxP n K w h n.h.toNat j):r=zGz n K w h:=by
 refine List.ext_getElem (by simp [zGz,hl]) fun j h1 h2=>?_
 have:=hr j (by omega)
 rw [zAq h1] at this
 rw [this]
 simp [zGz,nxB,nxP]
theorem zY7 (n:Nw) (K:List (List Bool)) (w:List Int) (ho:NwOk n) (hr:RelK n K w):FG 115 [nwV n,knV K] (.own 1 ((zMK n K w).map lsB)):=by
 have hb:=ho.h
 have ka:=ho.nl
 have qG:=ho.ll
 have kK:=hr.len
 have hrw:∃ w,RelK n K w:=⟨w,hr⟩
 refine zAf Tryz.f115 ?_
 refine zAd 2<|zAa<|zAd 1<|zAa<|zAg<|zAd 1<|zAa<|zAh 0 ?_
 refine zAo (fun (h,L)=>h≤n.h.toNat∧L=(List.range h).map fun h=>zGz n K w h) (fun (h,L)=>[(5,.own 1 (L.map lsB)),(6,I (h:Nat))]) (fun (h,_)=>n.h.toNat-h) ((0:Nat),([]:List (List Bool))) ⟨by omega,rfl⟩ fun (h,L) ⟨hh,hL⟩=>?_
 have hLl:L.length=h:=by rw [hL];simp
 by_cases ga:(h:Int)<n.h
 ·have yD:(K.getD h []).length=n.n.length:=zBz (d:=[]) hr.row h (by omega)
  refine zAg<|zAd 4<|zAa<|zAJ ((↑h:Int)<n.h) (by omega)<|zAj<|zAg<|zAh 1<|zAd 3<|S_a [(2,.v (PV.sl (List.map PV.bool (K.getD h []))))] (ap (zBx [] (by omega):(List.map bls K)[h]? = some (PV.sl (List.map PV.bool (K.getD h [])))) an)<|zAc 1<|S_a [(0,.ob),(0,.ob),(0,.ob),(3,.ob)] (ap ((by exact all_map _):((List.map PV.bool (K.getD h [])).all fun x=>x.plain)=true)<|ap ((by exact all_map _):((List.map PV.bool (K.getD h [])).all fun y=>y.cells.length.beq ((fun x=>x.size) Tryz.prog.types[4])&&y.cells.all fun q=>q.oneCell)=true)<|ap ((by exact List.isEmpty_iff.2 (zJL _)):(zBt (List.map PV.bool (K.getD h []))).isEmpty=true)<|ap ((by exact zA9 (by simp only [List.length_map,zzLn,zA1]<;>omega)):(0+(List.map PV.bool (K.getD h [])).length).ble zA1=true) an)<|zAc 1<|zAa<|zAg<|zAd 1<|zAa<|zAh 2 ?_
  refine zAo (fun (o,r)=>o≤n.h.toNat∧r.length=n.n.length∧∀ j,j<n.n.length→r.getD j false=nxP n K w h o j) (fun (o,r)=>[(7,.own 1 (r.map PV.bool)),(8,I (o:Nat))]) (fun (o,_)=>n.h.toNat-o) ((0:Nat),K.getD h []) ⟨by omega,yD,fun j _=>by simp [nxP,zIf,kn]⟩ fun (o,r) ⟨gc,ug,jK⟩=>?_
  by_cases hol:(o:Int)<n.h
  ·refine zAg<|zAd 4<|zAa<|zAJ ((↑o:Int)<n.h) (by omega)<|zAj<|zAg<|zAh 3<|zAd 1<|zAa<|zAh 4 ?_
   refine zAo (fun (i,q)=>i≤n.n.length∧q.length=n.n.length∧∀ j,j<n.n.length→q.getD j false=(nxP n K w h o j||(zGp n h o&&(decide (j<i)&&hld n w o j)))) (fun (i,q)=>[(7,.own 1 (q.map PV.bool)),(9,I (i:Nat))]) (fun (i,_)=>n.n.length-i) ((0:Nat),r) ⟨by omega,ug,fun j hj=>by rw [jK j hj,decide_eq_false (Nat.not_lt_zero j),Bool.false_and,Bool.and_false,Bool.or_false]⟩ fun (i,q) ⟨hi,km,hqv⟩=>?_
   clear jK
   by_cases yB:(i:Int)<n.n.length
   ·have jp:=zZe hqv (by omega)
    clear hL
    refine zAg<|zAd 2<|S_a [(0,.n q.length)] (ap (lnS PV.bool q) an)<|zAc 2<|zFP 32 ((↑i:Int)<(↑q.length:Int)) (by omega) (zAc 3<|S_a [(10,.ret (PV.bool (zGp n (↑h:Int) (↑o:Int))) [])] (ap (f114 n ((↑h:Int)) ((↑o:Int)) (by first | omega | (simp<;>omega))) an)<|zAc 1<|zAa<|zDf (zGp n (↑h:Int) (↑o:Int)) (fun k0=>(zAj<|zAg<|zAh 5<|zAe<|zAc 4<|S_a [(2,.ob),(1,.n i)] (ap ((by exact zAr (by simp only [List.length_map,zzLn]<;>omega)):decide (i<(List.map PV.bool q).length)=true)<|ap ((by simp):some (0+i)=some i) an)<|S_a [(0,.cs false ([PV.bool (q.getD i false)]))] (ap (zDb (q:=PV.own 1 (List.map PV.bool q)) (xs:=List.map PV.bool q) (x:=PV.bool (q.getD i false)) rfl (zBx false (by omega)):zAv 7 (PV.own 1 (List.map PV.bool q)) [] i 0 1=some (false,[PV.bool (q.getD i false)])) an)<|zAc 1<|zDt 46 (q.getD i false) (fun k1=>(zAc 6<|S_a [(2,.ob),(1,.n i)] (ap ((by exact zAr (by simp only [List.length_map,zzLn]<;>omega)):decide (i<(List.map PV.bool q).length)=true)<|ap ((by simp):some (0+i)=some i) an)<|S_a [(8,.root (PV.own 1 (List.map PV.bool (q.set i true))) true)] (ap (zN2 (zBx false (by omega)) zFg:zBC (PV.own 1 (List.map PV.bool q)) [] i 0 (PV.bool true).cells=some (PV.own 1 (List.map PV.bool (q.set i true)))∧zAM (PV.own 1 (List.map PV.bool q)) (PV.own 1 (List.map PV.bool (q.set i true))) []=true) an)<|zAa<|zAe<|zAc 1<|S_a [(1,.v (I (↑(i+1):Int)))] (ap (wrN i) an)<|zAc 1<|zAa ?_)) (fun k1=>(zAc 4<|S_a [(12,.ret (PV.bool (zLS n K o i)) [])] (ap (f113 n K o i (by omega) (by omega) (by first | omega | (simp<;>omega)) (by first | omega | (simp<;>omega))) an)<|zAc 1<|S_a [(2,.ob),(1,.n i)] (ap ((by exact zAr (by simp only [List.length_map,zzLn]<;>omega)):decide (i<(List.map PV.bool q).length)=true)<|ap ((by simp):some (0+i)=some i) an)<|S_a [(8,.root (PV.own 1 (List.map PV.bool (q.set i (zLS n K o i)))) true)] (ap (zN2 (zBx false (by omega)) zFg:zBC (PV.own 1 (List.map PV.bool q)) [] i 0 (PV.bool (zLS n K o i)).cells=some (PV.own 1 (List.map PV.bool (q.set i (zLS n K o i))))∧zAM (PV.own 1 (List.map PV.bool q)) (PV.own 1 (List.map PV.bool (q.set i (zLS n K o i)))) []=true) an)<|zAa<|zAe<|zAc 1<|S_a [(1,.v (I (↑(i+1):Int)))] (ap (wrN i) an)<|zAc 1<|zAa ?_)))) (fun k0=>(zAs 4<|zAe<|zAc 1<|S_a [(1,.v (I (↑(o+1):Int)))] (ap (wrN o) an)<|zAc 1<|zAa ?_)))
    ·exact ⟨(i+1,q.set i true),⟨by omega,by rw [List.length_set];exact km,zUu hqv km (by omega) (by assumption) (by rw [← jp,k1];rfl)⟩,by simp only;omega,by kernel_rfl,by kernel_rfl⟩
    ·exact ⟨(i+1,q.set i (zLS n K o i)),⟨by omega,by rw [List.length_set];exact km,zUu hqv km (by omega) (by assumption) (by rw [← jp,k1,zRL ho hr (by omega) (by omega)];rfl)⟩,by simp only;omega,by kernel_rfl,by kernel_rfl⟩
    ·exact ⟨(o+1,q),⟨by omega,km,zUn hqv (.inl (by assumption))⟩,by simp only;omega,by kernel_rfl,by kernel_rfl⟩
   ·clear hL
    refine zAg<|zAd 2<|S_a [(0,.n q.length)] (ap (lnS PV.bool q) an)<|zAc 2<|zUi 32 ((↑i:Int)<(↑q.length:Int)) (by omega) (zAc 5<|zAa<|zAW<|zAs 4<|zAe<|zAc 1<|S_a [(1,.v (I (↑(o+1):Int)))] (ap (wrN o) an)<|zAc 1<|zAa ?_)
    exact ⟨(o+1,q),⟨by omega,km,zUn hqv (.inr (by omega))⟩,by simp only;omega,by kernel_rfl,by kernel_rfl⟩
  ·have ho2:o=n.h.toNat:=by omega
   subst ho2
   have hrr:=zXq ug jK
   have yQ:L++[r]=(List.range (h+1)).map fun h=>zGz n K w h:=by
    rw [hL,hrr,List.range_succ,List.map_append,List.map_cons,List.map_nil]
   clear hL hrr jK
   refine zAg<|zAd 4<|zAa<|zAK ((↑n.h.toNat:Int)<n.h) (by omega)<|zAs 2<|zAe<|zAc 2<|S_a [(2,.yes)] (ap ((by exact zBj (by simp<;>omega)):(Nat.beq 0 0&&(List.map PV.bool r).length.beq (List.map PV.bool r).length)=true) an)<|S_a [(4,.ob),(0,.ob),(0,.yes),(2,.v (PV.own 1 (List.map lsB (L++[r]))))] (ap (blz (List.map lsB L))<|ap ((by exact zA9 (by simp only [List.length_map,zzLn,zA1]<;>omega)):((List.map lsB L).length + [PV.own 1 (List.map PV.bool r)].length).ble zA1=true)<|ap ((by exact zBj (by simp<;>omega)):(0+(List.map lsB L).length).beq (List.map lsB L).length=true)<|ap ((zAE (zB0 (by kernel_rfl))):PV.own 1 (List.map lsB L++[PV.own 1 (List.map PV.bool r)])=PV.own 1 (List.map lsB (L++[r]))) an)<|zAc 1<|zAa<|zAe<|zAc 1<|S_a [(1,.v (I (↑(h+1):Int)))] (ap (wrN h) an)<|zAc 1<|zAa ?_
   exact ⟨(h+1,L++[r]),⟨by omega,yQ⟩,by simp only;omega,by kernel_rfl,by kernel_rfl⟩
 ·have e:h=n.h.toNat:=by omega
  subst e
  have hLe:L=zMK n K w:=hL
  clear hL
  refine zAg<|zAd 4<|zAa<|zAK ((↑n.h.toNat:Int)<n.h) (by omega)<|zAs 0<|zAd 1<|S_a [(2,.yes)] (ap ((by exact zBj (by simp<;>omega)):(Nat.beq 0 0&&(List.map lsB L).length.beq (List.map lsB L).length)=true) an)<|zAa<|zAm<|E_a [(1,.yes),(1,.v (PV.own 1 (List.map lsB L)))] (ap (blz (List.map lsB L))<|ap ((zAE zAz):PV.own 1 (List.take (List.map lsB L).length (List.drop 0 (List.map lsB L)))=PV.own 1 (List.map lsB L)) an) (PV.own 1 (List.map lsB L)) [] ?_ rfl
  rw [hLe]
end Go.Eng
set_option maxRecDepth 10000
set_option maxHeartbeats 4000000
namespace Go.Eng
open Go Go.Proofs
def zK5 (n:Nw) (K:List (List Bool)):List (List Bool):=(List.range n.h.toNat).map fun h=>(List.range n.n.length).map fun i=>kn K h i||(zIf n h n.h.toNat).any fun o=>zLS n K o i
theorem zOL {n:Nw} {K:List (List Bool)} {w:List Int} (ho:NwOk n) (hr:RelK n K w):zK5 n K=zMK n K w:=by
 unfold zK5 zMK zGz nxB
 refine List.map_congr_left fun h _=>List.map_congr_left fun i hi=>?_
 congr 1
 rw [Bool.eq_iff_iff,List.any_eq_true,List.any_eq_true]
 refine exists_congr fun o=>and_congr_right fun hm=>?_
 rw [zRL ho hr (List.mem_range.1 (List.mem_filter.1 hm).1) (List.mem_range.1 hi)]
theorem f115 (n:Nw) (K:List (List Bool)) (ho:NwOk n) (hr:∃ w,RelK n K w):FG 115 [nwV n,knV K] (.own 1 ((zK5 n K).map lsB)):=by
 obtain ⟨w,hr⟩:=hr
 rw [zOL ho hr]
 exact zY7 n K w ho hr
def zGt (n:Nw) (cs:List (Int×Int)):Nat→List (List Bool)
 | 0=>zPI n cs n.h.toNat
 | k+1=>zK5 n (zGt n cs k)
theorem zHP {n:Nw} {cs:List (Int×Int)} (ho:CrW n cs):∀ k,RelK n (zGt n cs k) (zAL n cs k)
 | 0=>zVu ho
 | k+1=>by
  have ih:=zHP ho k
  show RelK n (zK5 n (zGt n cs k)) (zDZ n (zAL n cs k))
  rw [zOL ho.nw ih]
  exact zSH ho.nw ih
end Go.Eng
set_option maxRecDepth 10000
set_option maxHeartbeats 4000000
namespace Go.Eng
open Go Go.Proofs
theorem zHL {α:Type} {g:α→PV} (h:∀ x,(g x).free=true):∀ l:List α,zEE (l.map g)=true
 | []=>by simp [zEE]
 | a::l=>by simp [zEE,h a,zHL h l]
theorem zKn (K:List (List Bool)):(PV.own 1 (K.map lsB)).free=true:=by
 simp only [PV.free]
 exact zHL (fun r=>by simp only [PV.free];exact zHL (fun b=>by simp [PV.free]) r) K
theorem f95 (n:Nw) (cs:List (Int×Int)) (e:Int) (ho:CrW n cs) (he:0≤e∧e≤1000):FG 95 [nwV n,prs cs,I e] (.own 1 ((zGt n cs e.toNat).map lsB)):=by
 have hn:=ho.nw
 have hb:=hn.h
 refine zAf Tryz.f95 ?_
 refine zAd 2<|zAa<|zAd 2<|S_a [(8,.ret (PV.own 1 (List.map lsB (zPI n cs n.h.toNat))) [])] (ap (f112 n cs (by omega)) an)<|zAc 1<|zAa<|zAg<|zAd 1<|zAa<|zAh 0 ?_
 refine zAo (fun (K,i)=>i≤e.toNat∧K=zGt n cs i) (fun (K,i)=>[(7,.own 1 (K.map lsB)),(8,I (i:Nat))]) (fun (_,i)=>e.toNat-i) (zPI n cs n.h.toNat,(0:Nat)) ⟨by omega,rfl⟩ fun (K,i) ⟨hi,hK⟩=>?_
 have ug:∃ w,RelK n K w:=⟨_,hK▸zHP ho i⟩
 have kK:K.length=n.h.toNat:=by obtain ⟨_,h⟩:=ug;exact h.len
 by_cases yB:(i:Int)<e
 ·have yQ:zK5 n K=zGt n cs (i+1):=by rw [hK];rfl
  clear hK
  refine zAg<|zAd 3<|zAa<|zAJ ((↑i:Int)<e) (by omega)<|zAj<|zAg<|zAh 1<|zAe<|zAc 2<|S_a [(5,.ob),(0,.v (PV.sl (List.map bls K))),(2,.ret (PV.own 1 (List.map lsB (zK5 n K))) []),(1,.yes)] (ap (blz (List.map lsB K))<|ap (frC lsB bls K)<|ap (f115 n K (by omega) (by omega))<|ap (?_:(PV.own 1 (List.map lsB (zK5 n K))).free=true) an)<|zAc 1<|zAa<|zAe<|zAc 1<|S_a [(1,.v (I (↑(i+1):Int)))] (ap (wrN i) an)<|zAc 1<|zAa ?_
  ·exact zKn _
  exact ⟨(zK5 n K,i+1),⟨by omega,yQ⟩,by simp only;omega,by kernel_rfl,by kernel_rfl⟩
 ·have e2:i=e.toNat:=by omega
  subst e2
  clear hi
  rw [hK]
  refine zAg<|zAd 3<|zAa<|zAK ((↑e.toNat:Int)<e) (by omega)<|zAs 0<|zAd 1<|S_a [(2,.yes)] (ap ((by exact zBj (by simp<;>omega)):(Nat.beq 0 0&&(List.map lsB (zGt n cs e.toNat)).length.beq (List.map lsB (zGt n cs e.toNat)).length)=true) an)<|zAa<|zAm<|E_a [(1,.yes),(1,.v (PV.own 1 (List.map lsB (zGt n cs e.toNat))))] (ap (blz (List.map lsB (zGt n cs e.toNat)))<|ap ((zAE zAz):PV.own 1 (List.take (List.map lsB (zGt n cs e.toNat)).length (List.drop 0 (List.map lsB (zGt n cs e.toNat))))=PV.own 1 (List.map lsB (zGt n cs e.toNat))) an) (PV.own 1 (List.map lsB (zGt n cs e.toNat))) [] rfl rfl
end Go.Eng
set_option maxRecDepth 10000
set_option maxHeartbeats 4000000
namespace Go.Eng
open Go Go.Proofs
def gpB (n:Nw) (K:List (List Bool)) (h i:Nat):Bool:=zLS n K h i&&decide (0≤zLw n i)
def gpR (n:Nw) (K:List (List Bool)) (h k:Nat):List (Int×Int):=((List.range k).filter fun i=>gpB n K h i).map fun (i:Nat)=>((h:Int),(i:Int))
def gpN (n:Nw) (K:List (List Bool)) (h:Nat):List (Int×Int):=(List.range h).flatMap fun h=>gpR n K h n.n.length
theorem zSQ {n:Nw} {K:List (List Bool)} {h k:Nat}:gpR n K h (k+1)=if gpB n K h k=true then gpR n K h k++[((h:Int),(k:Int))] else gpR n K h k:=by
 unfold gpR
 rw [List.range_succ,List.filter_append]
 cases hg:gpB n K h k<;>simp [hg]
theorem zOI {n:Nw} {K:List (List Bool)} {h:Nat}:gpN n K (h+1)=gpN n K h++gpR n K h n.n.length:=by
 simp [gpN,List.range_succ,List.flatMap_append]
theorem zRj {n:Nw} {K:List (List Bool)} {h k:Nat}:(gpR n K h k).length≤k:=by
 unfold gpR
 rw [List.length_map]
 exact Nat.le_trans (List.length_filter_le _ _) (by simp)
theorem zQL {n:Nw} {K:List (List Bool)} (ho:NwOk n):∀ {h:Nat},(gpN n K h).length≤8*h
 | 0=>by simp [gpN]
 | h+1=>by
  rw [zOI,List.length_append]
  have:=zQL (K:=K) ho (h:=h)
  have h2:=zRj (n:=n) (K:=K) (h:=h) (k:=n.n.length)
  have:=ho.nl.2
  omega
theorem f94 (n:Nw) (K:List (List Bool)) (ho:NwOk n) (hr:∃ w,RelK n K w):FG 94 [nwV n,knV K] (.own 2 ((gpN n K n.h.toNat).map prV)):=by
 have hb:=ho.h
 have ka:=ho.nl
 refine zAf Tryz.f94 ?_
 refine zAd 2<|zAa<|zAd 1<|zAa<|zAg<|zAd 1<|zAa<|zAh 0 ?_
 refine zAo (fun (h,L)=>h≤n.h.toNat∧L=gpN n K h) (fun (h,L)=>[(5,.own 2 (L.map prV)),(6,I (h:Nat))]) (fun (h,_)=>n.h.toNat-h) ((0:Nat),([]:List (Int×Int))) ⟨by omega,rfl⟩ fun (h,L) ⟨hh,hL⟩=>?_
 have hLl:L.length≤8*h:=hL▸zQL ho
 by_cases ga:(h:Int)<n.h
 ·refine zAg<|zAd 4<|zAa<|zAJ ((↑h:Int)<n.h) (by omega)<|zAj<|zAg<|zAh 1<|zAd 1<|zAa<|zAh 2 ?_
  refine zAo (fun (i,M)=>i≤n.n.length∧M=L++gpR n K h i) (fun (i,M)=>[(5,.own 2 (M.map prV)),(7,I (i:Nat))]) (fun (i,_)=>n.n.length-i) ((0:Nat),L) ⟨by omega,by simp [gpR]⟩ fun (i,M) ⟨hi,hM⟩=>?_
  have hMl:M.length≤8*h+8:=by
   rw [hM,List.length_append]
   have:=zRj (n:=n) (K:=K) (h:=h) (k:=i)
   omega
  by_cases yB:(i:Int)<n.n.length
  ·have yQ:=zSQ (n:=n) (K:=K) (h:=h) (k:=i)
   have hx:∀ b:Bool,gpB n K h i=b→L++gpR n K h (i+1)=if b=true then M++[((h:Int),(i:Int))] else M:=fun b hb=>by
    rw [yQ,hb,hM];cases b<;>simp
   clear hL hM yQ
   refine zAg<|zAd 3<|S_a [(0,.n n.n.length)] (ap (lnS ntV n.n) an)<|zAc 1<|zAa<|zAJ ((↑i:Int)<(↑n.n.length:Int)) (by omega)<|zAj<|zAg<|zAh 3<|zAd 4<|S_a [(12,.ret (PV.bool (zLS n K h i)) [])] (ap (f113 n K h i (by omega) (by omega) (by first | omega | (simp<;>omega)) (by first | omega | (simp<;>omega))) an)<|zAc 1<|zDt 26 (zLS n K h i) (fun k0=>(zAc 2<|S_a [(8,.ret (I (zLw n (↑i:Int))) [])] (ap (f143 n ((↑i:Int)) (by first | omega | (simp<;>omega))) an)<|zAc 2<|zAa<|zBZ (zLw n (↑i:Int)≥0) (fun k1=>(zAe<|zAc 5<|S_a [(4,.ob),(0,.ob),(0,.yes),(2,.v (PV.own 2 (List.map prV (M++[((↑h:Int),(↑i:Int))]))))] (ap (blz (List.map prV M))<|ap ((by exact zA9 (by simp only [List.length_map,zzLn,zA1]<;>omega)):((List.map prV M).length + [PV.agg [I (↑h:Int),I (↑i:Int)]].length).ble zA1=true)<|ap ((by exact zBj (by simp<;>omega)):(0+(List.map prV M).length).beq (List.map prV M).length=true)<|ap ((zAE (zB0 (by kernel_rfl))):PV.own 2 (List.map prV M++[PV.agg [I (↑h:Int),I (↑i:Int)]])=PV.own 2 (List.map prV (M++[((↑h:Int),(↑i:Int))]))) an)<|zAc 1<|zAa<|zAe<|zAc 1<|S_a [(1,.v (I (↑(i+1):Int)))] (ap (wrN i) an)<|zAc 1<|zAa ?_)) (fun k1=>(zAj<|zAe<|zAc 1<|S_a [(1,.v (I (↑(i+1):Int)))] (ap (wrN i) an)<|zAc 1<|zAa ?_)))) (fun k0=>(zAc 5<|zAa<|zAW<|zAj<|zAe<|zAc 1<|S_a [(1,.v (I (↑(i+1):Int)))] (ap (wrN i) an)<|zAc 1<|zAa ?_))
   ·exact ⟨(i+1,M++[((h:Int),(i:Int))]),⟨by omega,(hx true (by rw [gpB,k0,decide_eq_true (by omega)];rfl)).symm⟩,by simp only;omega,by kernel_rfl,by kernel_rfl⟩
   ·exact ⟨(i+1,M),⟨by omega,(hx false (by rw [gpB,k0,decide_eq_false (by omega)];rfl)).symm⟩,by simp only;omega,by kernel_rfl,by kernel_rfl⟩
   ·exact ⟨(i+1,M),⟨by omega,(hx false (by rw [gpB,k0];rfl)).symm⟩,by simp only;omega,by kernel_rfl,by kernel_rfl⟩
  ·have uQ:M=gpN n K (h+1):=by rw [hM,hL,zOI,show i=n.n.length by omega]
   clear hL hM
   refine zAg<|zAd 3<|S_a [(0,.n n.n.length)] (ap (lnS ntV n.n) an)<|zAc 1<|zAa<|zAK ((↑i:Int)<(↑n.n.length:Int)) (by omega)<|zAs 2<|zAe<|zAc 1<|S_a [(1,.v (I (↑(h+1):Int)))] (ap (wrN h) an)<|zAc 1<|zAa ?_
   exact ⟨(h+1,M),⟨by omega,uQ⟩,by simp only;omega,by kernel_rfl,by kernel_rfl⟩
 ·have e:h=n.h.toNat:=by omega
  subst e
  rw [← hL]
  clear hL
  refine zAg<|zAd 4<|zAa<|zAK ((↑n.h.toNat:Int)<n.h) (by omega)<|zAs 0<|zAd 1<|S_a [(2,.yes)] (ap ((by exact zBj (by simp<;>omega)):(Nat.beq 0 0&&(List.map prV L).length.beq (List.map prV L).length)=true) an)<|zAa<|zAm<|E_a [(1,.yes),(1,.v (PV.own 2 (List.map prV L)))] (ap (blz (List.map prV L))<|ap ((zAE zAz):PV.own 2 (List.take (List.map prV L).length (List.drop 0 (List.map prV L)))=PV.own 2 (List.map prV L)) an) (PV.own 2 (List.map prV L)) [] rfl rfl
end Go.Eng
namespace Go.Eng
open Go Go.Proofs
theorem zTA {n:Nw} (ho:NwOk n) {i:Nat} (hi:i<n.n.length):(0≤zLw n i)↔(zA2 n).getD i 0≠i:=by
 obtain ⟨l,h1,h2,h3,h4,h5⟩:=zQ9 ho hi
 rw [h1]
 rcases zLy ho hi with ⟨g1,g2⟩ | ⟨m,g1,g2,g3,g4,_⟩
 ·rw [g1]
  have:=g2 l h2 h3
  constructor<;>intro h<;>omega
 ·rw [g1]
  have:=h5 m g3 g4
  constructor<;>intro h<;>omega
theorem zXo {n:Nw} {K:List (List Bool)} {w:List Int} (ho:NwOk n) (hr:RelK n K w) {h i:Nat} (hh:h<n.h.toNat) (hi:i<n.n.length):gpB n K h i=zQu n w h i:=by
 unfold gpB zQu
 rw [zRL ho hr hh hi]
 unfold hld
 congr 1
 exact decide_eq_decide.2 (zTA ho hi)
theorem zWz {n:Nw} {K:List (List Bool)} {w:List Int} (ho:NwOk n) (hr:RelK n K w):gpN n K n.h.toNat=zAT n w:=by
 unfold gpN zAT zTo gpR zPC
 rw [List.flatMap_def,List.flatMap_def]
 congr 1
 refine List.map_congr_left fun h hh=>?_
 congr 1
 exact List.filter_congr fun i hi=>zXo ho hr (List.mem_range.1 hh) (List.mem_range.1 hi)
end Go.Eng
namespace Go.Eng
open Go Go.Proofs
end Go.Eng
