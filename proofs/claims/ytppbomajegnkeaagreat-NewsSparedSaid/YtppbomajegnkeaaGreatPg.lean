/- For all numbers, cries, which and when the law NewsSpared ends in true: without a cry that is told all yn hold the same, without another one some hold something else; without conditions. -/
import Derived.Test.YtppbomajegnkeaaGreatPf
import Derived.Test.YtppbomajegnkeaaGreatPd
import Derived.Test.YtppbomajegnkeaaGreatPe
set_option linter.unusedVariables false
set_option linter.unusedSimpArgs false
set_option linter.unusedSectionVars false
set_option maxRecDepth 10000
set_option maxHeartbeats 4000000
namespace Go.Eng
open Go Go.Proofs
abbrev hdV (w:List Int):PV := .agg (zAX w 80)
def zPr (w:List Int) (i:Nat) (x:Int):List Int:=w.set i (max (w.getD i 0) x)
theorem zIr {w:List Int} {i:Nat} {x:Int}:(zPr w i x).length=w.length:=by simp [zPr]
def begC (n:Nw) (h:Nat) (w:List Int) (c:Int×Int):List Int:=if has (n.s.getD c.2.toNat []) h=true then zPr w (h*8+((zAi n).getD c.1.toNat 0).toNat) c.1 else w
def begH (n:Nw) (h:Nat) (w:List Int) (cs:List (Int×Int)):List Int:=cs.foldl (begC n h) w
def begN (n:Nw) (cs:List (Int×Int)) (h:Nat):List Int:=(List.range h).foldl (fun w h=>begH n h w cs) (List.replicate 80 (-1))
def nxtR (now:List Int) (h o:Nat) (w:List Int) (k:Nat):List Int:=(List.range k).foldl (fun w i=>zPr w (h*8+i) (now.getD (o*8+i) 0)) w
def nxtH (now:List Int) (h:Nat) (w:List Int) (l:List Nat):List Int:=l.foldl (fun w o=>nxtR now h o w 8) w
def nxtN (n:Nw) (now:List Int) (h:Nat):List Int:=(List.range h).foldl (fun w h=>nxtH now h w (zHA n h n.h.toNat)) now
def zLN (n:Nw) (cs:List (Int×Int)):List Int:=begN n cs n.h.toNat
def zCs (n:Nw) (now:List Int):List Int:=nxtN n now n.h.toNat
def zBc (n:Nw) (cs:List (Int×Int)):Nat→List Int
 | 0=>zLN n cs
 | k+1=>zCs n (zBc n cs k)
theorem zTr {n:Nw} {h:Nat} {w:List Int} {c:Int×Int}:(begC n h w c).length=w.length:=by unfold begC;split<;>simp [zIr]
theorem zLl {n:Nw} {h:Nat}:∀ {cs:List (Int×Int)} {w:List Int},(begH n h w cs).length=w.length
 | [],w=>rfl
 | c::cs,w=>by
  show (begH n h (begC n h w c) cs).length=_
  rw [zLl,zTr]
theorem zG4 {n:Nw} {cs:List (Int×Int)} {h:Nat}:begN n cs (h+1)=begH n h (begN n cs h) cs:=by
 simp only [begN,List.range_succ,List.foldl_append,List.foldl_cons,List.foldl_nil]
theorem zKU {n:Nw} {cs:List (Int×Int)}:∀ h,(begN n cs h).length=80
 | 0=>by simp [begN]
 | h+1=>by rw [zG4,zLl];exact zKU h
theorem zQU {n:Nw} {h:Nat} {w:List Int} {cs:List (Int×Int)} {i:Nat} (hi:i<cs.length):begH n h w (cs.take (i+1))=begC n h (begH n h w (cs.take i)) (cs.getD i default):=zGE hi
theorem zJe {now w:List Int} {h o k:Nat}:nxtR now h o w (k+1)=zPr (nxtR now h o w k) (h*8+k) (now.getD (o*8+k) 0):=by
 simp only [nxtR,List.range_succ,List.foldl_append,List.foldl_cons,List.foldl_nil]
theorem zG7 {now w:List Int} {h o:Nat}:∀ k,(nxtR now h o w k).length=w.length
 | 0=>rfl
 | k+1=>by rw [zJe,zIr];exact zG7 k
theorem zK7 {now:List Int} {h:Nat}:∀ {l:List Nat} {w:List Int},(nxtH now h w l).length=w.length
 | [],_=>rfl
 | o::l,w=>by
  show (nxtH now h (nxtR now h o w 8) l).length=_
  rw [zK7,zG7]
theorem zJB {n:Nw} {now:List Int} {h:Nat}:nxtN n now (h+1)=nxtH now h (nxtN n now h) (zHA n h n.h.toNat):=by
 simp only [nxtN,List.range_succ,List.foldl_append,List.foldl_cons,List.foldl_nil]
theorem zIt {n:Nw} {now:List Int}:∀ h,(nxtN n now h).length=now.length
 | 0=>rfl
 | h+1=>by rw [zJB,zK7];exact zIt h
theorem zRx {now:List Int} {h:Nat} {w:List Int} {l:List Nat} {i:Nat} (hi:i<l.length):nxtH now h w (l.take (i+1))=nxtR now h (l.getD i 0) (nxtH now h w (l.take i)) 8:=zGE hi
theorem zOD {n:Nw} {cs:List (Int×Int)}:(zLN n cs).length=80:=zKU _
theorem zSl {n:Nw} {w:List Int} (h:w.length=80):(zCs n w).length=80:=by rw [zCs,zIt,h]
theorem zBH {n:Nw} {cs:List (Int×Int)}:∀ k,(zBc n cs k).length=80
 | 0=>zOD
 | k+1=>zSl (zBH k)
theorem zJn {F:List Int} {i:Nat} {a:Int} (hF:F.length=8) (hi:i<8) (ha : -1≤a∧a<i) (j:Nat):(zMP F i a).getD j 0=if j=i then (if a = -1 then (i:Int) else F.getD a.toNat 0) else F.getD j 0:=by
 unfold zMP
 by_cases hj:j=i
 ·subst hj
  rw [if_pos rfl]
  split
  ·rw [zDe,if_pos ⟨rfl,by omega⟩]
  ·rw [zDe,if_pos ⟨rfl,by simp;omega⟩,zDe,if_neg (by omega)]
 ·rw [if_neg hj]
  split
  ·rw [zDe,if_neg (fun h=>hj h.1.symm)]
  ·rw [zDe,if_neg (fun h=>hj h.1.symm),zDe,if_neg (fun h=>hj h.1.symm)]
theorem zNr {n:Nw} (ho:NwOk n):∀ i,i≤n.n.length→∀ j,j<i→0≤(zOR n.n i).getD j 0∧(zOR n.n i).getD j 0≤j
 | 0,_,j,hj=>absurd hj (Nat.not_lt_zero j)
 | i + 1,hi,j,hj=>by
  have h8:=ho.nl.2
  have ha:=ho.na i (by omega)
  rw [zOR,zJn (zHp i) (by omega) ha]
  split
  ·subst j
   split
   ·omega
   ·have:=zNr ho i (by omega) ((n.n.getD i default).1.toNat) (by omega)
    omega
  ·exact zNr ho i (by omega) j (by omega)
theorem zBM {n:Nw} (ho:NwOk n) (j:Nat) (hj:j<n.n.length):0≤(zAi n).getD j 0∧(zAi n).getD j 0≤j:=zNr ho _ (Nat.le_refl _) j hj
theorem f100 (n:Nw) (cs:List (Int×Int)) (ho:CrW n cs):FG 100 [zDT n cs] (hdV (zLN n cs)):=by
 have hb:=ho.nw.h
 have hn:=ho.nw
 have yO:=ho.len
 refine zAe Tryz.f100 ?_
 refine zAd 1<|zAa<|zAd 1<|zAa<|zAh<|zAd 1<|zAa<|zAk 0 ?_
 refine zAy (fun (h,w)=>h≤10∧w.length=80∧∀ j,j<h*8→w.getD j 0 = -1) (fun (h,w)=>[(3,.box (hdV w)),(11,I (h:Nat))]) (fun (h,_)=>10-h) ((0:Nat),List.replicate 80 0) ⟨by omega,rfl,fun j h=>by omega⟩ fun (h,w) ⟨hh,hw,ha⟩=>?_
 by_cases vU:h<10
 ·refine zAd 1<|zAa<|zAh<|zA3 ((↑h:Int)<10) (by omega)<|zAm<|zAh<|zAk 1<|zAd 2<|zAa<|zAd 1<|zAa<|zAk 2 ?_
  refine zAy (fun (i,v)=>i≤8∧v.length=80∧∀ j,j<h*8+i→v.getD j 0 = -1) (fun (i,v)=>[(3,.box (hdV v)),(14,I (i:Nat))]) (fun (i,_)=>8-i) ((0:Nat),w) ⟨by omega,hw,fun j h=>ha j (by omega)⟩ fun (i,v) ⟨hi,hv,hav⟩=>?_
  by_cases yP:i<8
  ·refine zAd 1<|zAa<|zAh<|zA3 ((↑i:Int)<8) (by omega)<|zAm<|zAh<|zAk 3<|zAd 2<|zAa<|zAg<|zAc 2<|S_a [(2,.ob)] (ap ((by exact zAq (by omega)):decide (h<10)=true) an)<|S_a [(2,.ob)] (ap ((by exact zAq (by omega)):decide (i<8)=true) an)<|S_a [(7,.root ((PV.agg (zAX (v.set (h*8+i) (-1)) 80)).box) true)] (ap (zP8 (zKx (q:=(PV.agg (zAX v 80)).box) (xs:=[PV.agg (zAX v 80)]) (x:=PV.agg (zAX v 80)) (y:=PV.agg (zAX (v.set (h*8+i) (-1)) 80)) (q':=(PV.agg (zAX (v.set (h*8+i) (-1)) 80)).box) rfl (zNh (F:=v) (m:=80) (j:=h*8+i) (u:=-1) (by first | rfl | exact zB9 (by kernel_rfl) | exact zB6 (by kernel_rfl) | exact zDN (by kernel_rfl) (by kernel_rfl) | exact zDE (by kernel_rfl) | exact zDU (by kernel_rfl) (by kernel_rfl) | exact zDG (by kernel_rfl) | (simp;done)) (by omega) (by omega)) rfl (hb:=zN2 (F:=v) (m:=80) (j:=h*8+i) (by first | rfl | exact zB9 (by kernel_rfl) | exact zB6 (by kernel_rfl) | exact zDN (by kernel_rfl) (by kernel_rfl) | exact zDE (by kernel_rfl) | exact zDU (by kernel_rfl) (by kernel_rfl) | exact zDG (by kernel_rfl) | (simp;done)) (by omega))) rfl:zBF (PV.agg (zAX v 80)).box [] 0 (0+(↑h:Int).toNat*(fun x=>x.size) Tryz.prog.types[128]+(↑i:Int).toNat*(fun x=>x.size) Tryz.prog.types[3]) (I (-1)).cells=some (PV.agg (zAX (v.set (h*8+i) (-1)) 80)).box∧zAD (PV.agg (zAX v 80)).box (PV.agg (zAX (v.set (h*8+i) (-1)) 80)).box []=true) an)<|zAa<|zAg<|S_a [(1,.v (I (↑(i+1):Int)))] (ap (wrN i) an)<|zAc 1<|zAa ?_
   refine ⟨(i+1,v.set (h*8+i) (-1)),⟨by omega,by simpa using hv,fun j hj=>?_⟩,by simp only;omega,by kernel_rfl,by kernel_rfl⟩
   rw [zDe]
   split
   ·rfl
   ·exact hav j (by omega)
  ·refine zAd 1<|zAa<|zAh<|zBd ((↑i:Int)<8) (by omega)<|zAM 2<|zAg<|S_a [(1,.v (I (↑(h+1):Int)))] (ap (wrN h) an)<|zAc 1<|zAa ?_
   exact ⟨(h+1,v),⟨by omega,hv,fun j hj=>hav j (by omega)⟩,by simp only;omega,by kernel_rfl,by kernel_rfl⟩
 ·have hw0:w=List.replicate 80 (-1):=by
   refine List.ext_getElem (by simp [hw]) fun j h1 h2=>?_
   have:=ha j (by omega)
   rw [zAB h1] at this
   rw [this,List.getElem_replicate]
  clear ha
  have hw0':begN n cs 0=w:=by rw [hw0];rfl
  clear hw0
  refine zAd 1<|zAa<|zAh<|zBd ((↑h:Int)<10) (by omega)<|zAM 0<|zAd 3<|zAa<|zAh<|zAd 6<|zAa<|zAk 4 ?_
  refine zAy (fun (h,v)=>h≤n.h.toNat∧v=begN n cs h) (fun (h,v)=>[(3,.box (hdV v)),(30,I (h:Nat))]) (fun (h,_)=>n.h.toNat-h) ((0:Nat),w) ⟨by omega,hw0'.symm⟩ fun (h,v) ⟨hh,hv⟩=>?_
  have js:v.length=80:=by rw [hv];exact zKU h
  by_cases vU:(h:Int)<n.h
  ·have yJ:=zG4 (n:=n) (cs:=cs) (h:=h)
   rw [← hv] at yJ
   refine zAd 1<|zAa<|zAh<|zA3 ((↑h:Int)<n.h) (by omega)<|zAm<|zAh<|zAk 5<|zAd 2<|zAa<|zAd 4<|S_a [(0,.n cs.length)] (ap (lnS prV cs) an)<|zAc 1<|zAa<|zAk 6 ?_
   refine zAy (fun (i,q)=>i≤cs.length∧q=begH n h v (cs.take i)) (fun (i,q)=>[(3,.box (hdV q)),(38,I (i:Nat))]) (fun (i,_)=>cs.length-i) ((0:Nat),v) ⟨by omega,rfl⟩ fun (i,q) ⟨hi,hq⟩=>?_
   have wh:q.length=80:=by rw [hq,zLl];exact js
   by_cases yP:i<cs.length
   ·have qn:=zBU (d:=default) ho.cs i yP
    have yU:=zQU (n:=n) (h:=h) (w:=v) yP
    rw [← hq] at yU
    have hfb:=zBM hn (cs.getD i default).1.toNat (by omega)
    have vD:=hn.nl
    have jE:=qn.2
    have v6:0≤(cs.getD i default).1∧(cs.getD i default).1<8:=by omega
    have hfi:((zAi n).getD (cs.getD i default).1.toNat 0).toNat<8:=by have:=hn.nl;omega
    clear yJ hv hq
    refine zAd 1<|zAa<|zAh<|zA3 ((↑i:Int)<(↑cs.length:Int)) (by omega)<|zAm<|zAh<|zAk 7<|zAh<|zAg<|S_a [(2,.v (PV.agg [I (cs.getD i default).fst,I (cs.getD i default).snd]))] (ap (zCh default (by omega):(List.map prV cs)[i]? = some (PV.agg [I (cs.getD i default).fst,I (cs.getD i default).snd])) an)<|zAc 3<|zAa<|zAd 4<|S_a [(9,.ret (PV.bool (has (n.s.getD (cs.getD i default).snd.toNat []) (↑h:Int))) [])] (ap (f140 n (prs cs) (List.map pr2 n.l) (zAi n) (zBo n) (by omega) ((↑h:Int)) ((cs.getD i default).snd) (by omega)) an)<|zAa<|zGb (has (n.s.getD (cs.getD i default).snd.toNat []) (↑h:Int)) (fun k0=>(zAd 5<|S_a [(0,.ob),(1,.ob),(0,.v ((I ((zAi n).getD (cs.getD i default).fst.toNat 0)).ref))] (ap ((by exact zAq (by omega)):decide (0≤(cs.getD i default).fst)=true)<|ap ((by exact zAq (by omega)):decide ((cs.getD i default).fst.toNat<8)=true)<|ap (zGq (F:=zAi n) (m:=8) (j:=(cs.getD i default).fst.toNat) (by omega):zCo (PV.agg (zAX (zAi n) 8)).ref ((cs.getD i default).fst.toNat*(fun x=>x.size) Tryz.prog.types[3]) none=some (I ((zAi n).getD (cs.getD i default).fst.toNat 0)).ref) an)<|zAc 2<|zAa<|zAg<|zAc 4<|S_a [(2,.ob)] (ap ((by exact zAq (by omega)):decide (h<10)=true) an)<|S_a [(0,.ob),(1,.ob)] (ap ((by exact zAq (by omega)):decide (0≤(zAi n).getD (cs.getD i default).fst.toNat 0)=true)<|ap ((by exact zAq (by omega)):decide (((zAi n).getD (cs.getD i default).fst.toNat 0).toNat<8)=true) an)<|S_a [(0,.cs true ([I (q.getD (h*8+((zAi n).getD (cs.getD i default).fst.toNat 0).toNat) 0)]))] (ap (zCu (q:=(PV.agg (zAX q 80)).box) (xs:=[PV.agg (zAX q 80)]) (x:=PV.agg (zAX q 80)) rfl rfl (zFg (F:=q) (m:=80) (j:=h*8+((zAi n).getD (cs.getD i default).fst.toNat 0).toNat) (by first | rfl | exact zB9 (by kernel_rfl) | exact zB6 (by kernel_rfl) | exact zDN (by kernel_rfl) (by kernel_rfl) | exact zDE (by kernel_rfl) | exact zDU (by kernel_rfl) (by kernel_rfl) | exact zDG (by kernel_rfl) | (simp;done)) (by omega)):zAr 3 (PV.agg (zAX q 80)).box [] 0 (0+(↑h:Int).toNat*(fun x=>x.size) Tryz.prog.types[128]+((zAi n).getD (cs.getD i default).fst.toNat 0).toNat*(fun x=>x.size) Tryz.prog.types[3]) 1=some (true,[I (q.getD (h*8+((zAi n).getD (cs.getD i default).fst.toNat 0).toNat) 0)])) an)<|zAc 3<|S_a [(9,.ret (I (max (q.getD (h*8+((zAi n).getD (cs.getD i default).fst.toNat 0).toNat) 0) (cs.getD i default).fst)) [])] (ap (f165 (q.getD (h*8+((zAi n).getD (cs.getD i default).fst.toNat 0).toNat) 0) ((cs.getD i default).fst)) an)<|S_a [(2,.ob)] (ap ((by exact zAq (by omega)):decide (h<10)=true) an)<|S_a [(0,.ob),(1,.ob)] (ap ((by exact zAq (by omega)):decide (0≤(zAi n).getD (cs.getD i default).fst.toNat 0)=true)<|ap ((by exact zAq (by omega)):decide (((zAi n).getD (cs.getD i default).fst.toNat 0).toNat<8)=true) an)<|S_a [(8,.root ((PV.agg (zAX (q.set (h*8+((zAi n).getD (cs.getD i default).fst.toNat 0).toNat) (max (q.getD (h*8+((zAi n).getD (cs.getD i default).fst.toNat 0).toNat) 0) (cs.getD i default).fst)) 80)).box) true)] (ap (zP8 (zKx (q:=(PV.agg (zAX q 80)).box) (xs:=[PV.agg (zAX q 80)]) (x:=PV.agg (zAX q 80)) (y:=PV.agg (zAX (q.set (h*8+((zAi n).getD (cs.getD i default).fst.toNat 0).toNat) (max (q.getD (h*8+((zAi n).getD (cs.getD i default).fst.toNat 0).toNat) 0) (cs.getD i default).fst)) 80)) (q':=(PV.agg (zAX (q.set (h*8+((zAi n).getD (cs.getD i default).fst.toNat 0).toNat) (max (q.getD (h*8+((zAi n).getD (cs.getD i default).fst.toNat 0).toNat) 0) (cs.getD i default).fst)) 80)).box) rfl (zNh (F:=q) (m:=80) (j:=h*8+((zAi n).getD (cs.getD i default).fst.toNat 0).toNat) (u:=max (q.getD (h*8+((zAi n).getD (cs.getD i default).fst.toNat 0).toNat) 0) (cs.getD i default).fst) (by first | rfl | exact zB9 (by kernel_rfl) | exact zB6 (by kernel_rfl) | exact zDN (by kernel_rfl) (by kernel_rfl) | exact zDE (by kernel_rfl) | exact zDU (by kernel_rfl) (by kernel_rfl) | exact zDG (by kernel_rfl) | (simp;done)) (by omega) (by omega)) rfl (hb:=zN2 (F:=q) (m:=80) (j:=h*8+((zAi n).getD (cs.getD i default).fst.toNat 0).toNat) (by first | rfl | exact zB9 (by kernel_rfl) | exact zB6 (by kernel_rfl) | exact zDN (by kernel_rfl) (by kernel_rfl) | exact zDE (by kernel_rfl) | exact zDU (by kernel_rfl) (by kernel_rfl) | exact zDG (by kernel_rfl) | (simp;done)) (by omega))) rfl:zBF (PV.agg (zAX q 80)).box [] 0 (0+(↑h:Int).toNat*(fun x=>x.size) Tryz.prog.types[128]+((zAi n).getD (cs.getD i default).fst.toNat 0).toNat*(fun x=>x.size) Tryz.prog.types[3]) (I (max (q.getD (h*8+((zAi n).getD (cs.getD i default).fst.toNat 0).toNat) 0) (cs.getD i default).fst)).cells=some (PV.agg (zAX (q.set (h*8+((zAi n).getD (cs.getD i default).fst.toNat 0).toNat) (max (q.getD (h*8+((zAi n).getD (cs.getD i default).fst.toNat 0).toNat) 0) (cs.getD i default).fst)) 80)).box∧zAD (PV.agg (zAX q 80)).box (PV.agg (zAX (q.set (h*8+((zAi n).getD (cs.getD i default).fst.toNat 0).toNat) (max (q.getD (h*8+((zAi n).getD (cs.getD i default).fst.toNat 0).toNat) 0) (cs.getD i default).fst)) 80)).box []=true) an)<|zAa<|zAg<|S_a [(1,.v (I (↑(i+1):Int)))] (ap (wrN i) an)<|zAc 1<|zAa ?_)) (fun k0=>(zAm<|zAg<|S_a [(1,.v (I (↑(i+1):Int)))] (ap (wrN i) an)<|zAc 1<|zAa ?_))
    ·rw [begC,if_pos k0] at yU
     exact ⟨(i+1,zPr q (h*8+((zAi n).getD (cs.getD i default).1.toNat 0).toNat) (cs.getD i default).1),⟨by omega,yU.symm⟩,by simp only;omega,by kernel_rfl,by kernel_rfl⟩
    ·rw [begC,if_neg (by rw [k0];simp)] at yU
     exact ⟨(i+1,q),⟨by omega,yU.symm⟩,by simp only;omega,by kernel_rfl,by kernel_rfl⟩
   ·refine zAd 1<|zAa<|zAh<|zBd ((↑i:Int)<(↑cs.length:Int)) (by omega)<|zAM 6<|zAg<|S_a [(1,.v (I (↑(h+1):Int)))] (ap (wrN h) an)<|zAc 1<|zAa ?_
    rw [List.take_of_length_le (by omega)] at hq
    exact ⟨(h+1,q),⟨by omega,by rw [yJ,hq]⟩,by simp only;omega,by kernel_rfl,by kernel_rfl⟩
  ·have e:h=n.h.toNat:=by omega
   subst e
   refine zAd 1<|zAa<|zAh<|zBd ((↑n.h.toNat:Int)<n.h) (by omega)<|zAM 4<|zAd 2<|zAa<|zAn<|E_a [] an (PV.agg (zAX v 80)) [] ?_ rfl
   rw [hv];rfl
theorem zLh {n:Nw} {h o m:Nat} (ho:o∈zHA n h m):o<m:=by
 simp only [zHA,List.mem_filter,List.mem_range] at ho;exact ho.1
theorem zSW {w:List Int} {o i:Nat} (hi:i<8):((w.drop o).take 8).getD i 0=w.getD (o+i) 0:=by
 simp [List.getD_eq_getElem?_getD,List.getElem?_take,hi]
theorem f101 (n:Nw) (cs:List (Int×Int)) (now:List Int) (ho:NwOk n) (hw:now.length=80):FG 101 [zDT n cs,hdV now] (hdV (zCs n now)):=by
 have hb:=ho.h
 refine zAe Tryz.f101 ?_
 refine zAd 2<|zAa<|zAd 3<|zAa<|zAh<|zAd 6<|zAa<|zAk 0 ?_
 refine zAy (fun (h,v)=>h≤n.h.toNat∧v=nxtN n now h) (fun (h,v)=>[(5,.box (hdV v)),(16,I (h:Nat))]) (fun (h,_)=>n.h.toNat-h) ((0:Nat),now) ⟨by omega,rfl⟩ fun (h,v) ⟨hh,hv⟩=>?_
 have js:v.length=80:=by rw [hv,zIt];exact hw
 by_cases vU:(h:Int)<n.h
 ·have yJ:=zJB (n:=n) (now:=now) (h:=h)
  rw [← hv] at yJ
  have hA:=zUh n cs h ho vU
  refine zAd 1<|zAa<|zAh<|zA3 ((↑h:Int)<n.h) (by omega)<|zAm<|zAh<|zAk 1<|zAd 3<|zAa<|zAd 2<|S_a [(7,.ret (PV.func 169 [] [(zDT n cs).ref,(I (↑h:Int)).ref]) [])] (ap (f116 n cs ((↑h:Int))) an)<|zAa<|zAk 2 ?_
  refine zOl (t:=21) hA (fun j q=>q=nxtH now h v ((zHA n h n.h.toNat).take j)) (fun q=>[(5,.box (hdV q))]) v rfl (fun j x q hx hq=>?_) (fun q hq=>?_)
  ·rw [List.getElem?_map] at hx
   obtain ⟨o,hm,rfl⟩:=Option.map_eq_some_iff.1 hx
   have hj:j<(zHA n h n.h.toNat).length:=(List.getElem?_eq_some_iff.1 hm).1
   have hol:o<n.h.toNat:=zLh (List.mem_of_getElem? hm)
   have wh:q.length=80:=by rw [hq,zK7];exact js
   have yU:=zRx (now:=now) (h:=h) (w:=v) hj
   rw [← hq,show (zHA n h n.h.toNat).getD j 0=o by simp [List.getD_eq_getElem?_getD,hm]] at yU
   clear yJ hv hA hq hm hj
   refine zPd ?_
   refine zAg<|zAc 1<|zAa ?_
   refine ⟨rfl,by kernel_rfl,?_⟩
   refine zAk 3<|zAd 1<|S_a [(2,.ob)] (ap ((by exact zAq (by omega)):decide (o<10)=true) an)<|S_a [(0,.cs true (zAX (List.take 8 (List.drop (o*8) now)) 8))] (ap (zCu (q:=(PV.agg (zAX now 80)).box) (xs:=[PV.agg (zAX now 80)]) (x:=PV.agg (zAX now 80)) rfl rfl (zVj (K:=8) (c:=o*8) (by omega) (by first | rfl | exact zB9 (by kernel_rfl) | exact zB6 (by kernel_rfl) | exact zDG (by kernel_rfl) | (simp;done)) (by omega) (by kernel_rfl)):zAr 3 (PV.agg (zAX now 80)).box [] 0 (0+(↑o:Int).toNat*(fun x=>x.size) Tryz.prog.types[128]) Tryz.prog.types[128].size=some (true,zAX (List.take 8 (List.drop (o*8) now)) 8)) an)<|zAc 1<|zAa<|zAk 4 ?_
   refine zAy (fun (i,p)=>i≤8∧p=nxtR now h o q i) (fun (i,p)=>[(5,.box (hdV p)),(26,I (i:Nat))]) (fun (i,_)=>8-i) ((0:Nat),q) ⟨by omega,rfl⟩ fun (i,p) ⟨hi,hp⟩=>?_
   have uu:p.length=80:=by rw [hp,zG7];exact wh
   by_cases yP:i<8
   ·have uO:=zJe (now:=now) (w:=q) (h:=h) (o:=o) (k:=i)
    rw [← hp,← zSW yP] at uO
    refine zAd 1<|zAa<|zAh<|zA3 ((↑i:Int)<8) (by omega)<|zAm<|zAh<|zAk 5<|zAd 1<|S_a [(2,.ob),(0,.v (I ((List.take 8 (List.drop (o*8) now)).getD i 0)))] (ap ((by exact zAq (by omega)):decide (i<8)=true)<|ap (zT6 (F:=List.take 8 (List.drop (o*8) now)) (m:=8) (j:=i) (by omega):sub (PV.agg (zAX (List.take 8 (List.drop (o*8) now)) 8)) (i*(fun x=>x.size) Tryz.prog.types[3]) none=some (I ((List.take 8 (List.drop (o*8) now)).getD i 0))) an)<|zAc 2<|zAa<|zAg<|zAc 4<|S_a [(2,.ob)] (ap ((by exact zAq (by omega)):decide (h<10)=true) an)<|S_a [(2,.ob)] (ap ((by exact zAq (by omega)):decide (i<8)=true) an)<|S_a [(0,.cs true ([I (p.getD (h*8+i) 0)]))] (ap (zCu (q:=(PV.agg (zAX p 80)).box) (xs:=[PV.agg (zAX p 80)]) (x:=PV.agg (zAX p 80)) rfl rfl (zFg (F:=p) (m:=80) (j:=h*8+i) (by first | rfl | exact zB9 (by kernel_rfl) | exact zB6 (by kernel_rfl) | exact zDN (by kernel_rfl) (by kernel_rfl) | exact zDE (by kernel_rfl) | exact zDU (by kernel_rfl) (by kernel_rfl) | exact zDG (by kernel_rfl) | (simp;done)) (by omega)):zAr 5 (PV.agg (zAX p 80)).box [] 0 (0+(↑h:Int).toNat*(fun x=>x.size) Tryz.prog.types[128]+(↑i:Int).toNat*(fun x=>x.size) Tryz.prog.types[3]) 1=some (true,[I (p.getD (h*8+i) 0)])) an)<|zAc 2<|S_a [(9,.ret (I (max (p.getD (h*8+i) 0) ((List.take 8 (List.drop (o*8) now)).getD i 0))) [])] (ap (f165 (p.getD (h*8+i) 0) ((List.take 8 (List.drop (o*8) now)).getD i 0)) an)<|S_a [(2,.ob)] (ap ((by exact zAq (by omega)):decide (h<10)=true) an)<|S_a [(2,.ob)] (ap ((by exact zAq (by omega)):decide (i<8)=true) an)<|S_a [(8,.root ((PV.agg (zAX (p.set (h*8+i) (max (p.getD (h*8+i) 0) ((List.take 8 (List.drop (o*8) now)).getD i 0))) 80)).box) true)] (ap (zP8 (zKx (q:=(PV.agg (zAX p 80)).box) (xs:=[PV.agg (zAX p 80)]) (x:=PV.agg (zAX p 80)) (y:=PV.agg (zAX (p.set (h*8+i) (max (p.getD (h*8+i) 0) ((List.take 8 (List.drop (o*8) now)).getD i 0))) 80)) (q':=(PV.agg (zAX (p.set (h*8+i) (max (p.getD (h*8+i) 0) ((List.take 8 (List.drop (o*8) now)).getD i 0))) 80)).box) rfl (zNh (F:=p) (m:=80) (j:=h*8+i) (u:=max (p.getD (h*8+i) 0) ((List.take 8 (List.drop (o*8) now)).getD i 0)) (by first | rfl | exact zB9 (by kernel_rfl) | exact zB6 (by kernel_rfl) | exact zDN (by kernel_rfl) (by kernel_rfl) | exact zDE (by kernel_rfl) | exact zDU (by kernel_rfl) (by kernel_rfl) | exact zDG (by kernel_rfl) | (simp;done)) (by omega) (by omega)) rfl (hb:=zN2 (F:=p) (m:=80) (j:=h*8+i) (by first | rfl | exact zB9 (by kernel_rfl) | exact zB6 (by kernel_rfl) | exact zDN (by kernel_rfl) (by kernel_rfl) | exact zDE (by kernel_rfl) | exact zDU (by kernel_rfl) (by kernel_rfl) | exact zDG (by kernel_rfl) | (simp;done)) (by omega))) rfl:zBF (PV.agg (zAX p 80)).box [] 0 (0+(↑h:Int).toNat*(fun x=>x.size) Tryz.prog.types[128]+(↑i:Int).toNat*(fun x=>x.size) Tryz.prog.types[3]) (I (max (p.getD (h*8+i) 0) ((List.take 8 (List.drop (o*8) now)).getD i 0))).cells=some (PV.agg (zAX (p.set (h*8+i) (max (p.getD (h*8+i) 0) ((List.take 8 (List.drop (o*8) now)).getD i 0))) 80)).box∧zAD (PV.agg (zAX p 80)).box (PV.agg (zAX (p.set (h*8+i) (max (p.getD (h*8+i) 0) ((List.take 8 (List.drop (o*8) now)).getD i 0))) 80)).box []=true) an)<|zAa<|zAg<|S_a [(1,.v (I (↑(i+1):Int)))] (ap (wrN i) an)<|zAc 1<|zAa ?_
    exact ⟨(i+1,_),⟨by omega,uO.symm⟩,by simp only;omega,by kernel_rfl,by kernel_rfl⟩
   ·refine zAd 1<|zAa<|zAh<|zBd ((↑i:Int)<8) (by omega)<|zAM 4 ?_
    rw [show i=8 by omega] at hp
    exact ⟨by kernel_rfl,p,by rw [yU,hp],by kernel_rfl⟩
  ·rw [List.length_map,List.take_length] at hq
   show W _ _ _ _ _ _ _ _
   refine zAg<|S_a [(1,.v (I (↑(h+1):Int)))] (ap (wrN h) an)<|zAc 1<|zAa ?_
   exact ⟨(h+1,q),⟨by omega,by rw [yJ,hq]⟩,by simp only;omega,by kernel_rfl,by kernel_rfl⟩
 ·have e:h=n.h.toNat:=by omega
  subst e
  refine zAd 1<|zAa<|zAh<|zBd ((↑n.h.toNat:Int)<n.h) (by omega)<|zAM 0<|zAd 2<|zAa<|zAn<|E_a [] an (PV.agg (zAX v 80)) [] ?_ rfl
  rw [hv];rfl
end Go.Eng
set_option maxRecDepth 10000
set_option maxHeartbeats 4000000
namespace Go.Eng
open Go Go.Proofs
def zT5 (n:Nw) (w:List Int) (h i:Nat):Bool:=decide (w.getD (h*8+((zAi n).getD i 0).toNat) 0=i)&&decide ((zBo n).getD i 0≠i)
def zQc (n:Nw) (w:List Int) (h k:Nat):List (Int×Int):=((List.range k).filter fun i=>zT5 n w h i).map fun (i:Nat)=>((h:Int),(i:Int))
def zUl (n:Nw) (w:List Int) (h:Nat):List (Int×Int):=(List.range h).flatMap fun h=>zQc n w h n.n.length
def zB2 (n:Nw) (w:List Int):List (Int×Int):=zUl n w n.h.toNat
theorem zR5 {n:Nw} {w:List Int} {h k:Nat}:zQc n w h (k+1)=if zT5 n w h k=true then zQc n w h k++[((h:Int),(k:Int))] else zQc n w h k:=by
 unfold zQc;rw [List.range_succ,List.filter_append,List.map_append]
 by_cases hn:zT5 n w h k=true
 ·rw [if_pos hn];simp [hn]
 ·rw [if_neg hn];simp [hn]
theorem zMO {n:Nw} {w:List Int} {h:Nat}:zUl n w (h+1)=zUl n w h++zQc n w h n.n.length:=by
 unfold zUl;rw [List.range_succ,List.flatMap_append];simp
theorem zOw {n:Nw} {w:List Int} {h k:Nat}:(zQc n w h k).length≤k:=by
 unfold zQc;rw [List.length_map];exact Nat.le_trans (List.length_filter_le _ _) (by simp)
theorem zLx {n:Nw} {w:List Int}:∀ h,(zUl n w h).length≤h*n.n.length
 | 0=>by simp [zUl]
 | h+1=>by
  have h1:=zLx (n:=n) (w:=w) h
  have h2:=zOw (n:=n) (w:=w) (h:=h) (k:=n.n.length)
  rw [zMO,List.length_append,Nat.succ_mul];omega
theorem zIS {n:Nw} {w:List Int} (ho:NwOk n):(zB2 n w).length≤80:=by
 have h1:=zLx (n:=n) (w:=w) n.h.toNat
 have h2:=ho.h
 have h3:=ho.nl
 have h4:n.h.toNat*n.n.length≤10*8:=Nat.mul_le_mul (by omega) (by omega)
 unfold zB2;omega
theorem f92 (n:Nw) (cs:List (Int×Int)) (e:Int) (ho:CrW n cs) (he:0≤e∧e≤1000):FG 92 [zDT n cs,I e] (hdV (zBc n cs e.toNat)):=by
 have hn:=ho.nw
 refine zAe Tryz.f92 ?_
 refine zAd 1<|zAa<|zAd 1<|S_a [(5,.ret (hdV (zLN n cs)) [])] (ap (f100 n cs (by omega)) an)<|zAc 2<|zAa<|zAh<|zAd 2<|zAa<|zAk 0 ?_
 refine zAy (fun (k,w)=>k≤e.toNat∧w=zBc n cs k) (fun (k,w)=>[(5,.box (hdV w)),(9,I (k:Nat))]) (fun (k,_)=>e.toNat-k) ((0:Nat),zLN n cs) ⟨by omega,rfl⟩ fun (k,w) ⟨hk,hw⟩=>?_
 have hwl:w.length=80:=by rw [hw];exact zBH k
 by_cases wD:(k:Int)<e
 ·refine zAd 1<|zAa<|zAh<|zA3 ((↑k:Int)<e) (by omega)<|zAm<|zAh<|zAk 1<|zAg<|zAc 2<|S_a [(7,.ret (hdV (zCs n w)) [])] (ap (f101 n cs w (by omega) (by omega)) an)<|zAc 1<|zAa<|zAg<|S_a [(1,.v (I (↑(k+1):Int)))] (ap (wrN k) an)<|zAc 1<|zAa ?_
  exact ⟨(k+1,zCs n w),⟨by omega,by rw [hw];rfl⟩,by simp only;omega,by kernel_rfl,by kernel_rfl⟩
 ·refine zAd 1<|zAa<|zAh<|zBd ((↑k:Int)<e) (by omega)<|zAM 0<|zAd 2<|zAa<|zAn<|E_a [] an (PV.agg (zAX w 80)) [] ?_ rfl
  rw [hw,show k=e.toNat by omega]
theorem f91 (n:Nw) (cs:List (Int×Int)) (w:List Int) (ho:NwOk n) (hw:w.length=80):FG 91 [zDT n cs,hdV w] (.own 2 ((zB2 n w).map prV)):=by
 have hb:=ho.h
 have vD:=ho.nl
 refine zAe Tryz.f91 ?_
 refine zAd 2<|zAa<|zAd 1<|zAa<|zAh<|zAd 6<|zAa<|zAk 0 ?_
 refine zAy (fun (h,l)=>h≤n.h.toNat∧l=zUl n w h) (fun (h,l)=>[(5,.own 2 (l.map prV)),(13,I (h:Nat))]) (fun (h,_)=>n.h.toNat-h) ((0:Nat),([]:List (Int×Int))) ⟨by omega,rfl⟩ fun (h,l) ⟨hh,hl⟩=>?_
 have qT:l.length≤h*8:=by
  have h1:=zLx (n:=n) (w:=w) h
  rw [← hl] at h1
  exact Nat.le_trans h1 (Nat.mul_le_mul (Nat.le_refl _) (by omega))
 by_cases vU:(h:Int)<n.h
 ·have yJ:=zMO (n:=n) (w:=w) (h:=h)
  rw [← hl] at yJ
  refine zAd 1<|zAa<|zAh<|zA3 ((↑h:Int)<n.h) (by omega)<|zAm<|zAh<|zAk 1<|zAd 2<|zAa<|zAd 5<|S_a [(0,.n n.n.length)] (ap (lnS ntV n.n) an)<|zAc 1<|zAa<|zAk 2 ?_
  refine zAy (fun (i,m)=>i≤n.n.length∧m=l++zQc n w h i) (fun (i,m)=>[(5,.own 2 (m.map prV)),(22,I (i:Nat))]) (fun (i,_)=>n.n.length-i) ((0:Nat),l) ⟨by omega,by simp [zQc]⟩ fun (i,m) ⟨hi,hm⟩=>?_
  have hml:m.length≤88:=by
   have:=zOw (n:=n) (w:=w) (h:=h) (k:=i)
   rw [hm,List.length_append];omega
  by_cases yP:i<n.n.length
  ·have uO:=zR5 (n:=n) (w:=w) (h:=h) (k:=i)
   have hfb:=zBM ho i yP
   have hfi:0≤(zAi n).getD i 0∧(zAi n).getD i 0<8:=by omega
   clear yJ
   have kZ:zT5 n w h i=false→m=l++zQc n w h (i+1):=fun hg=>by rw [uO,if_neg (by rw [hg];simp)];exact hm
   refine zAd 1<|zAa<|zAh<|zA3 ((↑i:Int)<(↑n.n.length:Int)) (by omega)<|zAm<|zAh<|zAk 3<|zAd 2<|zAa<|zAd 5<|S_a [(2,.ob),(0,.v ((I ((zAi n).getD i 0)).ref))] (ap ((by exact zAq (by omega)):decide (i<8)=true)<|ap (zGq (F:=zAi n) (m:=8) (j:=i) (by omega):zCo (PV.agg (zAX (zAi n) 8)).ref (i*(fun x=>x.size) Tryz.prog.types[3]) none=some (I ((zAi n).getD i 0)).ref) an)<|zAc 1<|S_a [(2,.ob)] (ap ((by exact zAq (by omega)):decide (h<10)=true) an)<|S_a [(0,.ob),(1,.ob)] (ap ((by exact zAq (by omega)):decide (0≤(zAi n).getD i 0)=true)<|ap ((by exact zAq (by omega)):decide (((zAi n).getD i 0).toNat<8)=true) an)<|S_a [(0,.cs true ([I (w.getD (h*8+((zAi n).getD i 0).toNat) 0)]))] (ap (zCu (q:=(PV.agg (zAX w 80)).box) (xs:=[PV.agg (zAX w 80)]) (x:=PV.agg (zAX w 80)) rfl rfl (zFg (F:=w) (m:=80) (j:=h*8+((zAi n).getD i 0).toNat) (by first | rfl | exact zB9 (by kernel_rfl) | exact zB6 (by kernel_rfl) | exact zDN (by kernel_rfl) (by kernel_rfl) | exact zDE (by kernel_rfl) | exact zDU (by kernel_rfl) (by kernel_rfl) | exact zDG (by kernel_rfl) | (simp;done)) (by omega)):zAr 3 (PV.agg (zAX w 80)).box [] 0 (0+(↑h:Int).toNat*(fun x=>x.size) Tryz.prog.types[128]+((zAi n).getD i 0).toNat*(fun x=>x.size) Tryz.prog.types[3]) 1=some (true,[I (w.getD (h*8+((zAi n).getD i 0).toNat) 0)])) an)<|zAc 3<|zLQ 37 (w.getD (h*8+((zAi n).getD i 0).toNat) 0=(↑i:Int)) (fun k0=>(zAc 4<|S_a [(2,.ob),(0,.v ((I ((zBo n).getD i 0)).ref))] (ap ((by exact zAq (by omega)):decide (i<8)=true)<|ap (zGq (F:=zBo n) (m:=8) (j:=i) (by omega):zCo (PV.agg (zAX (zBo n) 8)).ref (i*(fun x=>x.size) Tryz.prog.types[3]) none=some (I ((zBo n).getD i 0)).ref) an)<|zAc 4<|zAa<|zDQ ((zBo n).getD i 0=(↑i:Int)) (fun k1=>(zAg<|zAc 5<|S_a [(4,.ob),(0,.ob),(0,.yes),(2,.v (PV.own 2 (List.map prV (m++[((↑h:Int),(↑i:Int))]))))] (ap (blz (List.map prV m))<|ap ((by exact zA4 (by simp only [List.length_map,zzLn,zAS]<;>omega)):((List.map prV m).length + [PV.agg [I (↑h:Int),I (↑i:Int)]].length).ble zAS=true)<|ap ((by exact zBB (by simp<;>omega)):(0+(List.map prV m).length).beq (List.map prV m).length=true)<|ap ((zAZ (zBI (by kernel_rfl))):PV.own 2 (List.map prV m++[PV.agg [I (↑h:Int),I (↑i:Int)]])=PV.own 2 (List.map prV (m++[((↑h:Int),(↑i:Int))]))) an)<|zAc 1<|zAa<|zAg<|S_a [(1,.v (I (↑(i+1):Int)))] (ap (wrN i) an)<|zAc 1<|zAa ?_)) (fun k1=>(zAm<|zAg<|S_a [(1,.v (I (↑(i+1):Int)))] (ap (wrN i) an)<|zAc 1<|zAa ?_)))) (fun k0=>(zAc 9<|zAa<|zAH<|zAm<|zAg<|S_a [(1,.v (I (↑(i+1):Int)))] (ap (wrN i) an)<|zAc 1<|zAa ?_))
   ·have hg:zT5 n w h i=true:=by simp only [zT5,decide_eq_true k0,Bool.true_and,decide_eq_true_eq];exact k1
    exact ⟨(i+1,m++[((h:Int),(i:Int))]),⟨by omega,by rw [uO,if_pos hg,hm,List.append_assoc]⟩,by simp only;omega,by kernel_rfl,by kernel_rfl⟩
   ·exact ⟨(i+1,m),⟨by omega,kZ (by simp only [zT5,decide_eq_true k0,Bool.true_and,decide_eq_false_iff_not];exact fun h=>h k1)⟩,by simp only;omega,by kernel_rfl,by kernel_rfl⟩
   ·exact ⟨(i+1,m),⟨by omega,kZ (by simp only [zT5,decide_eq_false k0,Bool.false_and])⟩,by simp only;omega,by kernel_rfl,by kernel_rfl⟩
  ·refine zAd 1<|zAa<|zAh<|zBd ((↑i:Int)<(↑n.n.length:Int)) (by omega)<|zAM 2<|zAg<|S_a [(1,.v (I (↑(h+1):Int)))] (ap (wrN h) an)<|zAc 1<|zAa ?_
   exact ⟨(h+1,m),⟨by omega,by rw [yJ,hm,show i=n.n.length by omega]⟩,by simp only;omega,by kernel_rfl,by kernel_rfl⟩
 ·have e:h=n.h.toNat:=by omega
  subst e
  refine zAd 1<|zAa<|zAh<|zBd ((↑n.h.toNat:Int)<n.h) (by omega)<|zAM 0<|zAd 1<|S_a [(2,.yes)] (ap ((by exact zBB (by simp<;>omega)):(Nat.beq 0 0&&(List.map prV l).length.beq (List.map prV l).length)=true) an)<|zAa<|zAn<|E_a [(1,.yes),(1,.v (PV.own 2 (List.map prV l)))] (ap (blz (List.map prV l))<|ap ((zAZ zBe):PV.own 2 (List.take (List.map prV l).length (List.drop 0 (List.map prV l)))=PV.own 2 (List.map prV l)) an) (PV.own 2 (List.map prV l)) [] ?_ rfl
  rw [hl];rfl
theorem f22_1 (n:Nw) (cs:List (Int×Int)) (e:Int) (ho:EvOk n cs e):FG 22 [nwV n,prs cs,I e] (.tup [.own 2 ((zB2 n (zBc n cs e.toNat)).map prV),I 0]):=by
 have hc:=ho.cr
 have uj:=hc.w
 have hn:=hc.nw
 have he:=ho.ev
 have hw:=zBH (n:=n) (cs:=cs) e.toNat
 refine zAe Tryz.f22 ?_
 refine zAd 3<|zAa<|zAd 3<|S_a [(10,.ret (PV.tup [zDT n cs,I 0]) [])] (ap (f90_1 n cs e (by omega)) an)<|zAc 5<|zAa<|zAh<|zAd 2<|zAa<|zAH<|zAm<|zAd 3<|S_a [(7,.ret (hdV (zBc n cs e.toNat)) [])] (ap (f92 n cs e (by omega) (by omega)) an)<|S_a [(7,.ret (PV.own 2 (List.map prV (zB2 n (zBc n cs e.toNat)))) [])] (ap (f91 n cs (zBc n cs e.toNat) (by omega) (by omega)) an)<|zAc 2<|zAa<|zAn<|E_a [(1,.yes),(1,.v (PV.own 2 (List.map prV (zB2 n (zBc n cs e.toNat)))))] (ap (blz (List.map prV (zB2 n (zBc n cs e.toNat))))<|ap ((zAZ zBe):PV.own 2 (List.take (List.map prV (zB2 n (zBc n cs e.toNat))).length (List.drop 0 (List.map prV (zB2 n (zBc n cs e.toNat)))))=PV.own 2 (List.map prV (zB2 n (zBc n cs e.toNat)))) an) (PV.tup [PV.own 2 (List.map prV (zB2 n (zBc n cs e.toNat))),I 0]) [] rfl rfl
def msl (n:Nw) (l:List (Int×Int)):List Int:=(l.filter fun g => !(n.n.getD g.2.toNat default).2).map Prod.fst
theorem zS7 {n:Nw} {l:List (Int×Int)} {i:Nat} (hi:i<l.length):msl n (l.take (i+1))=if (n.n.getD (l.getD i default).2.toNat default).2=true then msl n (l.take i) else msl n (l.take i)++[(l.getD i default).1]:=by
 unfold msl;rw [zBX (d:=default) hi,List.filter_append,List.map_append]
 generalize l.getD i default=g
 cases hb:(n.n.getD g.2.toNat default).2
 ·rw [List.filter_cons_of_pos (by rw [hb];rfl)];rfl
 ·rw [List.filter_cons_of_neg (by rw [hb];simp)];simp
theorem zUT {n:Nw} {w:List Int} {g:Int×Int} (hg:g∈zB2 n w):∃ h i:Nat,h<n.h.toNat∧i<n.n.length∧g=((h:Int),(i:Int))∧zT5 n w h i=true:=by
 simp only [zB2,zUl,List.mem_flatMap,List.mem_range,zQc,List.mem_map,List.mem_filter] at hg
 obtain ⟨h,hh,i,⟨hi,hb⟩,rfl⟩:=hg
 exact ⟨h,i,hh,hi,rfl,hb⟩
theorem f26_1 (n:Nw) (cs:List (Int×Int)) (e:Int) (ho:EvOk n cs e):FG 26 [nwV n,prs cs,I e] (.tup [.own 1 ((zGM (msl n (zB2 n (zBc n cs e.toNat)))).map I),I 0]):=by
 have hn:=ho.cr.nw
 have hZ:=zIS (w:=zBc n cs e.toNat) hn
 have yy:∀ g∈zB2 n (zBc n cs e.toNat),0≤g.2∧g.2<n.n.length:=fun g hg=>by
  obtain ⟨h,i,h1,h2,rfl,_⟩:=zUT hg
  simp only;omega
 have h1:=f22_1 n cs e ho
 generalize zB2 n (zBc n cs e.toNat)=G at *
 refine zAe Tryz.f26 ?_
 refine zAd 3<|zAa<|zAd 3<|S_a [(10,.ret (PV.tup [PV.own 2 (List.map prV G),I 0]) [])] (ap h1 an)<|zAc 5<|zAa<|zAh<|zAd 2<|zAa<|zAH<|zAm<|zAd 1<|zAa<|zAh<|zAd 1<|S_a [(0,.n G.length)] (ap (lnS prV G) an)<|zAc 1<|zAa<|zAk 0 ?_
 refine zAy (fun (i,l)=>i≤G.length∧l=msl n (G.take i)) (fun (i,l)=>[(10,.own 1 (l.map I)),(25,I (i:Nat))]) (fun (i,_)=>G.length-i) ((0:Nat),([]:List Int)) ⟨by omega,by simp [msl]⟩ fun (i,l) ⟨hi,hl⟩=>?_
 have qT:l.length≤i:=by
  rw [hl,msl,List.length_map]
  exact Nat.le_trans (List.length_filter_le _ _) (by rw [List.length_take];omega)
 by_cases yP:i<G.length
 ·have yU:=zS7 (n:=n) yP
  rw [← hl] at yU
  have hgi:=zBU (d:=default) yy i yP
  clear h1 yy
  refine zAd 1<|zAa<|zAh<|zA3 ((↑i:Int)<(↑G.length:Int)) (by omega)<|zAm<|zAh<|zAk 1<|zAh<|zAg<|S_a [(2,.ob),(1,.n i)] (ap ((by exact zAq (by simp only [List.length_map,zzLn]<;>omega)):decide (i<(List.map prV G).length)=true)<|ap ((by simp):some (0+i)=some i) an)<|S_a [(0,.cs true ([I (G.getD i default).fst,I (G.getD i default).snd]))] (ap (zCu (q:=PV.own 2 (List.map prV G)) (xs:=List.map prV G) (x:=PV.agg [I (G.getD i default).fst,I (G.getD i default).snd]) rfl (zCh default (by omega)):zAr 8 (PV.own 2 (List.map prV G)) [] i 0 Tryz.prog.types[108].size=some (true,[I (G.getD i default).fst,I (G.getD i default).snd])) an)<|zAc 2<|zAa<|zAd 4<|S_a [(0,.ob),(1,.v (PV.agg [I (n.n.getD (G.getD i default).snd.toNat default).fst,PV.bool (n.n.getD (G.getD i default).snd.toNat default).snd]))] (ap ((by exact zAq (by omega)):decide (0≤(G.getD i default).snd)=true)<|ap (zCh default (by omega):(List.map ntV n.n)[(G.getD i default).snd.toNat]? = some (PV.agg [I (n.n.getD (G.getD i default).snd.toNat default).fst,PV.bool (n.n.getD (G.getD i default).snd.toNat default).snd])) an)<|zAc 3<|zAa<|zGb (!(n.n.getD (G.getD i default).snd.toNat default).snd) (fun k0=>(zAg<|zAc 4<|S_a [(4,.ob),(0,.ob),(0,.yes),(2,.v (PV.own 1 (List.map I (l++[(G.getD i default).fst]))))] (ap (blz (List.map I l))<|ap ((by exact zA4 (by simp only [List.length_map,zzLn,zAS]<;>omega)):((List.map I l).length + [I (G.getD i default).fst].length).ble zAS=true)<|ap ((by exact zBB (by simp<;>omega)):(0+(List.map I l).length).beq (List.map I l).length=true)<|ap ((zAZ (zBI (by kernel_rfl))):PV.own 1 (List.map I l++[I (G.getD i default).fst])=PV.own 1 (List.map I (l++[(G.getD i default).fst]))) an)<|zAc 1<|zAa<|zAg<|S_a [(1,.v (I (↑(i+1):Int)))] (ap (wrN i) an)<|zAc 1<|zAa ?_)) (fun k0=>(zAm<|zAg<|S_a [(1,.v (I (↑(i+1):Int)))] (ap (wrN i) an)<|zAc 1<|zAa ?_))
  ·rw [Bool.not_eq_true'] at k0
   rw [if_neg (by rw [k0];simp)] at yU
   exact ⟨(i+1,l++[(G.getD i default).1]),⟨by omega,yU.symm⟩,by simp only;omega,by kernel_rfl,by kernel_rfl⟩
  ·rw [Bool.not_eq_false'] at k0
   rw [if_pos k0] at yU
   exact ⟨(i+1,l),⟨by omega,yU.symm⟩,by simp only;omega,by kernel_rfl,by kernel_rfl⟩
 ·rw [List.take_of_length_le (by omega)] at hl
  rw [← hl]
  clear h1 yy
  refine zAd 1<|zAa<|zAh<|zBd ((↑i:Int)<(↑G.length:Int)) (by omega)<|zAM 0<|zAd 1<|S_a [(3,.ob),(1,.v (PV.own 1 (List.map I l))),(2,.ret (PV.own 1 (List.map I (zGM l))) [])] (ap ((by exact zA4 (by simp only [List.length_map,zzLn,zAS]<;>omega)):(List.map I l).length.ble (List.map I l).length=true)<|ap ((zAZ zBe):PV.own 1 (List.take (List.map I l).length (List.drop 0 (List.map I l)))=PV.own 1 (List.map I l))<|ap (f97 l (by omega)) an)<|zAc 2<|zAa<|zAn<|E_a [(1,.yes),(1,.v (PV.own 1 (List.map I (zGM l))))] (ap (blz (List.map I (zGM l)))<|ap ((zAZ zBe):PV.own 1 (List.take (List.map I (zGM l)).length (List.drop 0 (List.map I (zGM l))))=PV.own 1 (List.map I (zGM l))) an) (PV.tup [PV.own 1 (List.map I (zGM l)),I 0]) [] rfl rfl
theorem f29_1 (n:Nw) (cs:List (Int×Int)) (k:Nat) (ho:CrOk n cs) (hk:k≤1000) (he:zBc n cs (k+1)=zBc n cs k) (hm:∀ j,j<k→zBc n cs (j+1)≠zBc n cs j):FG 29 [nwV n,prs cs] (.tup [I k,I 0]):=by
 have hn:=ho.nw
 have uj:=ho.w
 have y7:=zOD (n:=n) (cs:=cs)
 refine zAe Tryz.f29 ?_
 refine zAd 3<|zAa<|zAd 2<|S_a [(8,.ret (PV.tup [zDT n cs,I 0]) [])] (ap (f99_1 n cs (by omega)) an)<|zAc 5<|zAa<|zAh<|zAd 2<|zAa<|zAH<|zAm<|zAd 1<|S_a [(5,.ret (hdV (zLN n cs)) [])] (ap (f100 n cs (by omega)) an)<|zAc 3<|zAa<|zAh<|zAd 2<|S_a [(7,.ret (hdV (zCs n (zLN n cs))) [])] (ap (f101 n cs (zLN n cs) (by omega) (by omega)) an)<|zAc 2<|zAa<|zAk 0 ?_
 refine zAy (fun j=>j≤k) (fun (j:Nat)=>[(8,I (j:Nat)),(9,.box (hdV (zBc n cs j))),(10,.box (hdV (zBc n cs (j+1))))]) (fun j=>k-j) (0:Nat) (by omega) fun j hj=>?_
 have vo:=zBH (n:=n) (cs:=cs) j
 have qM:=zBH (n:=n) (cs:=cs) (j+1)
 by_cases hjk:j<k
 ·have hI:=hm j hjk
  refine zAh<|zAd 2<|S_a [(0,.v (PV.bool !decide (zBc n cs (j+1)=zBc n cs j)))] (ap (zSc 80 (by omega) (by omega):zHt Tryz.prog BinOp.neq 130 (PV.agg (zAX (zBc n cs (j+1)) 80)) (PV.agg (zAX (zBc n cs j) 80))=some (PV.bool !decide (zBc n cs (j+1)=zBc n cs j))) an)<|zAa<|zJT (zBc n cs (j+1)=zBc n cs j) (by omega)<|zAm<|zAh<|zAk 1<|zAd 2<|zAa<|zAg<|zAc 1<|S_a [(1,.v (I (↑(j+1):Int)))] (ap (wrN j) an)<|zAc 1<|zAa<|zAh<|zAd 1<|zAa<|zAg<|zAc 2<|zAa<|zAg<|zAc 2<|S_a [(7,.ret (hdV (zCs n (zBc n cs (j+1)))) [])] (ap (f101 n cs (zBc n cs (j+1)) (by omega) (by omega)) an)<|zAc 1<|zAa ?_
  exact ⟨j+1,by omega,by omega,by kernel_rfl,by kernel_rfl⟩
 ·have e:j=k:=by omega
  subst e
  refine zAh<|zAd 2<|S_a [(0,.v (PV.bool !decide (zBc n cs (j+1)=zBc n cs j)))] (ap (zSc 80 (by omega) (by omega):zHt Tryz.prog BinOp.neq 130 (PV.agg (zAX (zBc n cs (j+1)) 80)) (PV.agg (zAX (zBc n cs j) 80))=some (PV.bool !decide (zBc n cs (j+1)=zBc n cs j))) an)<|zAa<|zLt (zBc n cs (j+1)=zBc n cs j) (by omega)<|zAM 0<|zAd 3<|zAa<|zAn<|E_a [] an (PV.tup [I (↑j:Int),I 0]) [] rfl rfl
def zVp (n:Nw) (cs:List (Int×Int)) (k:Nat):Int:=(List.range k).foldl (fun a k=>if zB2 n (zBc n cs k)=[] then a else (k:Int)+1) 0
theorem zSz {n:Nw} {cs:List (Int×Int)} {k:Nat}:zVp n cs (k+1)=if zB2 n (zBc n cs k)=[] then zVp n cs k else (k:Int)+1:=by
 simp only [zVp,List.range_succ,List.foldl_append,List.foldl_cons,List.foldl_nil]
theorem f31_1 (n:Nw) (cs:List (Int×Int)) (ho:CrOk n cs):FG 31 [nwV n,prs cs] (.tup [if zB2 n (zBc n cs 12)=[] then I (zVp n cs 12) else I 0,if zB2 n (zBc n cs 12)=[] then I 0 else I 6]):=by
 have hn:=ho.nw
 have uj:=ho.w
 refine zAe Tryz.f31 ?_
 refine zAd 3<|zAa<|zAd 2<|S_a [(8,.ret (PV.tup [zDT n cs,I 0]) [])] (ap (f99_1 n cs (by omega)) an)<|zAc 5<|zAa<|zAh<|zAd 2<|zAa<|zAH<|zAm<|zAd 1<|S_a [(5,.ret (hdV (zLN n cs)) [])] (ap (f100 n cs (by omega)) an)<|zAc 3<|zAa<|zAh<|zAd 1<|zAa<|zAk 0 ?_
 refine zAy (fun k=>k≤12) (fun (k:Nat)=>[(8,I (zVp n cs k)),(9,.box (hdV (zBc n cs k))),(22,I (k:Nat))]) (fun k=>12-k) (0:Nat) (by omega) fun k hk=>?_
 have vo:=zBH (n:=n) (cs:=cs) k
 have hgl:=zIS (w:=zBc n cs k) hn
 by_cases wD:k<12
 ·have uO:=zSz (n:=n) (cs:=cs) (k:=k)
  refine zAd 1<|zAa<|zAh<|zA3 ((↑k:Int)<12) (by omega)<|zAm<|zAh<|zAk 1<|zAd 2<|zAa<|zAh<|zAd 2<|S_a [(7,.ret (PV.own 2 (List.map prV (zB2 n (zBc n cs k)))) [])] (ap (f91 n cs (zBc n cs k) (by omega) (by omega)) an)<|S_a [(0,.n ((zB2 n (zBc n cs k)).length))] (ap (lnS prV (zB2 n (zBc n cs k))) an)<|zAc 1<|zAa<|zDn ((↑(zB2 n (zBc n cs k)).length:Int)>0) (fun k1=>(zAg<|zAc 1<|S_a [(1,.v (I (↑(k+1):Int)))] (ap (wrN k) an)<|zAc 1<|zAa<|zAg<|zAc 2<|S_a [(7,.ret (hdV (zCs n (zBc n cs k))) [])] (ap (f101 n cs (zBc n cs k) (by omega) (by omega)) an)<|zAc 1<|zAa<|zAg<|S_a [(1,.v (I (↑(k+1):Int)))] (ap (wrN k) an)<|zAc 1<|zAa ?_)) (fun k1=>(zAm<|zAg<|zAc 2<|S_a [(7,.ret (hdV (zCs n (zBc n cs k))) [])] (ap (f101 n cs (zBc n cs k) (by omega) (by omega)) an)<|zAc 1<|zAa<|zAg<|S_a [(1,.v (I (↑(k+1):Int)))] (ap (wrN k) an)<|zAc 1<|zAa ?_))
  ·rw [if_neg (by intro h;rw [h] at k1;simp at k1)] at uO
   exact ⟨k+1,by omega,by omega,by rw [uO];kernel_rfl,by kernel_rfl⟩
  ·rw [if_pos (List.eq_nil_of_length_eq_zero (by omega))] at uO
   exact ⟨k+1,by omega,by omega,by rw [uO];kernel_rfl,by kernel_rfl⟩
 ·have e:k=12:=by omega
  subst e
  refine zAd 1<|zAa<|zAh<|zAH<|zAM 0<|zAh<|zAd 2<|S_a [(7,.ret (PV.own 2 (List.map prV (zB2 n (zBc n cs 12)))) [])] (ap (f91 n cs (zBc n cs 12) (by omega) (by omega)) an)<|S_a [(0,.n ((zB2 n (zBc n cs 12)).length))] (ap (lnS prV (zB2 n (zBc n cs 12))) an)<|zAc 1<|zAa<|zDn ((↑(zB2 n (zBc n cs 12)).length:Int)>0) (fun k0=>(zAd 2<|zAa<|zAn<|E_a [] an (PV.tup [I 0,I 6]) [] ?_ rfl)) (fun k0=>(zAm<|zAd 3<|zAa<|zAn<|E_a [] an (PV.tup [I (zVp n cs 12),I 0]) [] ?_ rfl))
  ·have h:¬ zB2 n (zBc n cs 12)=[]:=by intro h;rw [h] at k0;simp at k0
   rw [if_neg h,if_neg h]
  ·have h:zB2 n (zBc n cs 12)=[]:=List.eq_nil_of_length_eq_zero (by omega)
   rw [if_pos h,if_pos h]
end Go.Eng
namespace Go.Eng
open Go Go.Proofs
theorem zGT {n:Nw} (ho:NwOk n) (j:Nat):∀ i,j<i→i≤n.n.length→(zOR n.n i).getD j 0=(zOR n.n (j+1)).getD j 0
 | 0,h,_=>absurd h (Nat.not_lt_zero j)
 | i + 1,h,hi=>by
  have h8:=ho.nl.2
  by_cases hj:j=i
  ·subst hj;rfl
  ·rw [zOR,zJn (zHp i) (by omega) (ho.na i (by omega)),if_neg hj]
   exact zGT ho j i (by omega) (by omega)
theorem zQV {n:Nw} (ho:NwOk n) {i:Nat} (hi:i<n.n.length):(zAi n).getD i 0=if (n.n.getD i default).1 = -1 then (i:Int) else (zAi n).getD (n.n.getD i default).1.toNat 0:=by
 have h8:=ho.nl.2
 have ha:=ho.na i hi
 unfold zAi
 rw [zGT ho i n.n.length hi (Nat.le_refl _),zOR,zJn (zHp i) (by omega) ha,if_pos rfl]
 split
 ·rfl
 ·rename_i hI
  rw [zGT ho (n.n.getD i default).1.toNat i (by omega) (by omega),zGT ho (n.n.getD i default).1.toNat n.n.length (by omega) (Nat.le_refl _)]
def chn (n:Nw) (i j:Nat):Prop:=(zAi n).getD i 0=(zAi n).getD j 0
end Go.Eng
set_option maxRecDepth 10000
set_option maxHeartbeats 4000000
namespace Go.Eng
open Go Go.Proofs
def zNw (a b:Int) (x:Int×Int):Bool:=decide (x.1=a∧x.2=b∨x.1=b∧x.2=a)
def zW3 (n:Nw) (a b:Int):Bool:=n.l.any (zNw a b)
theorem zUD {a b:Int} {x:Int×Int}:pr2 x=pr2 (a,b)↔x.1=a∧x.2=b∨x.1=b∧x.2=a:=by
 obtain ⟨c,d⟩:=x
 simp only [pr2,Prod.mk.injEq]
 constructor
 ·rintro ⟨h1,h2⟩
  repeat' split at h1
  all_goals (repeat' split at h2)
  all_goals omega
 ·intro h
  constructor
  ·repeat' split
   all_goals omega
  ·repeat' split
   all_goals omega
theorem zVq {n:Nw} {a b:Int}:zW3 n a b=zEw n a b:=by
 rw [Bool.eq_iff_iff]
 simp only [zW3,zEw,List.any_eq_true,zNw,decide_eq_true_eq,List.mem_map]
 constructor
 ·rintro ⟨x,hx,h⟩;exact ⟨x,hx,zUD.2 h⟩
 ·rintro ⟨x,hx,h⟩;exact ⟨x,hx,zUD.1 h⟩
end Go.Eng
set_option maxRecDepth 10000
set_option maxHeartbeats 4000000
namespace Go.Eng
open Go Go.Proofs
abbrev bls (l:List Bool):PV := .sl (l.map PV.bool)
def kn (K:List (List Bool)) (h i:Nat):Bool:=(K.getD h []).getD i false
structure RelK (n:Nw) (K:List (List Bool)) (w:List Int):Prop where
 len:K.length=n.h.toNat
 row:∀ r∈K,r.length=n.n.length
 wl:w.length=80
 top:∀ h i,h<n.h.toNat→i<n.n.length→kn K h i=true→(i:Int)≤w.getD (h*8+((zAi n).getD i 0).toNat) 0
 at_:∀ h c,h<n.h.toNat→c<8→w.getD (h*8+c) 0 = -1∨∃ i,i<n.n.length∧(zAi n).getD i 0=c∧w.getD (h*8+c) 0=i∧kn K h i=true
def hld (n:Nw) (w:List Int) (h i:Nat):Bool:=decide (w.getD (h*8+((zAi n).getD i 0).toNat) 0=i)
theorem zYN {n:Nw} {K:List (List Bool)} {w:List Int} {h i:Nat} (ho:NwOk n) (hr:RelK n K w) (hh:h<n.h.toNat) (hi:i<n.n.length) (h1:kn K h i=true) (h2:∀ k,k<n.n.length→chn n k i→i<k→kn K h k=false):hld n w h i=true:=by
 have hfb:=zBM ho i hi
 have vD:=ho.nl.2
 have ht:=hr.top h i hh hi h1
 rcases hr.at_ h ((zAi n).getD i 0).toNat hh (by omega) with h3 | ⟨j,g1,g2,g3,g4⟩
 ·omega
 ·by_cases hj:j=i
  ·subst hj;simpa only [hld,decide_eq_true_eq] using g3
  ·have:=h2 j g1 (by unfold chn;omega) (by omega)
   rw [this] at g4;cases g4
theorem zXa {n:Nw} {K:List (List Bool)} {w:List Int} {h i:Nat} (ho:NwOk n) (hr:RelK n K w) (hh:h<n.h.toNat) (hi:i<n.n.length) (h1:kn K h i=false∨∃ k,k<n.n.length∧chn n k i∧i<k∧kn K h k=true):hld n w h i=false:=by
 have hfb:=zBM ho i hi
 have vD:=ho.nl.2
 simp only [hld,decide_eq_false_iff_not]
 intro he
 rcases h1 with h1 | ⟨k,g1,g2,g3,g4⟩
 ·rcases hr.at_ h ((zAi n).getD i 0).toNat hh (by omega) with h3 | ⟨j,g1,g2,g3,g4⟩
  ·omega
  ·have:j=i:=by omega
   subst this;rw [h1] at g4;cases g4
 ·have:=hr.top h k hh g1 g4
  unfold chn at g2
  rw [g2] at this;omega
end Go.Eng
set_option maxRecDepth 10000
set_option maxHeartbeats 4000000
namespace Go.Eng
open Go Go.Proofs
def hrB (n:Nw) (h i:Int) (c:Int×Int):Bool:=decide (c.1=i)&&has (n.s.getD c.2.toNat []) h
def zJ8 (n:Nw) (cs:List (Int×Int)) (h i:Int):Bool:=cs.any (hrB n h i)
end Go.Eng
set_option maxRecDepth 10000
set_option maxHeartbeats 4000000
namespace Go.Eng
open Go Go.Proofs
abbrev lsB (l:List Bool):PV := .own 1 (l.map PV.bool)
instance:FrzOf lsB bls:=⟨fun x=>by simp only [zAV,zFd]⟩
def zXQ (n:Nw) (cs:List (Int×Int)) (h k:Nat):List Bool:=(List.range k).map fun (i:Nat)=>zJ8 n cs h i
def zWx (n:Nw) (cs:List (Int×Int)) (k:Nat):List (List Bool):=(List.range k).map fun h=>zXQ n cs h n.n.length
end Go.Eng
namespace Go.Eng
open Go Go.Proofs
structure Tr (n:Nw) (w:List Int) (S:Nat→Nat→Prop):Prop where
 wl:w.length=80
 at_:∀ h c,h<n.h.toNat→c<8→w.getD (h*8+c) 0 = -1∨∃ i,i<n.n.length∧(zAi n).getD i 0=(c:Int)∧w.getD (h*8+c) 0=i∧S h i
 top:∀ h i,h<n.h.toNat→i<n.n.length→S h i→(i:Int)≤w.getD (h*8+((zAi n).getD i 0).toNat) 0
theorem zIk {w:List Int} {i j:Nat} {x:Int} (hi:i<w.length):(zPr w i x).getD j 0=if i=j then max (w.getD j 0) x else w.getD j 0:=by
 unfold zPr
 rw [zDe]
 by_cases h:i=j
 ·subst h;rw [if_pos ⟨rfl,hi⟩,if_pos rfl]
 ·rw [if_neg (fun h2=>h h2.1),if_neg h]
theorem Tr.upd {n:Nw} {w:List Int} {S:Nat→Nat→Prop} (ho:NwOk n) (ht:Tr n w S) {h0 i0:Nat} (hh:h0<n.h.toNat) (hi:i0<n.n.length):Tr n (zPr w (h0*8+((zAi n).getD i0 0).toNat) i0) (fun h i=>S h i∨h=h0∧i=i0):=by
 have vD:=ho.nl.2
 have hH:=ho.h.2
 have hf0:=zBM ho i0 hi
 have yK:h0*8+((zAi n).getD i0 0).toNat<w.length:=by rw [ht.wl];omega
 refine ⟨by rw [zIr];exact ht.wl,fun h c gJ hc=>?_,fun h i gJ hi1 hS=>?_⟩
 ·rw [zIk yK]
  split
  ·rename_i he
   have e1:h=h0:=by omega
   have e2:((zAi n).getD i0 0).toNat=c:=by omega
   have e3:(zAi n).getD i0 0=(c:Int):=by omega
   subst e1
   have hw:=ht.at_ h c gJ hc
   by_cases hm:w.getD (h*8+c) 0≤(i0:Int)
   ·right
    exact ⟨i0,hi,e3,by rw [Int.max_eq_right hm],.inr ⟨rfl,rfl⟩⟩
   ·rcases hw with hw | ⟨i,g1,g2,g3,g4⟩
    ·omega
    ·right;exact ⟨i,g1,g2,by rw [Int.max_eq_left (by omega)];exact g3,.inl g4⟩
  ·rcases ht.at_ h c gJ hc with hw | ⟨i,g1,g2,g3,g4⟩
   ·exact .inl hw
   ·exact .inr ⟨i,g1,g2,g3,.inl g4⟩
 ·rw [zIk yK]
  have hfi:=zBM ho i hi1
  rcases hS with hS | ⟨rfl,rfl⟩
  ·have:=ht.top h i gJ hi1 hS
   split<;>omega
  ·rw [if_pos rfl];omega
theorem Tr.same {n:Nw} {w:List Int} {S S':Nat→Nat→Prop} (ht:Tr n w S) (h:∀ a i,a<n.h.toNat→i<n.n.length→(S a i↔S' a i)):Tr n w S' :=
 ⟨ht.wl,fun a c ha hc=>by
  rcases ht.at_ a c ha hc with h1 | ⟨i,g1,g2,g3,g4⟩
  ·exact .inl h1
  ·exact .inr ⟨i,g1,g2,g3,(h a i ha g1).1 g4⟩,fun a i ha hi hs=>ht.top a i ha hi ((h a i ha hi).2 hs)⟩
theorem Tr.none (n:Nw) (ho:NwOk n):Tr n (List.replicate 80 (-1)) (fun _ _=>False):=by
 have hH:=ho.h.2
 refine ⟨by simp,fun h c hh hc => .inl ?_,fun _ _ _ _ h=>h.elim⟩
 rw [zAB (by rw [List.length_replicate];omega),List.getElem_replicate]
end Go.Eng
namespace Go.Eng
open Go Go.Proofs
theorem Tr.begC {n:Nw} {w:List Int} {S:Nat→Nat→Prop} (ho:NwOk n) (ht:Tr n w S) {h:Nat} (hh:h<n.h.toNat) {c:Int×Int} (hc:0≤c.1∧c.1<n.n.length):Tr n (begC n h w c) (fun a i=>S a i∨a=h∧hrB n h i c=true):=by
 unfold Go.Eng.begC
 split
 ·rename_i hs
  have:=ht.upd ho hh (i0:=c.1.toNat) (by omega)
  rw [Int.toNat_of_nonneg hc.1] at this
  refine this.same fun a i _ _=>?_
  simp only [hrB,hs,Bool.and_true,decide_eq_true_eq]
  refine or_congr Iff.rfl (and_congr Iff.rfl ⟨fun e=>by omega,fun e=>by omega⟩)
 ·rename_i hs
  refine ht.same fun a i _ _=>?_
  have h2:has (n.s.getD c.2.toNat []) h=false:=by
   cases hx:has (n.s.getD c.2.toNat []) h
   ·rfl
   ·exact absurd hx hs
  simp only [hrB,h2,Bool.and_false,Bool.false_eq_true,and_false,or_false]
theorem Tr.begH {n:Nw} (ho:NwOk n) {h:Nat} (hh:h<n.h.toNat):∀ (cs:List (Int×Int)) {w:List Int} {S:Nat→Nat→Prop},Tr n w S→(∀ c∈cs,0≤c.1∧c.1<n.n.length)→Tr n (begH n h w cs) (fun a i=>S a i∨a=h∧zJ8 n cs h i=true)
 | [],w,S,ht,_=>ht.same fun a i _ _=>by simp [zJ8]
 | c::cs,w,S,ht,hc=>by
  have h1:=Tr.begH ho hh cs (ht.begC ho hh (hc c List.mem_cons_self)) fun d hd=>hc d (List.mem_cons_of_mem _ hd)
  refine Tr.same (w:=Go.Eng.begH n h w (c::cs)) h1 fun a i _ _=>?_
  simp only [zJ8,List.any_cons,Bool.or_eq_true,or_assoc,and_or_left]
theorem Tr.begN {n:Nw} {cs:List (Int×Int)} (ho:CrW n cs):∀ k,k≤n.h.toNat→Tr n (begN n cs k) (fun a i=>a<k∧zJ8 n cs a i=true)
 | 0,_=>(Tr.none n ho.nw).same fun a i _ _=>by simp
 | k + 1,hk=>by
  rw [zG4]
  refine (Tr.begH ho.nw (by omega) cs (Tr.begN ho k (by omega)) fun c hc=>(ho.cs c hc).1).same fun a i _ _=>?_
  constructor
  ·rintro (⟨h1,h2⟩ | ⟨rfl,h2⟩)
   ·exact ⟨by omega,h2⟩
   ·exact ⟨by omega,h2⟩
  ·rintro ⟨h1,h2⟩
   by_cases e:a=k
   ·subst e;exact .inr ⟨rfl,h2⟩
   ·exact .inl ⟨by omega,h2⟩
theorem RelK.of_tr {n:Nw} {K:List (List Bool)} {w:List Int} (h1:K.length=n.h.toNat) (h2:∀ r∈K,r.length=n.n.length) (ht:Tr n w fun a i=>kn K a i=true):RelK n K w :=
 ⟨h1,h2,ht.wl,ht.top,ht.at_⟩
theorem RelK.tr {n:Nw} {K:List (List Bool)} {w:List Int} (h:RelK n K w):Tr n w fun a i=>kn K a i=true:=⟨h.wl,h.at_,h.top⟩
theorem zWz {n:Nw} {cs:List (Int×Int)} {a i:Nat} (ha:a<n.h.toNat) (hi:i<n.n.length):kn (zWx n cs n.h.toNat) a i=zJ8 n cs a i:=by
 unfold kn zWx
 rw [zAB (l:=(List.range n.h.toNat).map fun h=>zXQ n cs h n.n.length) (by rw [List.length_map,List.length_range];exact ha)]
 simp only [List.getElem_map,List.getElem_range]
 unfold zXQ
 rw [zAB (by rw [List.length_map,List.length_range];exact hi)]
 simp only [List.getElem_map,List.getElem_range]
theorem zVf {n:Nw} {cs:List (Int×Int)} (ho:CrW n cs):RelK n (zWx n cs n.h.toNat) (zLN n cs):=by
 refine RelK.of_tr (by simp [zWx]) (fun r hr=>?_) ?_
 ·obtain ⟨h,_,rfl⟩:=List.mem_map.1 hr
  simp [zXQ]
 ·refine (Tr.begN ho n.h.toNat (Nat.le_refl _)).same fun a i ha hi=>?_
  rw [zWz ha hi]
  exact ⟨fun h=>h.2,fun h=>⟨ha,h⟩⟩
end Go.Eng
namespace Go.Eng
open Go Go.Proofs
def nxB (n:Nw) (K:List (List Bool)) (w:List Int) (h i:Nat):Bool:=kn K h i||(zHA n h n.h.toNat).any fun o=>hld n w o i
def zLV (n:Nw) (K:List (List Bool)) (w:List Int) (h:Nat):List Bool:=(List.range n.n.length).map fun i=>nxB n K w h i
def zPC (n:Nw) (K:List (List Bool)) (w:List Int):List (List Bool):=(List.range n.h.toNat).map fun h=>zLV n K w h
theorem zUY {n:Nw} {K:List (List Bool)} {w:List Int} {a i:Nat} (ha:a<n.h.toNat) (hi:i<n.n.length):kn (zPC n K w) a i=nxB n K w a i:=by
 unfold kn zPC
 rw [zAB (l:=(List.range n.h.toNat).map fun h=>zLV n K w h) (by rw [List.length_map,List.length_range];exact ha)]
 simp only [List.getElem_map,List.getElem_range]
 unfold zLV
 rw [zAB (by rw [List.length_map,List.length_range];exact hi)]
 simp only [List.getElem_map,List.getElem_range]
theorem Tr.skip {n:Nw} {w:List Int} {S:Nat→Nat→Prop} (ho:NwOk n) (ht:Tr n w S) {h0 c0:Nat} (hh:h0<n.h.toNat) (hc:c0<8):Tr n (zPr w (h0*8+c0) (-1)) S:=by
 have hH:=ho.h.2
 have yK:h0*8+c0<w.length:=by rw [ht.wl];omega
 have hge : -1≤w.getD (h0*8+c0) 0:=by
  rcases ht.at_ h0 c0 hh hc with h | ⟨i,_,_,h,_⟩<;>omega
 have he:∀ j,(zPr w (h0*8+c0) (-1)).getD j 0=w.getD j 0:=fun j=>by
  rw [zIk yK]
  split
  ·rename_i e;subst e;exact Int.max_eq_left hge
  ·rfl
 exact ⟨by rw [zIr];exact ht.wl,fun h c h1 h2=>by rw [he];exact ht.at_ h c h1 h2,fun h i h1 h2 h3=>by rw [he];exact ht.top h i h1 h2 h3⟩
theorem Tr.nxtR {n:Nw} {now:List Int} {S0:Nat→Nat→Prop} (ho:NwOk n) (h0:Tr n now S0) {h o:Nat} (hh:h<n.h.toNat) (hoo:o<n.h.toNat) {w:List Int} {S:Nat→Nat→Prop} (ht:Tr n w S):∀ k,k≤8→Tr n (nxtR now h o w k) (fun a i=>S a i∨a=h∧(zAi n).getD i 0<(k:Int)∧hld n now o i=true)
 | 0,_=>Tr.same (w:=Go.Eng.nxtR now h o w 0) ht fun a i _ hi=>by
  have:=zBM ho i hi
  exact ⟨.inl,fun h=>h.elim id fun h=>by have:=h.2.1;omega⟩
 | k + 1,hk=>by
  have ih:=Tr.nxtR ho h0 hh hoo ht k (by omega)
  have e:Go.Eng.nxtR now h o w (k+1)=zPr (Go.Eng.nxtR now h o w k) (h*8+k) (now.getD (o*8+k) 0):=by
   simp only [Go.Eng.nxtR,List.range_succ,List.foldl_append,List.foldl_cons,List.foldl_nil]
  rw [e]
  rcases h0.at_ o k hoo (by omega) with hm | ⟨j,g1,g2,g3,_⟩
  ·rw [hm]
   refine (ih.skip ho hh (by omega)).same fun a i _ hi=>or_congr Iff.rfl (and_congr Iff.rfl ⟨fun ⟨x,y⟩=>⟨by omega,y⟩,fun ⟨x,y⟩=>⟨?_,y⟩⟩)
   have hf:=zBM ho i hi
   by_cases ek:(zAi n).getD i 0=(k:Int)
   ·simp only [hld,decide_eq_true_eq,ek,Int.toNat_natCast,hm] at y
    omega
   ·omega
  ·have:=ih.upd ho hh g1
   rw [g2,Int.toNat_natCast] at this
   rw [g3]
   refine this.same fun a i _ hi=>?_
   have hf:=zBM ho i hi
   constructor
   ·rintro ((x | ⟨x,y,z⟩) | ⟨rfl,rfl⟩)
    ·exact .inl x
    ·exact .inr ⟨x,by omega,z⟩
    ·refine .inr ⟨rfl,by omega,?_⟩
     simp only [hld,decide_eq_true_eq,g2,Int.toNat_natCast,g3]
   ·rintro (x | ⟨rfl,y,z⟩)
    ·exact .inl (.inl x)
    ·by_cases ek:(zAi n).getD i 0=(k:Int)
     ·simp only [hld,decide_eq_true_eq,ek,Int.toNat_natCast,g3] at z
      exact .inr ⟨rfl,by omega⟩
     ·exact .inl (.inr ⟨rfl,by omega,z⟩)
theorem Tr.nxtH {n:Nw} {now:List Int} {S0:Nat→Nat→Prop} (ho:NwOk n) (h0:Tr n now S0) {h:Nat} (hh:h<n.h.toNat):∀ (l:List Nat),(∀ o∈l,o<n.h.toNat)→∀ {w:List Int} {S:Nat→Nat→Prop},Tr n w S→Tr n (nxtH now h w l) (fun a i=>S a i∨a=h∧(l.any fun o=>hld n now o i)=true)
 | [],_,w,S,ht=>Tr.same (w:=Go.Eng.nxtH now h w []) ht fun a i _ _=>by simp
 | o::l,hl,w,S,ht=>by
  have h1:=Tr.nxtH ho h0 hh l (fun x hx=>hl x (List.mem_cons_of_mem _ hx)) (Tr.nxtR ho h0 hh (hl o List.mem_cons_self) ht 8 (Nat.le_refl _))
  refine Tr.same (w:=Go.Eng.nxtH now h w (o::l)) h1 fun a i _ hi=>?_
  have hf:=zBM ho i hi
  have vD:=ho.nl.2
  simp only [List.any_cons,Bool.or_eq_true,and_or_left,or_assoc]
  refine or_congr Iff.rfl (or_congr (and_congr Iff.rfl ⟨fun x=>x.2,fun x=>⟨by omega,x⟩⟩) Iff.rfl)
theorem Tr.nxtN {n:Nw} {now:List Int} {S0:Nat→Nat→Prop} (ho:NwOk n) (h0:Tr n now S0):∀ k,k≤n.h.toNat→Tr n (nxtN n now k) (fun a i=>S0 a i∨a<k∧((zHA n a n.h.toNat).any fun o=>hld n now o i)=true)
 | 0,_=>Tr.same (w:=Go.Eng.nxtN n now 0) h0 fun a i _ _=>by simp
 | k + 1,hk=>by
  have ih:=Tr.nxtN ho h0 k (by omega)
  have e:Go.Eng.nxtN n now (k+1)=Go.Eng.nxtH now k (Go.Eng.nxtN n now k) (zHA n k n.h.toNat):=by
   simp only [Go.Eng.nxtN,List.range_succ,List.foldl_append,List.foldl_cons,List.foldl_nil]
  rw [e]
  refine (Tr.nxtH ho h0 (by omega) _ (fun o hm=>List.mem_range.1 (List.mem_filter.1 hm).1) ih).same fun a i _ _=>?_
  constructor
  ·rintro ((x | ⟨x,y⟩) | ⟨rfl,y⟩)
   ·exact .inl x
   ·exact .inr ⟨by omega,y⟩
   ·exact .inr ⟨by omega,y⟩
  ·rintro (x | ⟨x,y⟩)
   ·exact .inl (.inl x)
   ·by_cases ea:a=k
    ·subst ea;exact .inr ⟨rfl,y⟩
    ·exact .inl (.inr ⟨by omega,y⟩)
theorem zT2 {n:Nw} (ho:NwOk n) {K:List (List Bool)} {w:List Int} (h:RelK n K w):RelK n (zPC n K w) (zCs n w):=by
 refine RelK.of_tr (by simp [zPC]) (fun r hr=>?_) ?_
 ·obtain ⟨h,_,rfl⟩:=List.mem_map.1 hr
  simp [zLV]
 ·refine (Tr.nxtN ho h.tr n.h.toNat (Nat.le_refl _)).same fun a i ha hi=>?_
  rw [zUY ha hi,nxB,Bool.or_eq_true]
  exact or_congr Iff.rfl ⟨fun x=>x.2,fun x=>⟨ha,x⟩⟩
end Go.Eng
set_option maxRecDepth 10000
set_option maxHeartbeats 4000000
namespace Go.Eng
open Go Go.Proofs
instance (n:Nw) (i j:Nat):Decidable (chn n i j):=inferInstanceAs (Decidable ((zAi n).getD i 0=(zAi n).getD j 0))
def zWQ (n:Nw) (K:List (List Bool)) (h i:Nat):Bool:=kn K h i && !((List.range n.n.length).any fun k=>decide (i<k)&&(decide (chn n k i)&&kn K h k))
theorem zNL {n:Nw} {K:List (List Bool)} {w:List Int} {h i:Nat} (ho:NwOk n) (hr:RelK n K w) (hh:h<n.h.toNat) (hi:i<n.n.length):zWQ n K h i=hld n w h i:=by
 unfold zWQ
 cases h1:kn K h i
 ·rw [zXa ho hr hh hi (.inl h1)];rfl
 ·cases h2:(List.range n.n.length).any fun k=>decide (i<k)&&(decide (chn n k i)&&kn K h k)
  ·rw [zYN ho hr hh hi h1 fun k hk hc hik=>?_]
   ·rfl
   ·have h3:=(List.any_eq_false.1 h2) k (List.mem_range.2 hk)
    simpa [hik,hc] using h3
  ·obtain ⟨k,hk,h3⟩:=List.any_eq_true.1 h2
   simp only [Bool.and_eq_true,decide_eq_true_eq] at h3
   rw [zXa ho hr hh hi (.inr ⟨k,List.mem_range.1 hk,h3.2.1,h3.1,h3.2.2⟩)];rfl
end Go.Eng
set_option maxRecDepth 10000
set_option maxHeartbeats 4000000
namespace Go.Eng
open Go Go.Proofs
def zSQ (n:Nw) (K:List (List Bool)):List (List Bool):=(List.range n.h.toNat).map fun h=>(List.range n.n.length).map fun i=>kn K h i||(zHA n h n.h.toNat).any fun o=>zWQ n K o i
theorem zSL {n:Nw} {K:List (List Bool)} {w:List Int} (ho:NwOk n) (hr:RelK n K w):zSQ n K=zPC n K w:=by
 unfold zSQ zPC zLV nxB
 refine List.map_congr_left fun h _=>List.map_congr_left fun i hi=>?_
 congr 1
 rw [Bool.eq_iff_iff,List.any_eq_true,List.any_eq_true]
 refine exists_congr fun o=>and_congr_right fun hm=>?_
 rw [zNL ho hr (List.mem_range.1 (List.mem_filter.1 hm).1) (List.mem_range.1 hi)]
def zVd (n:Nw) (cs:List (Int×Int)):Nat→List (List Bool)
 | 0=>zWx n cs n.h.toNat
 | k+1=>zSQ n (zVd n cs k)
theorem zJb {n:Nw} {cs:List (Int×Int)} (ho:CrW n cs):∀ k,RelK n (zVd n cs k) (zBc n cs k)
 | 0=>zVf ho
 | k+1=>by
  have ih:=zJb ho k
  show RelK n (zSQ n (zVd n cs k)) (zCs n (zBc n cs k))
  rw [zSL ho.nw ih]
  exact zT2 ho.nw ih
end Go.Eng
set_option maxRecDepth 10000
set_option maxHeartbeats 4000000
namespace Go.Eng
open Go Go.Proofs
def zTS (n:Nw) (i:Nat):Bool:=decide ((zBo n).getD i 0=i) && !(n.n.getD i default).2
def zCZ (p:Nat→Bool) (k:Nat):List Int:=((List.range k).filter p).map fun (i:Nat)=>(i:Int)
theorem zHH {p:Nat→Bool} {k:Nat}:zCZ p (k+1)=if p k=true then zCZ p k++[(k:Int)] else zCZ p k:=by
 unfold zCZ;rw [List.range_succ,List.filter_append,List.map_append]
 by_cases hn:p k=true
 ·rw [if_pos hn];simp [hn]
 ·rw [if_neg hn];simp [hn]
theorem zGS {p:Nat→Bool} {k:Nat}:(zCZ p k).length≤k:=by
 unfold zCZ;rw [List.length_map];exact Nat.le_trans (List.length_filter_le _ _) (by simp)
theorem f86_1 (n:Nw) (ho:NwOk n):FG 86 [nwV n] (.tup [.own 1 ((zCZ (zTS n) n.n.length).map I),I 0]):=by
 have vD:=ho.nl
 refine zAe Tryz.f86 ?_
 refine zAd 3<|zAa<|zAd 1<|S_a [(6,.ret (PV.tup [(zCS n (PV.own 2 []) (zWb (List.map pr2 n.l)) (zAi n) (zBo n)).box,I 0]) [])] (ap (f139_1 n (by omega)) an)<|zAc 5<|zAa<|zAh<|zAd 2<|zAa<|zAH<|zAm<|zAd 1<|zAa<|zAh<|zAd 2<|S_a [(0,.n n.n.length)] (ap (lnS ntV n.n) an)<|zAc 1<|zAa<|zAk 0 ?_
 refine zAy (fun (i,l)=>i≤n.n.length∧l=zCZ (zTS n) i) (fun (i,l)=>[(6,.own 1 (l.map I)),(20,I (i:Nat))]) (fun (i,_)=>n.n.length-i) ((0:Nat),([]:List Int)) ⟨by omega,by simp [zCZ]⟩ fun (i,l) ⟨hi,hl⟩=>?_
 have qT:l.length≤i:=by rw [hl];exact zGS
 by_cases yP:i<n.n.length
 ·have yU:=zHH (p:=zTS n) (k:=i)
  rw [← hl] at yU
  have kZ:zTS n i=false→l=zCZ (zTS n) (i+1):=fun h=>by rw [yU,if_neg (by rw [h];simp)]
  refine zAd 1<|zAa<|zAh<|zA3 ((↑i:Int)<(↑n.n.length:Int)) (by omega)<|zAm<|zAh<|zAk 1<|zAd 1<|S_a [(2,.v (PV.agg [I (n.n.getD i default).fst,PV.bool (n.n.getD i default).snd]))] (ap (zCh default (by omega):(List.map ntV n.n)[i]? = some (PV.agg [I (n.n.getD i default).fst,PV.bool (n.n.getD i default).snd])) an)<|zAc 4<|zAa<|zAd 4<|S_a [(2,.ob),(1,.v (PV.addr 4 [] 0 (14+i) none))] (ap ((by exact zAq (by omega)):decide (i<8)=true)<|ap ((zFq (by kernel_rfl)):PV.addr 4 [] 0 (14+i*(fun x=>x.size) Tryz.prog.types[3]) none=PV.addr 4 [] 0 (14+i) none) an)<|S_a [(0,.cs true ([I ((zBo n).getD i 0)]))] (ap (zCu (q:=(PV.agg (I n.h::prs n.l::PV.sl (List.map ntV n.n)::PV.sl (List.map zA5 n.s)::PV.own 2 []::PV.omap (List.map zBJ (List.map pr2 n.l))::(zAX (zAi n) 8++zAX (zBo n) 8))).box) (xs:=[PV.agg (I n.h::prs n.l::PV.sl (List.map ntV n.n)::PV.sl (List.map zA5 n.s)::PV.own 2 []::PV.omap (List.map zBJ (List.map pr2 n.l))::(zAX (zAi n) 8++zAX (zBo n) 8))]) (x:=PV.agg (I n.h::prs n.l::PV.sl (List.map ntV n.n)::PV.sl (List.map zA5 n.s)::PV.own 2 []::PV.omap (List.map zBJ (List.map pr2 n.l))::(zAX (zAi n) 8++zAX (zBo n) 8))) rfl rfl (zKv (A:=I n.h::prs n.l::PV.sl (List.map ntV n.n)::PV.sl (List.map zA5 n.s)::PV.own 2 []::PV.omap (List.map zBJ (List.map pr2 n.l))::zAX (zAi n) 8) (B:=[]) (F:=zBo n) (m:=8) (j:=i) (by first | rfl | exact zB9 (by kernel_rfl) | exact zB6 (by kernel_rfl) | exact zDN (by kernel_rfl) (by kernel_rfl) | exact zDE (by kernel_rfl) | exact zDU (by kernel_rfl) (by kernel_rfl) | exact zDG (by kernel_rfl) | (simp;done)) (by omega)):zAr 4 (PV.agg (I n.h::prs n.l::PV.sl (List.map ntV n.n)::PV.sl (List.map zA5 n.s)::PV.own 2 []::PV.omap (List.map zBJ (List.map pr2 n.l))::(zAX (zAi n) 8++zAX (zBo n) 8))).box [] 0 (14+i) 1=some (true,[I ((zBo n).getD i 0)])) an)<|zAc 3<|zLQ 33 ((zBo n).getD i 0=(↑i:Int)) (fun k0=>(zAc 4<|zAa<|zGb (!(n.n.getD i default).snd) (fun k1=>(zAg<|zAc 3<|S_a [(4,.ob),(0,.ob),(0,.yes),(2,.v (PV.own 1 (List.map I (l++[(↑i:Int)]))))] (ap (blz (List.map I l))<|ap ((by exact zA4 (by simp only [List.length_map,zzLn,zAS]<;>omega)):((List.map I l).length + [I (↑i:Int)].length).ble zAS=true)<|ap ((by exact zBB (by simp<;>omega)):(0+(List.map I l).length).beq (List.map I l).length=true)<|ap ((zAZ (zBI (by kernel_rfl))):PV.own 1 (List.map I l++[I (↑i:Int)])=PV.own 1 (List.map I (l++[(↑i:Int)]))) an)<|zAc 1<|zAa<|zAg<|S_a [(1,.v (I (↑(i+1):Int)))] (ap (wrN i) an)<|zAc 1<|zAa ?_)) (fun k1=>(zAm<|zAg<|S_a [(1,.v (I (↑(i+1):Int)))] (ap (wrN i) an)<|zAc 1<|zAa ?_)))) (fun k0=>(zAc 4<|zAa<|zAH<|zAm<|zAg<|S_a [(1,.v (I (↑(i+1):Int)))] (ap (wrN i) an)<|zAc 1<|zAa ?_))
  ·rw [if_pos (by simp only [zTS,decide_eq_true k0,k1];rfl)] at yU
   exact ⟨(i+1,l++[(i:Int)]),⟨by omega,yU.symm⟩,by simp only;omega,by kernel_rfl,by kernel_rfl⟩
  ·exact ⟨(i+1,l),⟨by omega,kZ (by simp only [zTS,decide_eq_true k0,k1];rfl)⟩,by simp only;omega,by kernel_rfl,by kernel_rfl⟩
  ·exact ⟨(i+1,l),⟨by omega,kZ (by simp only [zTS,decide_eq_false k0,Bool.false_and])⟩,by simp only;omega,by kernel_rfl,by kernel_rfl⟩
 ·refine zAd 1<|zAa<|zAh<|zBd ((↑i:Int)<(↑n.n.length:Int)) (by omega)<|zAM 0<|zAd 1<|S_a [(2,.yes)] (ap ((by exact zBB (by simp<;>omega)):(Nat.beq 0 0&&(List.map I l).length.beq (List.map I l).length)=true) an)<|zAc 1<|zAa<|zAn<|E_a [(1,.yes),(1,.v (PV.own 1 (List.map I l)))] (ap (blz (List.map I l))<|ap ((zAZ zBe):PV.own 1 (List.take (List.map I l).length (List.drop 0 (List.map I l)))=PV.own 1 (List.map I l)) an) (PV.tup [PV.own 1 (List.map I l),I 0]) [] ?_ rfl
  rw [hl,show i=n.n.length by omega]
def bkL (n:Nw) (cs:List (Int×Int)) (c:Nat) (x:Int):Nat→List Int→List Int
 | 0,out=>out
 | k+1,out=>bkL n cs c x k (match (zHA n (out.getD 0 0).toNat n.h.toNat).find? fun o=>decide ((zBc n cs k).getD (o*8+c) 0=x) with | some o=>(o:Int)::out | none=>out)
abbrev zUu (S:List (List Int)):PV := .box (.own 80 (S.map hdV))
def zRm (n:Nw) (cs:List (Int×Int)) (k:Nat):List (List Int):=(List.range k).map fun k=>zBc n cs k
theorem zL2 {n:Nw} {cs:List (Int×Int)} {k:Nat}:zRm n cs (k+1)=zRm n cs k++[zBc n cs k]:=by
 simp only [zRm,List.range_succ,List.map_append,List.map_cons,List.map_nil]
theorem zLI {n:Nw} {cs:List (Int×Int)} {k j:Nat} (h:j<k):(zRm n cs k).getD j []=zBc n cs j:=by
 simp [zRm,List.getD_eq_getElem?_getD,h]
theorem zUV (n:Nw) (cs:List (Int×Int)) (h:Int) (ho:NwOk n) (hh:0≤h∧h<n.h):zGa 169 [] [.ref (zDT n cs),.ref (I h)] (zJv n h.toNat n.h.toNat):=by
 obtain ⟨g,rfl⟩:∃ g:Nat,h=g:=⟨h.toNat,by omega⟩
 exact zUh n cs g ho hh.2
theorem zKq {p:Nat→Bool}:∀ {l:List Nat} {j o:Nat},l[j]? = some o→p o=true→(∀ i,i<j→p (l.getD i 0)=false)→l.find? p=some o
 | [],j,o,h,_,_=>by cases h
 | x::l,0,o,h,hp,_=>by
  simp only [List.getElem?_cons_zero,Option.some.injEq] at h
  subst h;rw [List.find?_cons,hp]
 | x::l,j+1,o,h,hp,ha=>by
  have h0:=ha 0 (by omega)
  simp only [List.getD_cons_zero] at h0
  rw [List.find?_cons,h0]
  exact zKq (by simpa using h) hp fun i hi=>by simpa using ha (i+1) (by omega)
theorem zPq {p:Nat→Bool} {l:List Nat} (ha:∀ i,i<l.length→p (l.getD i 0)=false):l.find? p=none:=by
 rw [List.find?_eq_none]
 intro x hx
 obtain ⟨i,hi,rfl⟩:=List.getElem_of_mem hx
 have:=ha i hi
 rw [zAB hi] at this
 simp [this]
theorem f38_1 (n:Nw) (cs:List (Int×Int)) (h:Int) (x:Int) (k:Nat) (ho:CrOk n cs) (hh:0≤h∧h<n.h) (hx:0≤x∧x<n.n.length) (hk:k≤12) (kJ:(zBc n cs k).getD (h.toNat*8+((zAi n).getD x.toNat 0).toNat) 0=x) (hm:∀ j,j<k→(zBc n cs j).getD (h.toNat*8+((zAi n).getD x.toNat 0).toNat) 0≠x):FG 38 [nwV n,prs cs,I h,I x] (.tup [.own 1 ((bkL n cs ((zAi n).getD x.toNat 0).toNat x k [h]).map I),I 0]):=by
 have hn:=ho.nw
 have uj:=ho.w
 have hb:=hn.h
 have vD:=hn.nl
 have hin:inB x 0 (n.n.length-1)=true:=by simp only [inB,Bool.and_eq_true,decide_eq_true_eq];omega
 have hih:inB h 0 (n.h-1)=true:=by simp only [inB,Bool.and_eq_true,decide_eq_true_eq];omega
 have hfb:=zBM hn x.toNat (by omega)
 refine zAe Tryz.f38 ?_
 refine zAd 4<|zAa<|zAd 2<|S_a [(8,.ret (PV.tup [zDT n cs,I 0]) [])] (ap (f99_1 n cs (by omega)) an)<|zAc 5<|zAa<|zAh<|zAk 0<|zAd 3<|zAa<|zAH<|zAd 2<|S_a [(8,.ret (PV.bool (inB h 0 (n.h-1))) [])] (ap (f109 n h (by omega)) an)<|zAc 2<|zGh 32 (!inB h 0 (n.h-1)) (fun k1=>(zAc 6<|zAa<|zDW<|zAd 2<|zAa<|zAn<|E_a [] an (PV.tup [PV.own 1 [],I 1]) [] ?_ rfl)) (fun k1=>(zAc 2<|S_a [(8,.ret (PV.bool (inB x 0 ((↑n.n.length:Int)-1))) [])] (ap (f106 n x (by first | omega | (simp<;>omega))) an)<|zAc 3<|zAa<|zGb (!inB x 0 ((↑n.n.length:Int)-1)) (fun k2=>(zAd 2<|zAa<|zAn<|E_a [] an (PV.tup [PV.own 1 [],I 1]) [] ?_ rfl)) (fun k2=>(zAm<|zAd 4<|S_a [(0,.ob),(1,.ob),(0,.v ((I ((zAi n).getD x.toNat 0)).ref))] (ap ((by exact zAq (by omega)):decide (0≤x)=true)<|ap ((by exact zAq (by omega)):decide (x.toNat<8)=true)<|ap (zGq (F:=zAi n) (m:=8) (j:=x.toNat) (by omega):zCo (PV.agg (zAX (zAi n) 8)).ref (x.toNat*(fun x=>x.size) Tryz.prog.types[3]) none=some (I ((zAi n).getD x.toNat 0)).ref) an)<|zAc 3<|zAa<|zAd 1<|S_a [(5,.ret (hdV (zLN n cs)) [])] (ap (f100 n cs (by omega)) an)<|zAc 3<|zAa<|zAh<|zAk 1 ?_))))
 ·rw [hih] at k1;cases k1
 ·rw [hin] at k2;cases k2
 ·generalize hc:((zAi n).getD x.toNat 0)=c at *
  refine zAy (fun (j,S)=>j≤k∧S=zRm n cs (j+1)) (fun (j,S)=>[(13,zUu S)]) (fun (j,_)=>k-j) ((0:Nat),[zLN n cs]) ⟨by omega,rfl⟩ fun (j,S) ⟨hj,hS⟩=>?_
  have vC:S.length=j+1:=by rw [hS];simp [zRm]
  have qU:S.getD (S.length-1) []=zBc n cs j:=by rw [vC,hS];exact zLI (by omega)
  have hwl:(S.getD (S.length-1) []).length=80:=by rw [qU];exact zBH j
  by_cases hjk:j<k
  ·have hI:=hm j hjk
   rw [← qU] at hI
   have hSS:S++[zCs n (S.getD (S.length-1) [])]=zRm n cs (j+1+1):=by rw [zL2 (k:=j+1),← hS,qU];rfl
   refine zAh<|zAh<|zAg<|S_a [(1,.v (PV.bor 13 [(0,0)] 80 0 S.length))] (ap ((by simp):PV.bor 13 [(0,0)] 80 0 (List.map hdV S).length=PV.bor 13 [(0,0)] 80 0 S.length) an)<|S_a [(1,.v (PV.bor 13 [(0,0)] 80 0 S.length))] (ap ((by simp):PV.bor 13 [(0,0)] 80 0 (List.map hdV S).length=PV.bor 13 [(0,0)] 80 0 S.length) an)<|zAc 1<|S_a [(1,.v (I (↑(S.length-1):Int)))] (ap ((zCr (by omega) (by omega)):I (IntKind.i64.wrap ((↑S.length:Int)-1))=I (↑(S.length-1):Int)) an)<|zAc 2<|S_a [(2,.ob),(1,.n (S.length-1))] (ap ((by exact zAq (by omega)):decide (S.length-1<S.length)=true)<|ap ((by simp):some (0+(S.length-1))=some (S.length-1)) an)<|S_a [(0,.ob),(1,.ob)] (ap ((by exact zAq (by omega)):decide (0≤h)=true)<|ap ((by exact zAq (by omega)):decide (h.toNat<10)=true) an)<|S_a [(0,.ob),(1,.ob)] (ap ((by exact zAq (by omega)):decide (0≤c)=true)<|ap ((by exact zAq (by omega)):decide (c.toNat<8)=true) an)<|S_a [(0,.cs true ([I ((S.getD (S.length-1) []).getD (h.toNat*8+c.toNat) 0)]))] (ap (zCu (q:=PV.own 80 (List.map hdV S)) (xs:=List.map hdV S) (x:=PV.agg (zAX (S.getD (S.length-1) []) 80)) (zIc (xs:=[PV.own 80 (List.map hdV S)]) (x:=PV.own 80 (List.map hdV S)) (y:=PV.own 80 (List.map hdV S)) rfl rfl) (zCh [] (by omega)) (zFg (F:=S.getD (S.length-1) []) (m:=80) (j:=h.toNat*8+c.toNat) (by first | rfl | exact zB9 (by kernel_rfl) | exact zB6 (by kernel_rfl) | exact zDN (by kernel_rfl) (by kernel_rfl) | exact zDE (by kernel_rfl) | exact zDU (by kernel_rfl) (by kernel_rfl) | exact zDG (by kernel_rfl) | (simp;done)) (by omega)):zAr 13 (PV.own 80 (List.map hdV S)).box [(0,0)] (S.length-1) (0+h.toNat*(fun x=>x.size) Tryz.prog.types[128]+c.toNat*(fun x=>x.size) Tryz.prog.types[3]) 1=some (true,[I ((S.getD (S.length-1) []).getD (h.toNat*8+c.toNat) 0)])) an)<|zAc 2<|zAa<|zJT ((S.getD (S.length-1) []).getD (h.toNat*8+c.toNat) 0=x) (by omega)<|zAm<|zAk 2<|zAh<|zAh<|zAg<|S_a [(1,.v (PV.bor 13 [(0,0)] 80 0 S.length))] (ap ((by simp):PV.bor 13 [(0,0)] 80 0 (List.map hdV S).length=PV.bor 13 [(0,0)] 80 0 S.length) an)<|zAc 2<|zAa<|zBd ((↑S.length:Int)>12) (by omega)<|zAm<|zAg<|S_a [(1,.v (PV.bor 13 [(0,0)] 80 0 S.length))] (ap ((by simp):PV.bor 13 [(0,0)] 80 0 (List.map hdV S).length=PV.bor 13 [(0,0)] 80 0 S.length) an)<|zAc 1<|S_a [(1,.v (PV.bor 13 [(0,0)] 80 0 S.length))] (ap ((by simp):PV.bor 13 [(0,0)] 80 0 (List.map hdV S).length=PV.bor 13 [(0,0)] 80 0 S.length) an)<|S_a [(1,.v (PV.bor 13 [(0,0)] 80 0 S.length))] (ap ((by simp):PV.bor 13 [(0,0)] 80 0 (List.map hdV S).length=PV.bor 13 [(0,0)] 80 0 S.length) an)<|zAc 1<|S_a [(1,.v (I (↑(S.length-1):Int)))] (ap ((zCr (by omega) (by omega)):I (IntKind.i64.wrap ((↑S.length:Int)-1))=I (↑(S.length-1):Int)) an)<|S_a [(2,.ob),(1,.n (S.length-1))] (ap ((by exact zAq (by omega)):decide (S.length-1<S.length)=true)<|ap ((by simp):some (0+(S.length-1))=some (S.length-1)) an)<|S_a [(0,.cs true (zAX (S.getD (S.length-1) []) 80))] (ap (zCu (q:=PV.own 80 (List.map hdV S)) (xs:=List.map hdV S) (x:=PV.agg (zAX (S.getD (S.length-1) []) 80)) (zIc (xs:=[PV.own 80 (List.map hdV S)]) (x:=PV.own 80 (List.map hdV S)) (y:=PV.own 80 (List.map hdV S)) rfl rfl) (zCh [] (by omega)):zAr 13 (PV.own 80 (List.map hdV S)).box [(0,0)] (S.length-1) 0 Tryz.prog.types[130].size=some (true,zAX (S.getD (S.length-1) []) 80)) an)<|S_a [(7,.ret (hdV (zCs n (S.getD (S.length-1) []))) [])] (ap (f101 n cs (S.getD (S.length-1) []) (by omega) (by omega)) an)<|zAc 1<|S_a [(4,.ob),(0,.ob),(0,.yes),(2,.v (PV.own 80 (List.map hdV (S++[zCs n (S.getD (S.length-1) [])]))))] (ap ((by exact zA4 (by simp only [List.length_map,zzLn,zAS]<;>omega)):(0+S.length).ble (List.map hdV S).length=true)<|ap ((by exact zA4 (by simp only [List.length_map,zzLn,zAS]<;>omega)):((List.map hdV S).length + [PV.agg (zAX (zCs n (S.getD (S.length-1) [])) 80)].length).ble zAS=true)<|ap ((by exact zBB (by simp<;>omega)):(0+S.length).beq (List.map hdV S).length=true)<|ap ((zAZ (zBI (by kernel_rfl))):PV.own 80 (List.map hdV S++[PV.agg (zAX (zCs n (S.getD (S.length-1) [])) 80)])=PV.own 80 (List.map hdV (S++[zCs n (S.getD (S.length-1) [])]))) an)<|zAc 1<|zAa ?_
   exact ⟨(j+1,S++[zCs n (S.getD (S.length-1) [])]),⟨by omega,hSS⟩,by simp only;omega,by kernel_rfl,by kernel_rfl⟩
  ·have e:j=k:=by omega
   subst e
   rw [← qU] at kJ
   refine zAh<|zAh<|zAg<|S_a [(1,.v (PV.bor 13 [(0,0)] 80 0 S.length))] (ap ((by simp):PV.bor 13 [(0,0)] 80 0 (List.map hdV S).length=PV.bor 13 [(0,0)] 80 0 S.length) an)<|S_a [(1,.v (PV.bor 13 [(0,0)] 80 0 S.length))] (ap ((by simp):PV.bor 13 [(0,0)] 80 0 (List.map hdV S).length=PV.bor 13 [(0,0)] 80 0 S.length) an)<|zAc 1<|S_a [(1,.v (I (↑(S.length-1):Int)))] (ap ((zCr (by omega) (by omega)):I (IntKind.i64.wrap ((↑S.length:Int)-1))=I (↑(S.length-1):Int)) an)<|zAc 2<|S_a [(2,.ob),(1,.n (S.length-1))] (ap ((by exact zAq (by omega)):decide (S.length-1<S.length)=true)<|ap ((by simp):some (0+(S.length-1))=some (S.length-1)) an)<|S_a [(0,.ob),(1,.ob)] (ap ((by exact zAq (by omega)):decide (0≤h)=true)<|ap ((by exact zAq (by omega)):decide (h.toNat<10)=true) an)<|S_a [(0,.ob),(1,.ob)] (ap ((by exact zAq (by omega)):decide (0≤c)=true)<|ap ((by exact zAq (by omega)):decide (c.toNat<8)=true) an)<|S_a [(0,.cs true ([I ((S.getD (S.length-1) []).getD (h.toNat*8+c.toNat) 0)]))] (ap (zCu (q:=PV.own 80 (List.map hdV S)) (xs:=List.map hdV S) (x:=PV.agg (zAX (S.getD (S.length-1) []) 80)) (zIc (xs:=[PV.own 80 (List.map hdV S)]) (x:=PV.own 80 (List.map hdV S)) (y:=PV.own 80 (List.map hdV S)) rfl rfl) (zCh [] (by omega)) (zFg (F:=S.getD (S.length-1) []) (m:=80) (j:=h.toNat*8+c.toNat) (by first | rfl | exact zB9 (by kernel_rfl) | exact zB6 (by kernel_rfl) | exact zDN (by kernel_rfl) (by kernel_rfl) | exact zDE (by kernel_rfl) | exact zDU (by kernel_rfl) (by kernel_rfl) | exact zDG (by kernel_rfl) | (simp;done)) (by omega)):zAr 13 (PV.own 80 (List.map hdV S)).box [(0,0)] (S.length-1) (0+h.toNat*(fun x=>x.size) Tryz.prog.types[128]+c.toNat*(fun x=>x.size) Tryz.prog.types[3]) 1=some (true,[I ((S.getD (S.length-1) []).getD (h.toNat*8+c.toNat) 0)])) an)<|zAc 2<|zAa<|zLt ((S.getD (S.length-1) []).getD (h.toNat*8+c.toNat) 0=x) (by omega)<|zAM 1<|zAd 4<|zAa<|zAh<|zAh<|zAg<|S_a [(1,.v (PV.bor 13 [(0,0)] 80 0 S.length))] (ap ((by simp):PV.bor 13 [(0,0)] 80 0 (List.map hdV S).length=PV.bor 13 [(0,0)] 80 0 S.length) an)<|zAc 1<|S_a [(1,.v (I ((↑S.length:Int)-2)))] (ap ((zCr rfl (by omega)):I (IntKind.i64.wrap ((↑S.length:Int)-2))=I ((↑S.length:Int)-2)) an)<|zAc 2<|zAa<|zAk 3 ?_
   have hS0:∀ r:Nat,r<S.length→(S.getD r []).length=80∧S.getD r []=zBc n cs r:=fun r hr=>by
    rw [hS,zLI (by omega)];exact ⟨zBH r,rfl⟩
   have hSm:((S.length:Nat):Int)-2=(j:Int)-1:=by omega
   generalize yI:bkL n cs c.toNat x j [h]=fin
   clear hS qU hwl kJ hm
   refine zAy (fun ((m:Int),(out:List Int))=>-1≤m∧m<j∧out.length≤20-m∧0<out.length∧(0≤out.getD 0 0∧out.getD 0 0<n.h)∧bkL n cs c.toNat x (m+1).toNat out=fin) (fun (m,out)=>[(14,.box (.own 1 (out.map I))),(15,.box (I m))]) (fun (m,_)=>(m+1).toNat) (((S.length:Nat):Int)-2,[h]) ⟨by omega,by omega,by simp only [List.length_cons,List.length_nil];omega,by simp,by simpa using hh,by rw [← yI];congr 1;omega⟩ fun (m,out) ⟨hm1,vW,ho1,ho2,ho3,LF⟩=>?_
   by_cases gX:0≤m
   ·have hA:=zUV n cs (out.getD 0 0) hn ho3
    obtain ⟨ui,uU⟩:=hS0 m.toNat (by omega)
    rw [show (m+1).toNat=m.toNat+1 by omega,bkL,← uU] at LF
    refine zAh<|zAd 2<|zAa<|zA3 (m≥0) (by omega)<|zAm<|zAh<|zAk 4<|zVS<|zAh<|zVF (zAd 1<|S_a [(1,.v (PV.bor 14 [(0,0)] 1 0 out.length))] (ap ((by simp):PV.bor 14 [(0,0)] 1 0 (List.map I out).length=PV.bor 14 [(0,0)] 1 0 out.length) an)<|S_a [(2,.ob)] (ap ((by exact zAq (by omega)):decide (0<out.length)=true) an)<|S_a [(0,.cs false ([I (out.getD 0 0)]))] (ap (zCu (q:=PV.own 1 (List.map I out)) (xs:=List.map I out) (x:=I (out.getD 0 0)) (zIc (xs:=[PV.own 1 (List.map I out)]) (x:=PV.own 1 (List.map I out)) (y:=PV.own 1 (List.map I out)) rfl rfl) (zCh (0) (by omega)):zAr 14 (PV.own 1 (List.map I out)).box [(0,0)] 0 0 1=some (false,[I (out.getD 0 0)])) an)<|S_a [(7,.ret (PV.func 169 [] [(zDT n cs).ref,(I (out.getD 0 0)).ref]) [])] (ap (f116 n cs (out.getD 0 0)) an)<|zAa<|zAk 5 ?_)
    refine zOl (t:=86) hA (fun i (_:Unit)=>∀ r,r<i→decide ((S.getD m.toNat []).getD ((zHA n (out.getD 0 0).toNat n.h.toNat).getD r 0*8+c.toNat) 0=x)=false) (fun _=>[]) () (fun r hr=>absurd hr (Nat.not_lt_zero r)) (fun i y _ hy hi=>?_) (fun _ hi=>?_)
    ·rw [List.getElem?_map] at hy
     obtain ⟨o,hmo,rfl⟩:=Option.map_eq_some_iff.1 hy
     have hol:o<n.h.toNat:=zLh (List.mem_of_getElem? hmo)
     refine zPd ?_
     refine zAg<|zAc 1<|zAa ?_
     have jY:(zHA n (out.getD 0 0).toNat n.h.toNat).getD i 0=o:=by rw [List.getD_eq_getElem?_getD,hmo];rfl
     refine ⟨rfl,by kernel_rfl,?_⟩
     refine zAk 6<|zAh<|zAg<|S_a [(1,.v (PV.bor 13 [(0,0)] 80 0 S.length))] (ap ((by simp):PV.bor 13 [(0,0)] 80 0 (List.map hdV S).length=PV.bor 13 [(0,0)] 80 0 S.length) an)<|zAc 3<|S_a [(0,.ob),(1,.ob),(1,.n m.toNat)] (ap ((by exact zAq (by omega)):decide (0≤m)=true)<|ap ((by exact zAq (by omega)):decide (m.toNat<S.length)=true)<|ap ((by simp):some (0+m.toNat)=some m.toNat) an)<|S_a [(2,.ob)] (ap ((by exact zAq (by omega)):decide (o<10)=true) an)<|S_a [(0,.ob),(1,.ob)] (ap ((by exact zAq (by omega)):decide (0≤c)=true)<|ap ((by exact zAq (by omega)):decide (c.toNat<8)=true) an)<|S_a [(0,.cs true ([I ((S.getD m.toNat []).getD (o*8+c.toNat) 0)]))] (ap (zCu (q:=PV.own 80 (List.map hdV S)) (xs:=List.map hdV S) (x:=PV.agg (zAX (S.getD m.toNat []) 80)) (zIc (xs:=[PV.own 80 (List.map hdV S)]) (x:=PV.own 80 (List.map hdV S)) (y:=PV.own 80 (List.map hdV S)) rfl rfl) (zCh [] (by omega)) (zFg (F:=S.getD m.toNat []) (m:=80) (j:=o*8+c.toNat) (by first | rfl | exact zB9 (by kernel_rfl) | exact zB6 (by kernel_rfl) | exact zDN (by kernel_rfl) (by kernel_rfl) | exact zDE (by kernel_rfl) | exact zDU (by kernel_rfl) (by kernel_rfl) | exact zDG (by kernel_rfl) | (simp;done)) (by omega)):zAr 13 (PV.own 80 (List.map hdV S)).box [(0,0)] m.toNat (0+(↑o:Int).toNat*(fun x=>x.size) Tryz.prog.types[128]+c.toNat*(fun x=>x.size) Tryz.prog.types[3]) 1=some (true,[I ((S.getD m.toNat []).getD (o*8+c.toNat) 0)])) an)<|zAc 2<|zAa<|zDn ((S.getD m.toNat []).getD (o*8+c.toNat) 0=x) (fun k2=>(zAd 2<|S_a [(1,.v (PV.bor 14 [(0,0)] 1 0 out.length))] (ap ((by simp):PV.bor 14 [(0,0)] 1 0 (List.map I out).length=PV.bor 14 [(0,0)] 1 0 out.length) an)<|S_a [(1,.ob),(0,.vs (List.map I out)),(0,.ob),(0,.ob),(0,.ob),(3,.ob)] (ap ((by exact zA4 (by simp only [List.length_map,zzLn,zAS]<;>omega)):(0+out.length).ble (List.map I out).length=true)<|ap ((by simp [zBE]):List.take out.length (List.drop 0 (List.map I out))=List.map I out)<|ap ((by exact all_map _):((List.map I out).all fun x=>x.plain)=true)<|ap ((by exact all_map _):((List.map I out).all fun y=>y.cells.length.beq ((fun x=>x.size) Tryz.prog.types[3])&&y.cells.all fun q=>q.oneCell)=true)<|ap ((by exact List.isEmpty_iff.2 (zRz _)):(zBA (List.map I out)).isEmpty=true)<|ap ((by exact zA4 (by simp only [List.length_map,zzLn,zAS]<;>omega)):([I (↑o:Int)].length+(List.map I out).length).ble zAS=true) an)<|zAc 1<|zAa<|zAM 5 ?_)) (fun k2=>(zAm ?_))
     ·rw [zKq hmo (decide_eq_true (by assumption)) hi] at LF
      clear hi hmo hA
      refine ⟨by kernel_rfl,?_⟩
      refine zAh<|zAd 1<|zAa<|zAg<|zAc 2<|zAa<|zAg<|zAc 1<|S_a [(1,.v (I (m-1)))] (ap ((zCr rfl (by omega)):I (IntKind.i64.wrap (m-1))=I (m-1)) an)<|zAc 1<|zAa ?_
      exact ⟨(m-1,(o:Int)::out),⟨by omega,by omega,by simp only [List.length_cons];omega,by simp,by simp only [List.getD_cons_zero];omega,by rw [show (m-1+1).toNat=m.toNat by omega];exact LF⟩,by simp only;omega,by kernel_rfl,by kernel_rfl⟩
     ·refine ⟨by kernel_rfl,(),fun r hr=>?_,by kernel_rfl⟩
      rcases Nat.lt_succ_iff_lt_or_eq.1 hr with h | rfl
      ·exact hi r h
      ·rw [jY];exact decide_eq_false (by assumption)
    ·rw [zPq (by simpa using hi)] at LF
     clear hi hA
     show W _ _ _ _ _ _ _ _
     refine zAh<|zAd 1<|zAa<|zAg<|zAc 2<|zAa<|zAg<|zAc 1<|S_a [(1,.v (I (m-1)))] (ap ((zCr rfl (by omega)):I (IntKind.i64.wrap (m-1))=I (m-1)) an)<|zAc 1<|zAa ?_
     exact ⟨(m-1,out),⟨by omega,by omega,by omega,ho2,ho3,by rw [show (m-1+1).toNat=m.toNat by omega];exact LF⟩,by simp only;omega,by kernel_rfl,by kernel_rfl⟩
   ·have hm3:(m+1).toNat=0:=by omega
    rw [hm3,bkL] at LF
    rw [← LF]
    refine zAh<|zAd 2<|zAa<|zBd (m≥0) (by omega)<|zAM 3<|zAh<|zAg<|S_a [(1,.v (PV.bor 14 [(0,0)] 1 0 out.length))] (ap ((by simp):PV.bor 14 [(0,0)] 1 0 (List.map I out).length=PV.bor 14 [(0,0)] 1 0 out.length) an)<|S_a [(2,.yes)] (ap ((by exact zBB (by simp<;>omega)):(Nat.beq 0 0&&out.length.beq (List.map I out).length)=true) an)<|zAc 1<|zAa<|zAn<|E_a [(1,.yes),(1,.v (PV.own 1 (List.map I out)))] (ap (blz (List.map I out))<|ap ((zAZ zBe):PV.own 1 (List.take (List.map I out).length (List.drop 0 (List.map I out)))=PV.own 1 (List.map I out)) an) (PV.tup [PV.own 1 (List.map I out),I 0]) [] rfl rfl
end Go.Eng
set_option maxHeartbeats 1000000
namespace Go.Eng
open Go
theorem zRc:∀ {a b:List Int},a.Pairwise (· < ·)→b.Pairwise (· < ·)→(∀ x,x∈a↔x∈b)→a=b
 | [],[],_,_,_=>rfl
 | [],y::b,_,_,h=>absurd ((h y).2 (by simp)) (by simp)
 | x::a,[],_,_,h=>absurd ((h x).1 (by simp)) (by simp)
 | x :: a,y::b,ha,hb,h=>by
  rw [List.pairwise_cons] at ha hb
  have e:x=y:=by
   have h1:=(h x).1 (by simp)
   have h2:=(h y).2 (by simp)
   rcases List.mem_cons.1 h1 with h1 | h1
   ·exact h1
   rcases List.mem_cons.1 h2 with h2 | h2
   ·exact h2.symm
   have:=ha.1 y h2
   have:=hb.1 x h1
   omega
  subst e
  rw [zRc ha.2 hb.2 fun z=>?_]
  constructor
  ·intro hz
   rcases List.mem_cons.1 ((h z).1 (List.mem_cons_of_mem _ hz)) with rfl | h1
   ·exact absurd (ha.1 z hz) (by omega)
   ·exact h1
  ·intro hz
   rcases List.mem_cons.1 ((h z).2 (List.mem_cons_of_mem _ hz)) with rfl | h1
   ·exact absurd (hb.1 z hz) (by omega)
   ·exact h1
theorem zMI {p:Nat→Bool} {k:Nat} {x:Int}:x∈zCZ p k↔∃ i:Nat,i<k∧p i=true∧x=i:=by
 simp only [zCZ,List.mem_map,List.mem_filter,List.mem_range]
 constructor
 ·rintro ⟨i,⟨h1,h2⟩,rfl⟩;exact ⟨i,h1,h2,rfl⟩
 ·rintro ⟨i,h1,h2,rfl⟩;exact ⟨i,⟨h1,h2⟩,rfl⟩
theorem zJ1 {p:Nat→Bool}:∀ k,(zCZ p k).Pairwise (· < ·)
 | 0=>by simp [zCZ]
 | k + 1=>by
  rw [zHH]
  split
  ·rw [List.pairwise_append]
   refine ⟨zJ1 k,by simp,fun a ha b hb=>?_⟩
   have:=zMI.1 ha
   obtain ⟨i,hi,_,rfl⟩:=this
   have:=List.mem_singleton.1 hb
   omega
  ·exact zJ1 k
theorem zTz {l:List Int} {x:Int}:x∈zDo l↔x∈l:=by simp [zDo]
theorem zV9 (l:List Int):(zDo l).Pairwise (· ≤ ·):=by
 have:=List.pairwise_mergeSort (le:=fun (x y:Int)=>decide (x≤y)) (fun a b c h1 h2=>by simp at *;omega) (fun a b=>by simp;omega) l
 exact this.imp (by simp)
theorem zSY {l:List Int} (h:l.Nodup):(zDo l).Pairwise (· < ·):=by
 have h1:=zV9 l
 have h2:(zDo l).Nodup:=(List.mergeSort_perm l _).nodup_iff.2 h
 have:=h1.and h2
 exact this.imp (fun ⟨a,b⟩=>by omega)
theorem zSS {l:List Int} {p:Nat→Bool} {k:Nat} (yT:l.Nodup) (hm:∀ x,x∈l↔∃ i:Nat,i<k∧p i=true∧x=i):zDo l=zCZ p k :=
 zRc (zSY yT) (zJ1 k) fun x=>by rw [zTz,hm,zMI]
end Go.Eng
set_option maxRecDepth 10000
set_option maxHeartbeats 4000000
namespace Go.Eng
open Go Go.Proofs
end Go.Eng
set_option maxRecDepth 10000
set_option maxHeartbeats 4000000
namespace Go.Eng
open Go Go.Proofs
end Go.Eng
namespace Go.Eng
open Go Go.Proofs
end Go.Eng
namespace Go.Eng
open Go Go.Proofs
theorem zVU {a b v:Int}:v≤max a b↔v≤a∨v≤b:=by omega
theorem zQo {now w:List Int} {h o:Nat} (hw:w.length=80) (hh:h<10) {j:Nat} {v:Int}:∀ k,k≤8→(v≤(nxtR now h o w k).getD j 0↔v≤w.getD j 0∨∃ c,c<k∧j=h*8+c∧v≤now.getD (o*8+c) 0)
 | 0,_=>by
  refine ⟨.inl,fun h=>h.elim id fun ⟨c,h,_⟩=>absurd h (Nat.not_lt_zero c)⟩
 | k + 1,hk=>by
  have ih:=zQo (now:=now) (o:=o) hw hh (j:=j) (v:=v) k (by omega)
  rw [zJe,zIk (by rw [zG7,hw];omega)]
  split
  ·rename_i e
   rw [zVU,ih]
   constructor
   ·rintro ((h1 | ⟨c,h1,h2,h3⟩) | h1)
    ·exact .inl h1
    ·exact .inr ⟨c,by omega,h2,h3⟩
    ·exact .inr ⟨k,by omega,e.symm,h1⟩
   ·rintro (h1 | ⟨c,h1,h2,h3⟩)
    ·exact .inl (.inl h1)
    ·obtain rfl:c=k:=by omega
     exact .inr h3
  ·rename_i e
   rw [ih]
   refine or_congr Iff.rfl ⟨fun ⟨c,h1,h2,h3⟩=>⟨c,by omega,h2,h3⟩,fun ⟨c,h1,h2,h3⟩=>⟨c,?_,h2,h3⟩⟩
   by_cases hc:c=k
   ·subst hc;exact absurd h2.symm e
   ·omega
theorem zRT {now:List Int} {h:Nat} (hh:h<10) {j:Nat} {v:Int}:∀ (l:List Nat) {w:List Int},w.length=80→(v≤(nxtH now h w l).getD j 0↔v≤w.getD j 0∨∃ o∈l,∃ c,c<8∧j=h*8+c∧v≤now.getD (o*8+c) 0)
 | [],w,hw=>⟨.inl,fun h=>h.elim id fun ⟨o,h,_⟩=>absurd h List.not_mem_nil⟩
 | o :: l,w,hw=>by
  have ih:=zRT (now:=now) hh (j:=j) (v:=v) l (w:=nxtR now h o w 8) (by rw [zG7,hw])
  show v≤(nxtH now h (nxtR now h o w 8) l).getD j 0↔_
  rw [ih,zQo hw hh 8 (Nat.le_refl _)]
  constructor
  ·rintro ((h1 | h1) | ⟨o2,h1,h2⟩)
   ·exact .inl h1
   ·exact .inr ⟨o,List.mem_cons_self,h1⟩
   ·exact .inr ⟨o2,List.mem_cons_of_mem _ h1,h2⟩
  ·rintro (h1 | ⟨o2,h1,h2⟩)
   ·exact .inl (.inl h1)
   ·rcases List.mem_cons.1 h1 with e | h3
    ·subst e;exact .inl (.inr h2)
    ·exact .inr ⟨o2,h3,h2⟩
theorem zN5 {n:Nw} {now:List Int} (hw:now.length=80) {j:Nat} {v:Int}:∀ k,k≤10→(v≤(nxtN n now k).getD j 0↔v≤now.getD j 0∨∃ h,h<k∧∃ o∈zHA n h n.h.toNat,∃ c,c<8∧j=h*8+c∧v≤now.getD (o*8+c) 0)
 | 0,_=>⟨.inl,fun h=>h.elim id fun ⟨c,h,_⟩=>absurd h (Nat.not_lt_zero c)⟩
 | k + 1,hk=>by
  have ih:=zN5 (n:=n) hw (j:=j) (v:=v) k (by omega)
  rw [zJB,zRT (by omega) _ (by rw [zIt,hw]),ih]
  constructor
  ·rintro ((h1 | ⟨h,h1,h2⟩) | h2)
   ·exact .inl h1
   ·exact .inr ⟨h,by omega,h2⟩
   ·exact .inr ⟨k,by omega,h2⟩
  ·rintro (h1 | ⟨h,h1,h2⟩)
   ·exact .inl (.inl h1)
   ·by_cases e:h=k
    ·subst e;exact .inr h2
    ·exact .inl (.inr ⟨h,by omega,h2⟩)
theorem zNZ {n:Nw} (ho:NwOk n) {w:List Int} (hw:w.length=80) {h c:Nat} (hh:h<n.h.toNat) (hc:c<8) {v:Int}:v≤(zCs n w).getD (h*8+c) 0↔v≤w.getD (h*8+c) 0∨∃ o∈zHA n h n.h.toNat,v≤w.getD (o*8+c) 0:=by
 have hH:=ho.h
 unfold zCs
 rw [zN5 hw _ (by omega)]
 refine or_congr Iff.rfl ⟨fun ⟨h2,h3,o,h4,c2,h5,h6,h7⟩=>?_,fun ⟨o,h1,h2⟩=>⟨h,hh,o,h1,c,hc,rfl,h2⟩⟩
 obtain rfl:h2=h:=by omega
 obtain rfl:c2=c:=by omega
 exact ⟨o,h4,h7⟩
theorem zR8 {n:Nw} (ho:NwOk n) {w:List Int} (hw:w.length=80) {j:Nat} (hj:n.h.toNat*8≤j):(zCs n w).getD j 0=w.getD j 0:=by
 have hH:=ho.h
 have key:∀ v:Int,v≤(zCs n w).getD j 0↔v≤w.getD j 0:=fun v=>by
  unfold zCs
  rw [zN5 hw _ (by omega)]
  refine ⟨fun h=>h.elim id fun ⟨h2,h3,o,h4,c2,h5,h6,h7⟩=>?_,.inl⟩
  omega
 have h1:=(key _).1 (Int.le_refl _)
 have h2:=(key _).2 (Int.le_refl _)
 omega
theorem zHq {n:Nw} {cs:List (Int×Int)} (ho:NwOk n) {j:Nat} (hj:n.h.toNat*8≤j):∀ e,(zBc n cs e).getD j 0=(zBc n cs 0).getD j 0
 | 0=>rfl
 | e+1=>by
  show (zCs n (zBc n cs e)).getD j 0=_
  rw [zR8 ho (zBH e) hj,zHq ho hj e]
theorem zQY {a b:List Int} (hl:a.length=b.length) (h:∀ j,j<a.length→a.getD j 0=b.getD j 0):a=b :=
 List.ext_getElem hl fun j h1 h2=>by have:=h j h1;rwa [zAB h1,zAB h2] at this
end Go.Eng
namespace Go.Eng
open Go Go.Proofs
theorem zMw {p:Nat→Bool} {k:Nat} {x:Int}:x∈zCZ p k↔∃ i:Nat,i<k∧p i=true∧x=i:=by
 simp only [zCZ,List.mem_map,List.mem_filter,List.mem_range]
 exact ⟨fun ⟨i,⟨h1,h2⟩,h3⟩=>⟨i,h1,h2,h3.symm⟩,fun ⟨i,h1,h2,h3⟩=>⟨i,⟨h1,h2⟩,h3.symm⟩⟩
def zZI (n:Nw) (A B:List (List Bool)) (h:Nat):Bool:=(List.range n.n.length).all fun i=>zWQ n A h i==zWQ n B h i
def zXN (n:Nw) (A B:List (List Bool)):Bool:=(List.range n.h.toNat).all fun h=>zZI n A B h
theorem zWw {n:Nw} {A B:List (List Bool)} {w v:List Int} (ho:NwOk n) (hA:RelK n A w) (hB:RelK n B v) (hr:∀ j,n.h.toNat*8≤j→w.getD j 0=v.getD j 0):zXN n A B=decide (w=v):=by
 rw [Bool.eq_iff_iff,decide_eq_true_eq]
 constructor
 ·intro h
  have hh:∀ a i,a<n.h.toNat→i<n.n.length→hld n w a i=hld n v a i:=fun a i ha hi=>by
   have h1:=List.all_eq_true.1 (List.all_eq_true.1 h a (List.mem_range.2 ha)) i (List.mem_range.2 hi)
   rw [beq_iff_eq,zNL ho hA ha hi,zNL ho hB ha hi] at h1
   exact h1
  refine zQY (by rw [hA.wl,hB.wl]) fun j hj=>?_
  by_cases hj2:n.h.toNat*8≤j
  ·exact hr j hj2
  ·have hc:j % 8<8:=Nat.mod_lt _ (by omega)
   have ha:j / 8<n.h.toNat:=by omega
   have he:j / 8*8+j % 8=j:=by omega
   have h1:=hA.at_ (j / 8) (j % 8) ha hc
   have h2:=hB.at_ (j / 8) (j % 8) ha hc
   rw [he] at h1 h2
   rcases h1 with h1 | ⟨i,g1,g2,g3,_⟩
   ·rcases h2 with h2 | ⟨k,q1,q2,q3,_⟩
    ·rw [h1,h2]
    ·have h3:=hh (j / 8) k ha q1
     simp only [hld,q2,Int.toNat_natCast,he,q3,h1,decide_eq_decide,iff_true] at h3
     omega
   ·have h3:=hh (j / 8) i ha g1
    simp only [hld,g2,Int.toNat_natCast,he,g3,decide_eq_decide,true_iff] at h3
    rw [g3,h3]
 ·rintro rfl
  refine List.all_eq_true.2 fun a ha=>List.all_eq_true.2 fun i hi=>?_
  rw [beq_iff_eq,zNL ho hA (List.mem_range.1 ha) (List.mem_range.1 hi),zNL ho hB (List.mem_range.1 ha) (List.mem_range.1 hi)]
theorem zMk {n:Nw} (ho:NwOk n) {h j:Nat} (hj:(h+1)*8≤j):∀ (cs:List (Int×Int)) {w:List Int},(∀ c∈cs,0≤c.1∧c.1<n.n.length)→(begH n h w cs).getD j 0=w.getD j 0
 | [],w,_=>rfl
 | c :: cs,w,hc=>by
  have jV:=hc c List.mem_cons_self
  have h8:=ho.nl.2
  have hf:=zBM ho c.1.toNat (by omega)
  show (begH n h (begC n h w c) cs).getD j 0=_
  rw [zMk ho hj cs fun d hd=>hc d (List.mem_cons_of_mem _ hd),begC]
  split
  ·unfold zPr
   rw [zDe,if_neg (by omega)]
  ·rfl
theorem zFB {n:Nw} {cs:List (Int×Int)} (ho:CrW n cs) {j:Nat}:∀ k,k*8≤j→(begN n cs k).getD j 0=(List.replicate 80 (-1:Int)).getD j 0
 | 0,_=>rfl
 | k+1,h=>by
  rw [zG4,zMk ho.nw h cs fun c hc=>(ho.cs c hc).1]
  exact zFB ho k (by omega)
theorem zXt {n:Nw} {cs ds:List (Int×Int)} (ho:CrW n cs) (hd:CrW n ds) (i k:Nat):zXN n (zVd n cs i) (zVd n ds k)=decide (zBc n cs i=zBc n ds k) :=
 zWw ho.nw (zJb ho i) (zJb hd k) fun j hj=>by
  rw [zHq ho.nw hj,zHq hd.nw hj k]
  show (begN n cs n.h.toNat).getD j 0=(begN n ds n.h.toNat).getD j 0
  rw [zFB ho _ hj,zFB hd _ hj]
end Go.Eng
set_option maxHeartbeats 1000000
namespace Go.Eng
open Go
def hoL (n:Nw) (cs:List (Int×Int)) (k h:Nat):List Int:=zCZ (hld n (zBc n cs k) h) n.n.length
theorem zVI {n:Nw} {cs:List (Int×Int)} {k h:Nat}:(hoL n cs k h).length≤n.n.length:=zGS
end Go.Eng
