/- For all numbers and cries the law NewsEvenings ends in true: from evening to evening no j3 j4 an earlier notice, all settles when it is told, and gaps are there as told; without conditions. -/
import Derived.Test.YtppbomajegnkeaaGreatPf
import Derived.Test.YtppbomajegnkeaaGreatPd
import Derived.Test.YtppbomajegnkeaaGreatPe
set_option linter.unusedVariables false
set_option linter.unusedSimpArgs false
set_option linter.unusedSectionVars false
set_option maxRecDepth 10000
set_option maxHeartbeats 4000000
namespace Go.Eng
open Go Go.Proofs
abbrev hdV (w:List Int):PV := .agg (zAV w 80)
def zP7 (w:List Int) (i:Nat) (x:Int):List Int:=w.set i (max (w.getD i 0) x)
theorem zIj {w:List Int} {i:Nat} {x:Int}:(zP7 w i x).length=w.length:=by simp [zP7]
def begC (n:Nw) (h:Nat) (w:List Int) (c:Int×Int):List Int:=if has (n.s.getD c.2.toNat []) h=true then zP7 w (h*8+((zAj n).getD c.1.toNat 0).toNat) c.1 else w
def begH (n:Nw) (h:Nat) (w:List Int) (cs:List (Int×Int)):List Int:=cs.foldl (begC n h) w
def begN (n:Nw) (cs:List (Int×Int)) (h:Nat):List Int:=(List.range h).foldl (fun w h=>begH n h w cs) (List.replicate 80 (-1))
def nxtR (now:List Int) (h o:Nat) (w:List Int) (k:Nat):List Int:=(List.range k).foldl (fun w i=>zP7 w (h*8+i) (now.getD (o*8+i) 0)) w
def nxtH (now:List Int) (h:Nat) (w:List Int) (l:List Nat):List Int:=l.foldl (fun w o=>nxtR now h o w 8) w
def nxtN (n:Nw) (now:List Int) (h:Nat):List Int:=(List.range h).foldl (fun w h=>nxtH now h w (zHi n h n.h.toNat)) now
def zOl (n:Nw) (cs:List (Int×Int)):List Int:=begN n cs n.h.toNat
def zCg (n:Nw) (now:List Int):List Int:=nxtN n now n.h.toNat
def zAU (n:Nw) (cs:List (Int×Int)):Nat→List Int
 | 0=>zOl n cs
 | k+1=>zCg n (zAU n cs k)
theorem zTz {n:Nw} {h:Nat} {w:List Int} {c:Int×Int}:(begC n h w c).length=w.length:=by unfold begC;split<;>simp [zIj]
theorem zLl {n:Nw} {h:Nat}:∀ {cs:List (Int×Int)} {w:List Int},(begH n h w cs).length=w.length
 | [],w=>rfl
 | c::cs,w=>by
  show (begH n h (begC n h w c) cs).length=_
  rw [zLl,zTz]
theorem zID {n:Nw} {cs:List (Int×Int)} {h:Nat}:begN n cs (h+1)=begH n h (begN n cs h) cs:=by
 simp only [begN,List.range_succ,List.foldl_append,List.foldl_cons,List.foldl_nil]
theorem zK9 {n:Nw} {cs:List (Int×Int)}:∀ h,(begN n cs h).length=80
 | 0=>by simp [begN]
 | h+1=>by rw [zID,zLl];exact zK9 h
theorem zQN {n:Nw} {h:Nat} {w:List Int} {cs:List (Int×Int)} {i:Nat} (hi:i<cs.length):begH n h w (cs.take (i+1))=begC n h (begH n h w (cs.take i)) (cs.getD i default):=zGy hi
theorem zJe {now w:List Int} {h o k:Nat}:nxtR now h o w (k+1)=zP7 (nxtR now h o w k) (h*8+k) (now.getD (o*8+k) 0):=by
 simp only [nxtR,List.range_succ,List.foldl_append,List.foldl_cons,List.foldl_nil]
theorem zGY {now w:List Int} {h o:Nat}:∀ k,(nxtR now h o w k).length=w.length
 | 0=>rfl
 | k+1=>by rw [zJe,zIj];exact zGY k
theorem zLz {now:List Int} {h:Nat}:∀ {l:List Nat} {w:List Int},(nxtH now h w l).length=w.length
 | [],_=>rfl
 | o::l,w=>by
  show (nxtH now h (nxtR now h o w 8) l).length=_
  rw [zLz,zGY]
theorem zJD {n:Nw} {now:List Int} {h:Nat}:nxtN n now (h+1)=nxtH now h (nxtN n now h) (zHi n h n.h.toNat):=by
 simp only [nxtN,List.range_succ,List.foldl_append,List.foldl_cons,List.foldl_nil]
theorem zIa {n:Nw} {now:List Int}:∀ h,(nxtN n now h).length=now.length
 | 0=>rfl
 | h+1=>by rw [zJD,zLz];exact zIa h
theorem zRM {now:List Int} {h:Nat} {w:List Int} {l:List Nat} {i:Nat} (hi:i<l.length):nxtH now h w (l.take (i+1))=nxtR now h (l.getD i 0) (nxtH now h w (l.take i)) 8:=zGy hi
theorem zPa {n:Nw} {cs:List (Int×Int)}:(zOl n cs).length=80:=zK9 _
theorem zQs {n:Nw} {w:List Int} (h:w.length=80):(zCg n w).length=80:=by rw [zCg,zIa,h]
theorem zBr {n:Nw} {cs:List (Int×Int)}:∀ k,(zAU n cs k).length=80
 | 0=>zPa
 | k+1=>zQs (zBr k)
theorem zIv {F:List Int} {i:Nat} {a:Int} (hF:F.length=8) (hi:i<8) (ha : -1≤a∧a<i) (j:Nat):(zMA F i a).getD j 0=if j=i then (if a = -1 then (i:Int) else F.getD a.toNat 0) else F.getD j 0:=by
 unfold zMA
 by_cases hj:j=i
 ·subst hj
  rw [if_pos rfl]
  split
  ·rw [zDA,if_pos ⟨rfl,by omega⟩]
  ·rw [zDA,if_pos ⟨rfl,by simp;omega⟩,zDA,if_neg (by omega)]
 ·rw [if_neg hj]
  split
  ·rw [zDA,if_neg (fun h=>hj h.1.symm)]
  ·rw [zDA,if_neg (fun h=>hj h.1.symm),zDA,if_neg (fun h=>hj h.1.symm)]
theorem zNQ {n:Nw} (ho:NwOk n):∀ i,i≤n.n.length→∀ j,j<i→0≤(zOM n.n i).getD j 0∧(zOM n.n i).getD j 0≤j
 | 0,_,j,hj=>absurd hj (Nat.not_lt_zero j)
 | i + 1,hi,j,hj=>by
  have h8:=ho.nl.2
  have ha:=ho.na i (by omega)
  rw [zOM,zIv (zG9 i) (by omega) ha]
  split
  ·subst j
   split
   ·omega
   ·have:=zNQ ho i (by omega) ((n.n.getD i default).1.toNat) (by omega)
    omega
  ·exact zNQ ho i (by omega) j (by omega)
theorem zB7 {n:Nw} (ho:NwOk n) (j:Nat) (hj:j<n.n.length):0≤(zAj n).getD j 0∧(zAj n).getD j 0≤j:=zNQ ho _ (Nat.le_refl _) j hj
theorem f100 (n:Nw) (cs:List (Int×Int)) (ho:CrW n cs):FG 100 [zDN n cs] (hdV (zOl n cs)):=by
 have hb:=ho.nw.h
 have hn:=ho.nw
 have yO:=ho.len
 refine zAf Tryz.f100 ?_
 refine zAd 1<|zAa<|zAd 1<|zAa<|zAh<|zAd 1<|zAa<|zAk 0 ?_
 refine zAz (fun (h,w)=>h≤10∧w.length=80∧∀ j,j<h*8→w.getD j 0 = -1) (fun (h,w)=>[(3,.box (hdV w)),(11,I (h:Nat))]) (fun (h,_)=>10-h) ((0:Nat),List.replicate 80 0) ⟨by omega,rfl,fun j h=>by omega⟩ fun (h,w) ⟨hh,hw,ha⟩=>?_
 by_cases wP:h<10
 ·refine zAd 1<|zAa<|zAh<|zBa ((↑h:Int)<10) (by omega)<|zAl<|zAh<|zAk 1<|zAd 2<|zAa<|zAd 1<|zAa<|zAk 2 ?_
  refine zAz (fun (i,v)=>i≤8∧v.length=80∧∀ j,j<h*8+i→v.getD j 0 = -1) (fun (i,v)=>[(3,.box (hdV v)),(14,I (i:Nat))]) (fun (i,_)=>8-i) ((0:Nat),w) ⟨by omega,hw,fun j h=>ha j (by omega)⟩ fun (i,v) ⟨hi,hv,hav⟩=>?_
  by_cases yT:i<8
  ·refine zAd 1<|zAa<|zAh<|zBa ((↑i:Int)<8) (by omega)<|zAl<|zAh<|zAk 3<|zAd 2<|zAa<|zAg<|zAc 2<|S_a [(2,.ob)] (ap ((by exact zAu (by omega)):decide (h<10)=true) an)<|S_a [(2,.ob)] (ap ((by exact zAu (by omega)):decide (i<8)=true) an)<|S_a [(7,.root ((PV.agg (zAV (v.set (h*8+i) (-1)) 80)).box) true)] (ap (zP4 (zKq (q:=(PV.agg (zAV v 80)).box) (xs:=[PV.agg (zAV v 80)]) (x:=PV.agg (zAV v 80)) (y:=PV.agg (zAV (v.set (h*8+i) (-1)) 80)) (q':=(PV.agg (zAV (v.set (h*8+i) (-1)) 80)).box) rfl (zNo (F:=v) (m:=80) (j:=h*8+i) (u:=-1) (by first | rfl | exact zB1 (by kernel_rfl) | exact zB2 (by kernel_rfl) | exact zDL (by kernel_rfl) (by kernel_rfl) | exact zDm (by kernel_rfl) | exact zDS (by kernel_rfl) (by kernel_rfl) | exact zDD (by kernel_rfl) | (simp;done)) (by omega) (by omega)) rfl (hb:=zNF (F:=v) (m:=80) (j:=h*8+i) (by first | rfl | exact zB1 (by kernel_rfl) | exact zB2 (by kernel_rfl) | exact zDL (by kernel_rfl) (by kernel_rfl) | exact zDm (by kernel_rfl) | exact zDS (by kernel_rfl) (by kernel_rfl) | exact zDD (by kernel_rfl) | (simp;done)) (by omega))) rfl:zBS (PV.agg (zAV v 80)).box [] 0 (0+(↑h:Int).toNat*(fun x=>x.size) Tryz.prog.types[128]+(↑i:Int).toNat*(fun x=>x.size) Tryz.prog.types[3]) (I (-1)).cells=some (PV.agg (zAV (v.set (h*8+i) (-1)) 80)).box∧zAP (PV.agg (zAV v 80)).box (PV.agg (zAV (v.set (h*8+i) (-1)) 80)).box []=true) an)<|zAa<|zAg<|S_a [(1,.v (I (↑(i+1):Int)))] (ap (wrN i) an)<|zAc 1<|zAa ?_
   refine ⟨(i+1,v.set (h*8+i) (-1)),⟨by omega,by simpa using hv,fun j hj=>?_⟩,by simp only;omega,by kernel_rfl,by kernel_rfl⟩
   rw [zDA]
   split
   ·rfl
   ·exact hav j (by omega)
  ·refine zAd 1<|zAa<|zAh<|zA0 ((↑i:Int)<8) (by omega)<|zAL 2<|zAg<|S_a [(1,.v (I (↑(h+1):Int)))] (ap (wrN h) an)<|zAc 1<|zAa ?_
   exact ⟨(h+1,v),⟨by omega,hv,fun j hj=>hav j (by omega)⟩,by simp only;omega,by kernel_rfl,by kernel_rfl⟩
 ·have hw0:w=List.replicate 80 (-1):=by
   refine List.ext_getElem (by simp [hw]) fun j h1 h2=>?_
   have:=ha j (by omega)
   rw [zAA h1] at this
   rw [this,List.getElem_replicate]
  clear ha
  have hw0':begN n cs 0=w:=by rw [hw0];rfl
  clear hw0
  refine zAd 1<|zAa<|zAh<|zA0 ((↑h:Int)<10) (by omega)<|zAL 0<|zAd 3<|zAa<|zAh<|zAd 6<|zAa<|zAk 4 ?_
  refine zAz (fun (h,v)=>h≤n.h.toNat∧v=begN n cs h) (fun (h,v)=>[(3,.box (hdV v)),(30,I (h:Nat))]) (fun (h,_)=>n.h.toNat-h) ((0:Nat),w) ⟨by omega,hw0'.symm⟩ fun (h,v) ⟨hh,hv⟩=>?_
  have jx:v.length=80:=by rw [hv];exact zK9 h
  by_cases wP:(h:Int)<n.h
  ·have yK:=zID (n:=n) (cs:=cs) (h:=h)
   rw [← hv] at yK
   refine zAd 1<|zAa<|zAh<|zBa ((↑h:Int)<n.h) (by omega)<|zAl<|zAh<|zAk 5<|zAd 2<|zAa<|zAd 4<|S_a [(0,.n cs.length)] (ap (lnS prV cs) an)<|zAc 1<|zAa<|zAk 6 ?_
   refine zAz (fun (i,q)=>i≤cs.length∧q=begH n h v (cs.take i)) (fun (i,q)=>[(3,.box (hdV q)),(38,I (i:Nat))]) (fun (i,_)=>cs.length-i) ((0:Nat),v) ⟨by omega,rfl⟩ fun (i,q) ⟨hi,hq⟩=>?_
   have qr:q.length=80:=by rw [hq,zLl];exact jx
   by_cases yT:i<cs.length
   ·have hci:=zCk (d:=default) ho.cs i yT
    have yf:=zQN (n:=n) (h:=h) (w:=v) yT
    rw [← hq] at yf
    have hfb:=zB7 hn (cs.getD i default).1.toNat (by omega)
    have ud:=hn.nl
    have yx:=hci.2
    have vX:0≤(cs.getD i default).1∧(cs.getD i default).1<8:=by omega
    have LG:((zAj n).getD (cs.getD i default).1.toNat 0).toNat<8:=by have:=hn.nl;omega
    clear yK hv hq
    refine zAd 1<|zAa<|zAh<|zBa ((↑i:Int)<(↑cs.length:Int)) (by omega)<|zAl<|zAh<|zAk 7<|zAh<|zAg<|S_a [(2,.v (PV.agg [I (cs.getD i default).fst,I (cs.getD i default).snd]))] (ap (zDh default (by omega):(List.map prV cs)[i]? = some (PV.agg [I (cs.getD i default).fst,I (cs.getD i default).snd])) an)<|zAc 3<|zAa<|zAd 4<|S_a [(9,.ret (PV.bool (has (n.s.getD (cs.getD i default).snd.toNat []) (↑h:Int))) [])] (ap (f140 n (prs cs) (List.map pr2 n.l) (zAj n) (zBl n) (by omega) ((↑h:Int)) ((cs.getD i default).snd) (by omega)) an)<|zAa<|zFM (has (n.s.getD (cs.getD i default).snd.toNat []) (↑h:Int)) (fun k0=>(zAd 5<|S_a [(0,.ob),(1,.ob),(0,.v ((I ((zAj n).getD (cs.getD i default).fst.toNat 0)).ref))] (ap ((by exact zAu (by omega)):decide (0≤(cs.getD i default).fst)=true)<|ap ((by exact zAu (by omega)):decide ((cs.getD i default).fst.toNat<8)=true)<|ap (zGn (F:=zAj n) (m:=8) (j:=(cs.getD i default).fst.toNat) (by omega):zCl (PV.agg (zAV (zAj n) 8)).ref ((cs.getD i default).fst.toNat*(fun x=>x.size) Tryz.prog.types[3]) none=some (I ((zAj n).getD (cs.getD i default).fst.toNat 0)).ref) an)<|zAc 2<|zAa<|zAg<|zAc 4<|S_a [(2,.ob)] (ap ((by exact zAu (by omega)):decide (h<10)=true) an)<|S_a [(0,.ob),(1,.ob)] (ap ((by exact zAu (by omega)):decide (0≤(zAj n).getD (cs.getD i default).fst.toNat 0)=true)<|ap ((by exact zAu (by omega)):decide (((zAj n).getD (cs.getD i default).fst.toNat 0).toNat<8)=true) an)<|S_a [(0,.cs true ([I (q.getD (h*8+((zAj n).getD (cs.getD i default).fst.toNat 0).toNat) 0)]))] (ap (zC8 (q:=(PV.agg (zAV q 80)).box) (xs:=[PV.agg (zAV q 80)]) (x:=PV.agg (zAV q 80)) rfl rfl (zEV (F:=q) (m:=80) (j:=h*8+((zAj n).getD (cs.getD i default).fst.toNat 0).toNat) (by first | rfl | exact zB1 (by kernel_rfl) | exact zB2 (by kernel_rfl) | exact zDL (by kernel_rfl) (by kernel_rfl) | exact zDm (by kernel_rfl) | exact zDS (by kernel_rfl) (by kernel_rfl) | exact zDD (by kernel_rfl) | (simp;done)) (by omega)):zAr 3 (PV.agg (zAV q 80)).box [] 0 (0+(↑h:Int).toNat*(fun x=>x.size) Tryz.prog.types[128]+((zAj n).getD (cs.getD i default).fst.toNat 0).toNat*(fun x=>x.size) Tryz.prog.types[3]) 1=some (true,[I (q.getD (h*8+((zAj n).getD (cs.getD i default).fst.toNat 0).toNat) 0)])) an)<|zAc 3<|S_a [(9,.ret (I (max (q.getD (h*8+((zAj n).getD (cs.getD i default).fst.toNat 0).toNat) 0) (cs.getD i default).fst)) [])] (ap (f165 (q.getD (h*8+((zAj n).getD (cs.getD i default).fst.toNat 0).toNat) 0) ((cs.getD i default).fst)) an)<|S_a [(2,.ob)] (ap ((by exact zAu (by omega)):decide (h<10)=true) an)<|S_a [(0,.ob),(1,.ob)] (ap ((by exact zAu (by omega)):decide (0≤(zAj n).getD (cs.getD i default).fst.toNat 0)=true)<|ap ((by exact zAu (by omega)):decide (((zAj n).getD (cs.getD i default).fst.toNat 0).toNat<8)=true) an)<|S_a [(8,.root ((PV.agg (zAV (q.set (h*8+((zAj n).getD (cs.getD i default).fst.toNat 0).toNat) (max (q.getD (h*8+((zAj n).getD (cs.getD i default).fst.toNat 0).toNat) 0) (cs.getD i default).fst)) 80)).box) true)] (ap (zP4 (zKq (q:=(PV.agg (zAV q 80)).box) (xs:=[PV.agg (zAV q 80)]) (x:=PV.agg (zAV q 80)) (y:=PV.agg (zAV (q.set (h*8+((zAj n).getD (cs.getD i default).fst.toNat 0).toNat) (max (q.getD (h*8+((zAj n).getD (cs.getD i default).fst.toNat 0).toNat) 0) (cs.getD i default).fst)) 80)) (q':=(PV.agg (zAV (q.set (h*8+((zAj n).getD (cs.getD i default).fst.toNat 0).toNat) (max (q.getD (h*8+((zAj n).getD (cs.getD i default).fst.toNat 0).toNat) 0) (cs.getD i default).fst)) 80)).box) rfl (zNo (F:=q) (m:=80) (j:=h*8+((zAj n).getD (cs.getD i default).fst.toNat 0).toNat) (u:=max (q.getD (h*8+((zAj n).getD (cs.getD i default).fst.toNat 0).toNat) 0) (cs.getD i default).fst) (by first | rfl | exact zB1 (by kernel_rfl) | exact zB2 (by kernel_rfl) | exact zDL (by kernel_rfl) (by kernel_rfl) | exact zDm (by kernel_rfl) | exact zDS (by kernel_rfl) (by kernel_rfl) | exact zDD (by kernel_rfl) | (simp;done)) (by omega) (by omega)) rfl (hb:=zNF (F:=q) (m:=80) (j:=h*8+((zAj n).getD (cs.getD i default).fst.toNat 0).toNat) (by first | rfl | exact zB1 (by kernel_rfl) | exact zB2 (by kernel_rfl) | exact zDL (by kernel_rfl) (by kernel_rfl) | exact zDm (by kernel_rfl) | exact zDS (by kernel_rfl) (by kernel_rfl) | exact zDD (by kernel_rfl) | (simp;done)) (by omega))) rfl:zBS (PV.agg (zAV q 80)).box [] 0 (0+(↑h:Int).toNat*(fun x=>x.size) Tryz.prog.types[128]+((zAj n).getD (cs.getD i default).fst.toNat 0).toNat*(fun x=>x.size) Tryz.prog.types[3]) (I (max (q.getD (h*8+((zAj n).getD (cs.getD i default).fst.toNat 0).toNat) 0) (cs.getD i default).fst)).cells=some (PV.agg (zAV (q.set (h*8+((zAj n).getD (cs.getD i default).fst.toNat 0).toNat) (max (q.getD (h*8+((zAj n).getD (cs.getD i default).fst.toNat 0).toNat) 0) (cs.getD i default).fst)) 80)).box∧zAP (PV.agg (zAV q 80)).box (PV.agg (zAV (q.set (h*8+((zAj n).getD (cs.getD i default).fst.toNat 0).toNat) (max (q.getD (h*8+((zAj n).getD (cs.getD i default).fst.toNat 0).toNat) 0) (cs.getD i default).fst)) 80)).box []=true) an)<|zAa<|zAg<|S_a [(1,.v (I (↑(i+1):Int)))] (ap (wrN i) an)<|zAc 1<|zAa ?_)) (fun k0=>(zAl<|zAg<|S_a [(1,.v (I (↑(i+1):Int)))] (ap (wrN i) an)<|zAc 1<|zAa ?_))
    ·rw [begC,if_pos k0] at yf
     exact ⟨(i+1,zP7 q (h*8+((zAj n).getD (cs.getD i default).1.toNat 0).toNat) (cs.getD i default).1),⟨by omega,yf.symm⟩,by simp only;omega,by kernel_rfl,by kernel_rfl⟩
    ·rw [begC,if_neg (by rw [k0];simp)] at yf
     exact ⟨(i+1,q),⟨by omega,yf.symm⟩,by simp only;omega,by kernel_rfl,by kernel_rfl⟩
   ·refine zAd 1<|zAa<|zAh<|zA0 ((↑i:Int)<(↑cs.length:Int)) (by omega)<|zAL 6<|zAg<|S_a [(1,.v (I (↑(h+1):Int)))] (ap (wrN h) an)<|zAc 1<|zAa ?_
    rw [List.take_of_length_le (by omega)] at hq
    exact ⟨(h+1,q),⟨by omega,by rw [yK,hq]⟩,by simp only;omega,by kernel_rfl,by kernel_rfl⟩
  ·have e:h=n.h.toNat:=by omega
   subst e
   refine zAd 1<|zAa<|zAh<|zA0 ((↑n.h.toNat:Int)<n.h) (by omega)<|zAL 4<|zAd 2<|zAa<|zAn<|E_a [] an (PV.agg (zAV v 80)) [] ?_ rfl
   rw [hv];rfl
theorem zQy {n:Nw} {h o m:Nat} (ho:o∈zHi n h m):o<m:=by
 simp only [zHi,List.mem_filter,List.mem_range] at ho;exact ho.1
theorem zLx {w:List Int} {o i:Nat} (hi:i<8):((w.drop o).take 8).getD i 0=w.getD (o+i) 0:=by
 simp [List.getD_eq_getElem?_getD,List.getElem?_take,hi]
theorem f101 (n:Nw) (cs:List (Int×Int)) (now:List Int) (ho:NwOk n) (hw:now.length=80):FG 101 [zDN n cs,hdV now] (hdV (zCg n now)):=by
 have hb:=ho.h
 refine zAf Tryz.f101 ?_
 refine zAd 2<|zAa<|zAd 3<|zAa<|zAh<|zAd 6<|zAa<|zAk 0 ?_
 refine zAz (fun (h,v)=>h≤n.h.toNat∧v=nxtN n now h) (fun (h,v)=>[(5,.box (hdV v)),(16,I (h:Nat))]) (fun (h,_)=>n.h.toNat-h) ((0:Nat),now) ⟨by omega,rfl⟩ fun (h,v) ⟨hh,hv⟩=>?_
 have jx:v.length=80:=by rw [hv,zIa];exact hw
 by_cases wP:(h:Int)<n.h
 ·have yK:=zJD (n:=n) (now:=now) (h:=h)
  rw [← hv] at yK
  have hA:=zT9 n cs h ho wP
  refine zAd 1<|zAa<|zAh<|zBa ((↑h:Int)<n.h) (by omega)<|zAl<|zAh<|zAk 1<|zAd 3<|zAa<|zAd 2<|S_a [(7,.ret (PV.func 169 [] [(zDN n cs).ref,(I (↑h:Int)).ref]) [])] (ap (f116 n cs ((↑h:Int))) an)<|zAa<|zAk 2 ?_
  refine zO8 (t:=21) hA (fun j q=>q=nxtH now h v ((zHi n h n.h.toNat).take j)) (fun q=>[(5,.box (hdV q))]) v rfl (fun j x q hx hq=>?_) (fun q hq=>?_)
  ·rw [List.getElem?_map] at hx
   obtain ⟨o,hm,rfl⟩:=Option.map_eq_some_iff.1 hx
   have hj:j<(zHi n h n.h.toNat).length:=(List.getElem?_eq_some_iff.1 hm).1
   have hol:o<n.h.toNat:=zQy (List.mem_of_getElem? hm)
   have qr:q.length=80:=by rw [hq,zLz];exact jx
   have yf:=zRM (now:=now) (h:=h) (w:=v) hj
   rw [← hq,show (zHi n h n.h.toNat).getD j 0=o by simp [List.getD_eq_getElem?_getD,hm]] at yf
   clear yK hv hA hq hm hj
   refine zOo ?_
   refine zAg<|zAc 1<|zAa ?_
   refine ⟨rfl,by kernel_rfl,?_⟩
   refine zAk 3<|zAd 1<|S_a [(2,.ob)] (ap ((by exact zAu (by omega)):decide (o<10)=true) an)<|S_a [(0,.cs true (zAV (List.take 8 (List.drop (o*8) now)) 8))] (ap (zC8 (q:=(PV.agg (zAV now 80)).box) (xs:=[PV.agg (zAV now 80)]) (x:=PV.agg (zAV now 80)) rfl rfl (zUu (K:=8) (c:=o*8) (by omega) (by first | rfl | exact zB1 (by kernel_rfl) | exact zB2 (by kernel_rfl) | exact zDD (by kernel_rfl) | (simp;done)) (by omega) (by kernel_rfl)):zAr 3 (PV.agg (zAV now 80)).box [] 0 (0+(↑o:Int).toNat*(fun x=>x.size) Tryz.prog.types[128]) Tryz.prog.types[128].size=some (true,zAV (List.take 8 (List.drop (o*8) now)) 8)) an)<|zAc 1<|zAa<|zAk 4 ?_
   refine zAz (fun (i,p)=>i≤8∧p=nxtR now h o q i) (fun (i,p)=>[(5,.box (hdV p)),(26,I (i:Nat))]) (fun (i,_)=>8-i) ((0:Nat),q) ⟨by omega,rfl⟩ fun (i,p) ⟨hi,hp⟩=>?_
   have uq:p.length=80:=by rw [hp,zGY];exact qr
   by_cases yT:i<8
   ·have yp:=zJe (now:=now) (w:=q) (h:=h) (o:=o) (k:=i)
    rw [← hp,← zLx yT] at yp
    refine zAd 1<|zAa<|zAh<|zBa ((↑i:Int)<8) (by omega)<|zAl<|zAh<|zAk 5<|zAd 1<|S_a [(2,.ob),(0,.v (I ((List.take 8 (List.drop (o*8) now)).getD i 0)))] (ap ((by exact zAu (by omega)):decide (i<8)=true)<|ap (zOq (F:=List.take 8 (List.drop (o*8) now)) (m:=8) (j:=i) (by omega):sub (PV.agg (zAV (List.take 8 (List.drop (o*8) now)) 8)) (i*(fun x=>x.size) Tryz.prog.types[3]) none=some (I ((List.take 8 (List.drop (o*8) now)).getD i 0))) an)<|zAc 2<|zAa<|zAg<|zAc 4<|S_a [(2,.ob)] (ap ((by exact zAu (by omega)):decide (h<10)=true) an)<|S_a [(2,.ob)] (ap ((by exact zAu (by omega)):decide (i<8)=true) an)<|S_a [(0,.cs true ([I (p.getD (h*8+i) 0)]))] (ap (zC8 (q:=(PV.agg (zAV p 80)).box) (xs:=[PV.agg (zAV p 80)]) (x:=PV.agg (zAV p 80)) rfl rfl (zEV (F:=p) (m:=80) (j:=h*8+i) (by first | rfl | exact zB1 (by kernel_rfl) | exact zB2 (by kernel_rfl) | exact zDL (by kernel_rfl) (by kernel_rfl) | exact zDm (by kernel_rfl) | exact zDS (by kernel_rfl) (by kernel_rfl) | exact zDD (by kernel_rfl) | (simp;done)) (by omega)):zAr 5 (PV.agg (zAV p 80)).box [] 0 (0+(↑h:Int).toNat*(fun x=>x.size) Tryz.prog.types[128]+(↑i:Int).toNat*(fun x=>x.size) Tryz.prog.types[3]) 1=some (true,[I (p.getD (h*8+i) 0)])) an)<|zAc 2<|S_a [(9,.ret (I (max (p.getD (h*8+i) 0) ((List.take 8 (List.drop (o*8) now)).getD i 0))) [])] (ap (f165 (p.getD (h*8+i) 0) ((List.take 8 (List.drop (o*8) now)).getD i 0)) an)<|S_a [(2,.ob)] (ap ((by exact zAu (by omega)):decide (h<10)=true) an)<|S_a [(2,.ob)] (ap ((by exact zAu (by omega)):decide (i<8)=true) an)<|S_a [(8,.root ((PV.agg (zAV (p.set (h*8+i) (max (p.getD (h*8+i) 0) ((List.take 8 (List.drop (o*8) now)).getD i 0))) 80)).box) true)] (ap (zP4 (zKq (q:=(PV.agg (zAV p 80)).box) (xs:=[PV.agg (zAV p 80)]) (x:=PV.agg (zAV p 80)) (y:=PV.agg (zAV (p.set (h*8+i) (max (p.getD (h*8+i) 0) ((List.take 8 (List.drop (o*8) now)).getD i 0))) 80)) (q':=(PV.agg (zAV (p.set (h*8+i) (max (p.getD (h*8+i) 0) ((List.take 8 (List.drop (o*8) now)).getD i 0))) 80)).box) rfl (zNo (F:=p) (m:=80) (j:=h*8+i) (u:=max (p.getD (h*8+i) 0) ((List.take 8 (List.drop (o*8) now)).getD i 0)) (by first | rfl | exact zB1 (by kernel_rfl) | exact zB2 (by kernel_rfl) | exact zDL (by kernel_rfl) (by kernel_rfl) | exact zDm (by kernel_rfl) | exact zDS (by kernel_rfl) (by kernel_rfl) | exact zDD (by kernel_rfl) | (simp;done)) (by omega) (by omega)) rfl (hb:=zNF (F:=p) (m:=80) (j:=h*8+i) (by first | rfl | exact zB1 (by kernel_rfl) | exact zB2 (by kernel_rfl) | exact zDL (by kernel_rfl) (by kernel_rfl) | exact zDm (by kernel_rfl) | exact zDS (by kernel_rfl) (by kernel_rfl) | exact zDD (by kernel_rfl) | (simp;done)) (by omega))) rfl:zBS (PV.agg (zAV p 80)).box [] 0 (0+(↑h:Int).toNat*(fun x=>x.size) Tryz.prog.types[128]+(↑i:Int).toNat*(fun x=>x.size) Tryz.prog.types[3]) (I (max (p.getD (h*8+i) 0) ((List.take 8 (List.drop (o*8) now)).getD i 0))).cells=some (PV.agg (zAV (p.set (h*8+i) (max (p.getD (h*8+i) 0) ((List.take 8 (List.drop (o*8) now)).getD i 0))) 80)).box∧zAP (PV.agg (zAV p 80)).box (PV.agg (zAV (p.set (h*8+i) (max (p.getD (h*8+i) 0) ((List.take 8 (List.drop (o*8) now)).getD i 0))) 80)).box []=true) an)<|zAa<|zAg<|S_a [(1,.v (I (↑(i+1):Int)))] (ap (wrN i) an)<|zAc 1<|zAa ?_
    exact ⟨(i+1,_),⟨by omega,yp.symm⟩,by simp only;omega,by kernel_rfl,by kernel_rfl⟩
   ·refine zAd 1<|zAa<|zAh<|zA0 ((↑i:Int)<8) (by omega)<|zAL 4 ?_
    rw [show i=8 by omega] at hp
    exact ⟨by kernel_rfl,p,by rw [yf,hp],by kernel_rfl⟩
  ·rw [List.length_map,List.take_length] at hq
   show W _ _ _ _ _ _ _ _
   refine zAg<|S_a [(1,.v (I (↑(h+1):Int)))] (ap (wrN h) an)<|zAc 1<|zAa ?_
   exact ⟨(h+1,q),⟨by omega,by rw [yK,hq]⟩,by simp only;omega,by kernel_rfl,by kernel_rfl⟩
 ·have e:h=n.h.toNat:=by omega
  subst e
  refine zAd 1<|zAa<|zAh<|zA0 ((↑n.h.toNat:Int)<n.h) (by omega)<|zAL 0<|zAd 2<|zAa<|zAn<|E_a [] an (PV.agg (zAV v 80)) [] ?_ rfl
  rw [hv];rfl
end Go.Eng
set_option maxRecDepth 10000
set_option maxHeartbeats 4000000
namespace Go.Eng
open Go Go.Proofs
def zTQ (n:Nw) (w:List Int) (h i:Nat):Bool:=decide (w.getD (h*8+((zAj n).getD i 0).toNat) 0=i)&&decide ((zBl n).getD i 0≠i)
def zP8 (n:Nw) (w:List Int) (h k:Nat):List (Int×Int):=((List.range k).filter fun i=>zTQ n w h i).map fun (i:Nat)=>((h:Int),(i:Int))
def zUe (n:Nw) (w:List Int) (h:Nat):List (Int×Int):=(List.range h).flatMap fun h=>zP8 n w h n.n.length
def zBB (n:Nw) (w:List Int):List (Int×Int):=zUe n w n.h.toNat
theorem zRE {n:Nw} {w:List Int} {h k:Nat}:zP8 n w h (k+1)=if zTQ n w h k=true then zP8 n w h k++[((h:Int),(k:Int))] else zP8 n w h k:=by
 unfold zP8;rw [List.range_succ,List.filter_append,List.map_append]
 by_cases hn:zTQ n w h k=true
 ·rw [if_pos hn];simp [hn]
 ·rw [if_neg hn];simp [hn]
theorem zM3 {n:Nw} {w:List Int} {h:Nat}:zUe n w (h+1)=zUe n w h++zP8 n w h n.n.length:=by
 unfold zUe;rw [List.range_succ,List.flatMap_append];simp
theorem zN3 {n:Nw} {w:List Int} {h k:Nat}:(zP8 n w h k).length≤k:=by
 unfold zP8;rw [List.length_map];exact Nat.le_trans (List.length_filter_le _ _) (by simp)
theorem zLi {n:Nw} {w:List Int}:∀ h,(zUe n w h).length≤h*n.n.length
 | 0=>by simp [zUe]
 | h+1=>by
  have h1:=zLi (n:=n) (w:=w) h
  have h2:=zN3 (n:=n) (w:=w) (h:=h) (k:=n.n.length)
  rw [zM3,List.length_append,Nat.succ_mul];omega
theorem zGW {n:Nw} {w:List Int} (ho:NwOk n):(zBB n w).length≤80:=by
 have h1:=zLi (n:=n) (w:=w) n.h.toNat
 have h2:=ho.h
 have h3:=ho.nl
 have h4:n.h.toNat*n.n.length≤10*8:=Nat.mul_le_mul (by omega) (by omega)
 unfold zBB;omega
theorem f92 (n:Nw) (cs:List (Int×Int)) (e:Int) (ho:CrW n cs) (he:0≤e∧e≤1000):FG 92 [zDN n cs,I e] (hdV (zAU n cs e.toNat)):=by
 have hn:=ho.nw
 refine zAf Tryz.f92 ?_
 refine zAd 1<|zAa<|zAd 1<|S_a [(5,.ret (hdV (zOl n cs)) [])] (ap (f100 n cs (by omega)) an)<|zAc 2<|zAa<|zAh<|zAd 2<|zAa<|zAk 0 ?_
 refine zAz (fun (k,w)=>k≤e.toNat∧w=zAU n cs k) (fun (k,w)=>[(5,.box (hdV w)),(9,I (k:Nat))]) (fun (k,_)=>e.toNat-k) ((0:Nat),zOl n cs) ⟨by omega,rfl⟩ fun (k,w) ⟨hk,hw⟩=>?_
 have gr:w.length=80:=by rw [hw];exact zBr k
 by_cases v6:(k:Int)<e
 ·refine zAd 1<|zAa<|zAh<|zBa ((↑k:Int)<e) (by omega)<|zAl<|zAh<|zAk 1<|zAg<|zAc 2<|S_a [(7,.ret (hdV (zCg n w)) [])] (ap (f101 n cs w (by omega) (by omega)) an)<|zAc 1<|zAa<|zAg<|S_a [(1,.v (I (↑(k+1):Int)))] (ap (wrN k) an)<|zAc 1<|zAa ?_
  exact ⟨(k+1,zCg n w),⟨by omega,by rw [hw];rfl⟩,by simp only;omega,by kernel_rfl,by kernel_rfl⟩
 ·refine zAd 1<|zAa<|zAh<|zA0 ((↑k:Int)<e) (by omega)<|zAL 0<|zAd 2<|zAa<|zAn<|E_a [] an (PV.agg (zAV w 80)) [] ?_ rfl
  rw [hw,show k=e.toNat by omega]
theorem f91 (n:Nw) (cs:List (Int×Int)) (w:List Int) (ho:NwOk n) (hw:w.length=80):FG 91 [zDN n cs,hdV w] (.own 2 ((zBB n w).map prV)):=by
 have hb:=ho.h
 have ud:=ho.nl
 refine zAf Tryz.f91 ?_
 refine zAd 2<|zAa<|zAd 1<|zAa<|zAh<|zAd 6<|zAa<|zAk 0 ?_
 refine zAz (fun (h,l)=>h≤n.h.toNat∧l=zUe n w h) (fun (h,l)=>[(5,.own 2 (l.map prV)),(13,I (h:Nat))]) (fun (h,_)=>n.h.toNat-h) ((0:Nat),([]:List (Int×Int))) ⟨by omega,rfl⟩ fun (h,l) ⟨hh,hl⟩=>?_
 have qt:l.length≤h*8:=by
  have h1:=zLi (n:=n) (w:=w) h
  rw [← hl] at h1
  exact Nat.le_trans h1 (Nat.mul_le_mul (Nat.le_refl _) (by omega))
 by_cases wP:(h:Int)<n.h
 ·have yK:=zM3 (n:=n) (w:=w) (h:=h)
  rw [← hl] at yK
  refine zAd 1<|zAa<|zAh<|zBa ((↑h:Int)<n.h) (by omega)<|zAl<|zAh<|zAk 1<|zAd 2<|zAa<|zAd 5<|S_a [(0,.n n.n.length)] (ap (lnS ntV n.n) an)<|zAc 1<|zAa<|zAk 2 ?_
  refine zAz (fun (i,m)=>i≤n.n.length∧m=l++zP8 n w h i) (fun (i,m)=>[(5,.own 2 (m.map prV)),(22,I (i:Nat))]) (fun (i,_)=>n.n.length-i) ((0:Nat),l) ⟨by omega,by simp [zP8]⟩ fun (i,m) ⟨hi,hm⟩=>?_
  have hml:m.length≤88:=by
   have:=zN3 (n:=n) (w:=w) (h:=h) (k:=i)
   rw [hm,List.length_append];omega
  by_cases yT:i<n.n.length
  ·have yp:=zRE (n:=n) (w:=w) (h:=h) (k:=i)
   have hfb:=zB7 ho i yT
   have LG:0≤(zAj n).getD i 0∧(zAj n).getD i 0<8:=by omega
   clear yK
   have ju:zTQ n w h i=false→m=l++zP8 n w h (i+1):=fun hg=>by rw [yp,if_neg (by rw [hg];simp)];exact hm
   refine zAd 1<|zAa<|zAh<|zBa ((↑i:Int)<(↑n.n.length:Int)) (by omega)<|zAl<|zAh<|zAk 3<|zAd 2<|zAa<|zAd 5<|S_a [(2,.ob),(0,.v ((I ((zAj n).getD i 0)).ref))] (ap ((by exact zAu (by omega)):decide (i<8)=true)<|ap (zGn (F:=zAj n) (m:=8) (j:=i) (by omega):zCl (PV.agg (zAV (zAj n) 8)).ref (i*(fun x=>x.size) Tryz.prog.types[3]) none=some (I ((zAj n).getD i 0)).ref) an)<|zAc 1<|S_a [(2,.ob)] (ap ((by exact zAu (by omega)):decide (h<10)=true) an)<|S_a [(0,.ob),(1,.ob)] (ap ((by exact zAu (by omega)):decide (0≤(zAj n).getD i 0)=true)<|ap ((by exact zAu (by omega)):decide (((zAj n).getD i 0).toNat<8)=true) an)<|S_a [(0,.cs true ([I (w.getD (h*8+((zAj n).getD i 0).toNat) 0)]))] (ap (zC8 (q:=(PV.agg (zAV w 80)).box) (xs:=[PV.agg (zAV w 80)]) (x:=PV.agg (zAV w 80)) rfl rfl (zEV (F:=w) (m:=80) (j:=h*8+((zAj n).getD i 0).toNat) (by first | rfl | exact zB1 (by kernel_rfl) | exact zB2 (by kernel_rfl) | exact zDL (by kernel_rfl) (by kernel_rfl) | exact zDm (by kernel_rfl) | exact zDS (by kernel_rfl) (by kernel_rfl) | exact zDD (by kernel_rfl) | (simp;done)) (by omega)):zAr 3 (PV.agg (zAV w 80)).box [] 0 (0+(↑h:Int).toNat*(fun x=>x.size) Tryz.prog.types[128]+((zAj n).getD i 0).toNat*(fun x=>x.size) Tryz.prog.types[3]) 1=some (true,[I (w.getD (h*8+((zAj n).getD i 0).toNat) 0)])) an)<|zAc 3<|zLN 37 (w.getD (h*8+((zAj n).getD i 0).toNat) 0=(↑i:Int)) (fun k0=>(zAc 4<|S_a [(2,.ob),(0,.v ((I ((zBl n).getD i 0)).ref))] (ap ((by exact zAu (by omega)):decide (i<8)=true)<|ap (zGn (F:=zBl n) (m:=8) (j:=i) (by omega):zCl (PV.agg (zAV (zBl n) 8)).ref (i*(fun x=>x.size) Tryz.prog.types[3]) none=some (I ((zBl n).getD i 0)).ref) an)<|zAc 4<|zAa<|zDT ((zBl n).getD i 0=(↑i:Int)) (fun k1=>(zAg<|zAc 5<|S_a [(4,.ob),(0,.ob),(0,.yes),(2,.v (PV.own 2 (List.map prV (m++[((↑h:Int),(↑i:Int))]))))] (ap (blz (List.map prV m))<|ap ((by exact zBb (by simp only [List.length_map,zzLn,zA1]<;>omega)):((List.map prV m).length + [PV.agg [I (↑h:Int),I (↑i:Int)]].length).ble zA1=true)<|ap ((by exact zBN (by simp<;>omega)):(0+(List.map prV m).length).beq (List.map prV m).length=true)<|ap ((zA9 (zBP (by kernel_rfl))):PV.own 2 (List.map prV m++[PV.agg [I (↑h:Int),I (↑i:Int)]])=PV.own 2 (List.map prV (m++[((↑h:Int),(↑i:Int))]))) an)<|zAc 1<|zAa<|zAg<|S_a [(1,.v (I (↑(i+1):Int)))] (ap (wrN i) an)<|zAc 1<|zAa ?_)) (fun k1=>(zAl<|zAg<|S_a [(1,.v (I (↑(i+1):Int)))] (ap (wrN i) an)<|zAc 1<|zAa ?_)))) (fun k0=>(zAc 9<|zAa<|zAE<|zAl<|zAg<|S_a [(1,.v (I (↑(i+1):Int)))] (ap (wrN i) an)<|zAc 1<|zAa ?_))
   ·have hg:zTQ n w h i=true:=by simp only [zTQ,decide_eq_true k0,Bool.true_and,decide_eq_true_eq];exact k1
    exact ⟨(i+1,m++[((h:Int),(i:Int))]),⟨by omega,by rw [yp,if_pos hg,hm,List.append_assoc]⟩,by simp only;omega,by kernel_rfl,by kernel_rfl⟩
   ·exact ⟨(i+1,m),⟨by omega,ju (by simp only [zTQ,decide_eq_true k0,Bool.true_and,decide_eq_false_iff_not];exact fun h=>h k1)⟩,by simp only;omega,by kernel_rfl,by kernel_rfl⟩
   ·exact ⟨(i+1,m),⟨by omega,ju (by simp only [zTQ,decide_eq_false k0,Bool.false_and])⟩,by simp only;omega,by kernel_rfl,by kernel_rfl⟩
  ·refine zAd 1<|zAa<|zAh<|zA0 ((↑i:Int)<(↑n.n.length:Int)) (by omega)<|zAL 2<|zAg<|S_a [(1,.v (I (↑(h+1):Int)))] (ap (wrN h) an)<|zAc 1<|zAa ?_
   exact ⟨(h+1,m),⟨by omega,by rw [yK,hm,show i=n.n.length by omega]⟩,by simp only;omega,by kernel_rfl,by kernel_rfl⟩
 ·have e:h=n.h.toNat:=by omega
  subst e
  refine zAd 1<|zAa<|zAh<|zA0 ((↑n.h.toNat:Int)<n.h) (by omega)<|zAL 0<|zAd 1<|S_a [(2,.yes)] (ap ((by exact zBN (by simp<;>omega)):(Nat.beq 0 0&&(List.map prV l).length.beq (List.map prV l).length)=true) an)<|zAa<|zAn<|E_a [(1,.yes),(1,.v (PV.own 2 (List.map prV l)))] (ap (blz (List.map prV l))<|ap ((zA9 zBz):PV.own 2 (List.take (List.map prV l).length (List.drop 0 (List.map prV l)))=PV.own 2 (List.map prV l)) an) (PV.own 2 (List.map prV l)) [] ?_ rfl
  rw [hl];rfl
theorem f22_1 (n:Nw) (cs:List (Int×Int)) (e:Int) (ho:EvOk n cs e):FG 22 [nwV n,prs cs,I e] (.tup [.own 2 ((zBB n (zAU n cs e.toNat)).map prV),I 0]):=by
 have hc:=ho.cr
 have vE:=hc.w
 have hn:=hc.nw
 have he:=ho.ev
 have hw:=zBr (n:=n) (cs:=cs) e.toNat
 refine zAf Tryz.f22 ?_
 refine zAd 3<|zAa<|zAd 3<|S_a [(10,.ret (PV.tup [zDN n cs,I 0]) [])] (ap (f90_1 n cs e (by omega)) an)<|zAc 5<|zAa<|zAh<|zAd 2<|zAa<|zAE<|zAl<|zAd 3<|S_a [(7,.ret (hdV (zAU n cs e.toNat)) [])] (ap (f92 n cs e (by omega) (by omega)) an)<|S_a [(7,.ret (PV.own 2 (List.map prV (zBB n (zAU n cs e.toNat)))) [])] (ap (f91 n cs (zAU n cs e.toNat) (by omega) (by omega)) an)<|zAc 2<|zAa<|zAn<|E_a [(1,.yes),(1,.v (PV.own 2 (List.map prV (zBB n (zAU n cs e.toNat)))))] (ap (blz (List.map prV (zBB n (zAU n cs e.toNat))))<|ap ((zA9 zBz):PV.own 2 (List.take (List.map prV (zBB n (zAU n cs e.toNat))).length (List.drop 0 (List.map prV (zBB n (zAU n cs e.toNat)))))=PV.own 2 (List.map prV (zBB n (zAU n cs e.toNat)))) an) (PV.tup [PV.own 2 (List.map prV (zBB n (zAU n cs e.toNat))),I 0]) [] rfl rfl
def msl (n:Nw) (l:List (Int×Int)):List Int:=(l.filter fun g => !(n.n.getD g.2.toNat default).2).map Prod.fst
theorem zSC {n:Nw} {l:List (Int×Int)} {i:Nat} (hi:i<l.length):msl n (l.take (i+1))=if (n.n.getD (l.getD i default).2.toNat default).2=true then msl n (l.take i) else msl n (l.take i)++[(l.getD i default).1]:=by
 unfold msl;rw [zCO (d:=default) hi,List.filter_append,List.map_append]
 generalize l.getD i default=g
 cases hb:(n.n.getD g.2.toNat default).2
 ·rw [List.filter_cons_of_pos (by rw [hb];rfl)];rfl
 ·rw [List.filter_cons_of_neg (by rw [hb];simp)];simp
theorem zVH {n:Nw} {w:List Int} {g:Int×Int} (hg:g∈zBB n w):∃ h i:Nat,h<n.h.toNat∧i<n.n.length∧g=((h:Int),(i:Int))∧zTQ n w h i=true:=by
 simp only [zBB,zUe,List.mem_flatMap,List.mem_range,zP8,List.mem_map,List.mem_filter] at hg
 obtain ⟨h,hh,i,⟨hi,hb⟩,rfl⟩:=hg
 exact ⟨h,i,hh,hi,rfl,hb⟩
theorem f26_1 (n:Nw) (cs:List (Int×Int)) (e:Int) (ho:EvOk n cs e):FG 26 [nwV n,prs cs,I e] (.tup [.own 1 ((zGE (msl n (zBB n (zAU n cs e.toNat)))).map I),I 0]):=by
 have hn:=ho.cr.nw
 have hZ:=zGW (w:=zAU n cs e.toNat) hn
 have yu:∀ g∈zBB n (zAU n cs e.toNat),0≤g.2∧g.2<n.n.length:=fun g hg=>by
  obtain ⟨h,i,h1,h2,rfl,_⟩:=zVH hg
  simp only;omega
 have h1:=f22_1 n cs e ho
 generalize zBB n (zAU n cs e.toNat)=G at *
 refine zAf Tryz.f26 ?_
 refine zAd 3<|zAa<|zAd 3<|S_a [(10,.ret (PV.tup [PV.own 2 (List.map prV G),I 0]) [])] (ap h1 an)<|zAc 5<|zAa<|zAh<|zAd 2<|zAa<|zAE<|zAl<|zAd 1<|zAa<|zAh<|zAd 1<|S_a [(0,.n G.length)] (ap (lnS prV G) an)<|zAc 1<|zAa<|zAk 0 ?_
 refine zAz (fun (i,l)=>i≤G.length∧l=msl n (G.take i)) (fun (i,l)=>[(10,.own 1 (l.map I)),(25,I (i:Nat))]) (fun (i,_)=>G.length-i) ((0:Nat),([]:List Int)) ⟨by omega,by simp [msl]⟩ fun (i,l) ⟨hi,hl⟩=>?_
 have qt:l.length≤i:=by
  rw [hl,msl,List.length_map]
  exact Nat.le_trans (List.length_filter_le _ _) (by rw [List.length_take];omega)
 by_cases yT:i<G.length
 ·have yf:=zSC (n:=n) yT
  rw [← hl] at yf
  have hgi:=zCk (d:=default) yu i yT
  clear h1 yu
  refine zAd 1<|zAa<|zAh<|zBa ((↑i:Int)<(↑G.length:Int)) (by omega)<|zAl<|zAh<|zAk 1<|zAh<|zAg<|S_a [(2,.ob),(1,.n i)] (ap ((by exact zAu (by simp only [List.length_map,zzLn]<;>omega)):decide (i<(List.map prV G).length)=true)<|ap ((by simp):some (0+i)=some i) an)<|S_a [(0,.cs true ([I (G.getD i default).fst,I (G.getD i default).snd]))] (ap (zC8 (q:=PV.own 2 (List.map prV G)) (xs:=List.map prV G) (x:=PV.agg [I (G.getD i default).fst,I (G.getD i default).snd]) rfl (zDh default (by omega)):zAr 8 (PV.own 2 (List.map prV G)) [] i 0 Tryz.prog.types[108].size=some (true,[I (G.getD i default).fst,I (G.getD i default).snd])) an)<|zAc 2<|zAa<|zAd 4<|S_a [(0,.ob),(1,.v (PV.agg [I (n.n.getD (G.getD i default).snd.toNat default).fst,PV.bool (n.n.getD (G.getD i default).snd.toNat default).snd]))] (ap ((by exact zAu (by omega)):decide (0≤(G.getD i default).snd)=true)<|ap (zDh default (by omega):(List.map ntV n.n)[(G.getD i default).snd.toNat]? = some (PV.agg [I (n.n.getD (G.getD i default).snd.toNat default).fst,PV.bool (n.n.getD (G.getD i default).snd.toNat default).snd])) an)<|zAc 3<|zAa<|zFM (!(n.n.getD (G.getD i default).snd.toNat default).snd) (fun k0=>(zAg<|zAc 4<|S_a [(4,.ob),(0,.ob),(0,.yes),(2,.v (PV.own 1 (List.map I (l++[(G.getD i default).fst]))))] (ap (blz (List.map I l))<|ap ((by exact zBb (by simp only [List.length_map,zzLn,zA1]<;>omega)):((List.map I l).length + [I (G.getD i default).fst].length).ble zA1=true)<|ap ((by exact zBN (by simp<;>omega)):(0+(List.map I l).length).beq (List.map I l).length=true)<|ap ((zA9 (zBP (by kernel_rfl))):PV.own 1 (List.map I l++[I (G.getD i default).fst])=PV.own 1 (List.map I (l++[(G.getD i default).fst]))) an)<|zAc 1<|zAa<|zAg<|S_a [(1,.v (I (↑(i+1):Int)))] (ap (wrN i) an)<|zAc 1<|zAa ?_)) (fun k0=>(zAl<|zAg<|S_a [(1,.v (I (↑(i+1):Int)))] (ap (wrN i) an)<|zAc 1<|zAa ?_))
  ·rw [Bool.not_eq_true'] at k0
   rw [if_neg (by rw [k0];simp)] at yf
   exact ⟨(i+1,l++[(G.getD i default).1]),⟨by omega,yf.symm⟩,by simp only;omega,by kernel_rfl,by kernel_rfl⟩
  ·rw [Bool.not_eq_false'] at k0
   rw [if_pos k0] at yf
   exact ⟨(i+1,l),⟨by omega,yf.symm⟩,by simp only;omega,by kernel_rfl,by kernel_rfl⟩
 ·rw [List.take_of_length_le (by omega)] at hl
  rw [← hl]
  clear h1 yu
  refine zAd 1<|zAa<|zAh<|zA0 ((↑i:Int)<(↑G.length:Int)) (by omega)<|zAL 0<|zAd 1<|S_a [(3,.ob),(1,.v (PV.own 1 (List.map I l))),(2,.ret (PV.own 1 (List.map I (zGE l))) [])] (ap ((by exact zBb (by simp only [List.length_map,zzLn,zA1]<;>omega)):(List.map I l).length.ble (List.map I l).length=true)<|ap ((zA9 zBz):PV.own 1 (List.take (List.map I l).length (List.drop 0 (List.map I l)))=PV.own 1 (List.map I l))<|ap (f97 l (by omega)) an)<|zAc 2<|zAa<|zAn<|E_a [(1,.yes),(1,.v (PV.own 1 (List.map I (zGE l))))] (ap (blz (List.map I (zGE l)))<|ap ((zA9 zBz):PV.own 1 (List.take (List.map I (zGE l)).length (List.drop 0 (List.map I (zGE l))))=PV.own 1 (List.map I (zGE l))) an) (PV.tup [PV.own 1 (List.map I (zGE l)),I 0]) [] rfl rfl
theorem f29_1 (n:Nw) (cs:List (Int×Int)) (k:Nat) (ho:CrOk n cs) (hk:k≤1000) (he:zAU n cs (k+1)=zAU n cs k) (hm:∀ j,j<k→zAU n cs (j+1)≠zAU n cs j):FG 29 [nwV n,prs cs] (.tup [I k,I 0]):=by
 have hn:=ho.nw
 have vE:=ho.w
 have y4:=zPa (n:=n) (cs:=cs)
 refine zAf Tryz.f29 ?_
 refine zAd 3<|zAa<|zAd 2<|S_a [(8,.ret (PV.tup [zDN n cs,I 0]) [])] (ap (f99_1 n cs (by omega)) an)<|zAc 5<|zAa<|zAh<|zAd 2<|zAa<|zAE<|zAl<|zAd 1<|S_a [(5,.ret (hdV (zOl n cs)) [])] (ap (f100 n cs (by omega)) an)<|zAc 3<|zAa<|zAh<|zAd 2<|S_a [(7,.ret (hdV (zCg n (zOl n cs))) [])] (ap (f101 n cs (zOl n cs) (by omega) (by omega)) an)<|zAc 2<|zAa<|zAk 0 ?_
 refine zAz (fun j=>j≤k) (fun (j:Nat)=>[(8,I (j:Nat)),(9,.box (hdV (zAU n cs j))),(10,.box (hdV (zAU n cs (j+1))))]) (fun j=>k-j) (0:Nat) (by omega) fun j hj=>?_
 have vl:=zBr (n:=n) (cs:=cs) j
 have qH:=zBr (n:=n) (cs:=cs) (j+1)
 by_cases hjk:j<k
 ·have hI:=hm j hjk
  refine zAh<|zAd 2<|S_a [(0,.v (PV.bool !decide (zAU n cs (j+1)=zAU n cs j)))] (ap (zRt 80 (by omega) (by omega):zH0 Tryz.prog BinOp.neq 130 (PV.agg (zAV (zAU n cs (j+1)) 80)) (PV.agg (zAV (zAU n cs j) 80))=some (PV.bool !decide (zAU n cs (j+1)=zAU n cs j))) an)<|zAa<|zJl (zAU n cs (j+1)=zAU n cs j) (by omega)<|zAl<|zAh<|zAk 1<|zAd 2<|zAa<|zAg<|zAc 1<|S_a [(1,.v (I (↑(j+1):Int)))] (ap (wrN j) an)<|zAc 1<|zAa<|zAh<|zAd 1<|zAa<|zAg<|zAc 2<|zAa<|zAg<|zAc 2<|S_a [(7,.ret (hdV (zCg n (zAU n cs (j+1)))) [])] (ap (f101 n cs (zAU n cs (j+1)) (by omega) (by omega)) an)<|zAc 1<|zAa ?_
  exact ⟨j+1,by omega,by omega,by kernel_rfl,by kernel_rfl⟩
 ·have e:j=k:=by omega
  subst e
  refine zAh<|zAd 2<|S_a [(0,.v (PV.bool !decide (zAU n cs (j+1)=zAU n cs j)))] (ap (zRt 80 (by omega) (by omega):zH0 Tryz.prog BinOp.neq 130 (PV.agg (zAV (zAU n cs (j+1)) 80)) (PV.agg (zAV (zAU n cs j) 80))=some (PV.bool !decide (zAU n cs (j+1)=zAU n cs j))) an)<|zAa<|zK6 (zAU n cs (j+1)=zAU n cs j) (by omega)<|zAL 0<|zAd 3<|zAa<|zAn<|E_a [] an (PV.tup [I (↑j:Int),I 0]) [] rfl rfl
def zQ3 (n:Nw) (cs:List (Int×Int)) (k:Nat):Int:=(List.range k).foldl (fun a k=>if zBB n (zAU n cs k)=[] then a else (k:Int)+1) 0
theorem zMI {n:Nw} {cs:List (Int×Int)} {k:Nat}:zQ3 n cs (k+1)=if zBB n (zAU n cs k)=[] then zQ3 n cs k else (k:Int)+1:=by
 simp only [zQ3,List.range_succ,List.foldl_append,List.foldl_cons,List.foldl_nil]
theorem f31_1 (n:Nw) (cs:List (Int×Int)) (ho:CrOk n cs):FG 31 [nwV n,prs cs] (.tup [if zBB n (zAU n cs 12)=[] then I (zQ3 n cs 12) else I 0,if zBB n (zAU n cs 12)=[] then I 0 else I 6]):=by
 have hn:=ho.nw
 have vE:=ho.w
 refine zAf Tryz.f31 ?_
 refine zAd 3<|zAa<|zAd 2<|S_a [(8,.ret (PV.tup [zDN n cs,I 0]) [])] (ap (f99_1 n cs (by omega)) an)<|zAc 5<|zAa<|zAh<|zAd 2<|zAa<|zAE<|zAl<|zAd 1<|S_a [(5,.ret (hdV (zOl n cs)) [])] (ap (f100 n cs (by omega)) an)<|zAc 3<|zAa<|zAh<|zAd 1<|zAa<|zAk 0 ?_
 refine zAz (fun k=>k≤12) (fun (k:Nat)=>[(8,I (zQ3 n cs k)),(9,.box (hdV (zAU n cs k))),(22,I (k:Nat))]) (fun k=>12-k) (0:Nat) (by omega) fun k hk=>?_
 have vl:=zBr (n:=n) (cs:=cs) k
 have hgl:=zGW (w:=zAU n cs k) hn
 by_cases v6:k<12
 ·have yp:=zMI (n:=n) (cs:=cs) (k:=k)
  refine zAd 1<|zAa<|zAh<|zBa ((↑k:Int)<12) (by omega)<|zAl<|zAh<|zAk 1<|zAd 2<|zAa<|zAh<|zAd 2<|S_a [(7,.ret (PV.own 2 (List.map prV (zBB n (zAU n cs k)))) [])] (ap (f91 n cs (zAU n cs k) (by omega) (by omega)) an)<|S_a [(0,.n ((zBB n (zAU n cs k)).length))] (ap (lnS prV (zBB n (zAU n cs k))) an)<|zAc 1<|zAa<|zCP ((↑(zBB n (zAU n cs k)).length:Int)>0) (fun k1=>(zAg<|zAc 1<|S_a [(1,.v (I (↑(k+1):Int)))] (ap (wrN k) an)<|zAc 1<|zAa<|zAg<|zAc 2<|S_a [(7,.ret (hdV (zCg n (zAU n cs k))) [])] (ap (f101 n cs (zAU n cs k) (by omega) (by omega)) an)<|zAc 1<|zAa<|zAg<|S_a [(1,.v (I (↑(k+1):Int)))] (ap (wrN k) an)<|zAc 1<|zAa ?_)) (fun k1=>(zAl<|zAg<|zAc 2<|S_a [(7,.ret (hdV (zCg n (zAU n cs k))) [])] (ap (f101 n cs (zAU n cs k) (by omega) (by omega)) an)<|zAc 1<|zAa<|zAg<|S_a [(1,.v (I (↑(k+1):Int)))] (ap (wrN k) an)<|zAc 1<|zAa ?_))
  ·rw [if_neg (by intro h;rw [h] at k1;simp at k1)] at yp
   exact ⟨k+1,by omega,by omega,by rw [yp];kernel_rfl,by kernel_rfl⟩
  ·rw [if_pos (List.eq_nil_of_length_eq_zero (by omega))] at yp
   exact ⟨k+1,by omega,by omega,by rw [yp];kernel_rfl,by kernel_rfl⟩
 ·have e:k=12:=by omega
  subst e
  refine zAd 1<|zAa<|zAh<|zAE<|zAL 0<|zAh<|zAd 2<|S_a [(7,.ret (PV.own 2 (List.map prV (zBB n (zAU n cs 12)))) [])] (ap (f91 n cs (zAU n cs 12) (by omega) (by omega)) an)<|S_a [(0,.n ((zBB n (zAU n cs 12)).length))] (ap (lnS prV (zBB n (zAU n cs 12))) an)<|zAc 1<|zAa<|zCP ((↑(zBB n (zAU n cs 12)).length:Int)>0) (fun k0=>(zAd 2<|zAa<|zAn<|E_a [] an (PV.tup [I 0,I 6]) [] ?_ rfl)) (fun k0=>(zAl<|zAd 3<|zAa<|zAn<|E_a [] an (PV.tup [I (zQ3 n cs 12),I 0]) [] ?_ rfl))
  ·have h:¬ zBB n (zAU n cs 12)=[]:=by intro h;rw [h] at k0;simp at k0
   rw [if_neg h,if_neg h]
  ·have h:zBB n (zAU n cs 12)=[]:=List.eq_nil_of_length_eq_zero (by omega)
   rw [if_pos h,if_pos h]
end Go.Eng
namespace Go.Eng
open Go Go.Proofs
theorem zG2 {n:Nw} (ho:NwOk n) (j:Nat):∀ i,j<i→i≤n.n.length→(zOM n.n i).getD j 0=(zOM n.n (j+1)).getD j 0
 | 0,h,_=>absurd h (Nat.not_lt_zero j)
 | i + 1,h,hi=>by
  have h8:=ho.nl.2
  by_cases hj:j=i
  ·subst hj;rfl
  ·rw [zOM,zIv (zG9 i) (by omega) (ho.na i (by omega)),if_neg hj]
   exact zG2 ho j i (by omega) (by omega)
theorem zRY {n:Nw} (ho:NwOk n) {i:Nat} (hi:i<n.n.length):(zAj n).getD i 0=if (n.n.getD i default).1 = -1 then (i:Int) else (zAj n).getD (n.n.getD i default).1.toNat 0:=by
 have h8:=ho.nl.2
 have ha:=ho.na i hi
 unfold zAj
 rw [zG2 ho i n.n.length hi (Nat.le_refl _),zOM,zIv (zG9 i) (by omega) ha,if_pos rfl]
 split
 ·rfl
 ·rename_i hI
  rw [zG2 ho (n.n.getD i default).1.toNat i (by omega) (by omega),zG2 ho (n.n.getD i default).1.toNat n.n.length (by omega) (Nat.le_refl _)]
def chn (n:Nw) (i j:Nat):Prop:=(zAj n).getD i 0=(zAj n).getD j 0
end Go.Eng
set_option maxRecDepth 10000
set_option maxHeartbeats 4000000
namespace Go.Eng
open Go Go.Proofs
def zM9 (a b:Int) (x:Int×Int):Bool:=decide (x.1=a∧x.2=b∨x.1=b∧x.2=a)
def zWl (n:Nw) (a b:Int):Bool:=n.l.any (zM9 a b)
theorem zT3 {a b:Int} {x:Int×Int}:pr2 x=pr2 (a,b)↔x.1=a∧x.2=b∨x.1=b∧x.2=a:=by
 obtain ⟨c,d⟩:=x
 simp only [pr2,Prod.mk.injEq]
 constructor
 ·rintro ⟨h1,h2⟩
  repeat' split at h1
  all_goals (repeat' split at h2)
  all_goals omega
 ·intro h
  constructor
  ·repeat' split
   all_goals omega
  ·repeat' split
   all_goals omega
theorem zUT {n:Nw} {a b:Int}:zWl n a b=zF7 n a b:=by
 rw [Bool.eq_iff_iff]
 simp only [zWl,zF7,List.any_eq_true,zM9,decide_eq_true_eq,List.mem_map]
 constructor
 ·rintro ⟨x,hx,h⟩;exact ⟨x,hx,zT3.2 h⟩
 ·rintro ⟨x,hx,h⟩;exact ⟨x,hx,zT3.1 h⟩
end Go.Eng
set_option maxRecDepth 10000
set_option maxHeartbeats 4000000
namespace Go.Eng
open Go Go.Proofs
abbrev bls (l:List Bool):PV := .sl (l.map PV.bool)
def kn (K:List (List Bool)) (h i:Nat):Bool:=(K.getD h []).getD i false
structure RelK (n:Nw) (K:List (List Bool)) (w:List Int):Prop where
 len:K.length=n.h.toNat
 row:∀ r∈K,r.length=n.n.length
 wl:w.length=80
 top:∀ h i,h<n.h.toNat→i<n.n.length→kn K h i=true→(i:Int)≤w.getD (h*8+((zAj n).getD i 0).toNat) 0
 at_:∀ h c,h<n.h.toNat→c<8→w.getD (h*8+c) 0 = -1∨∃ i,i<n.n.length∧(zAj n).getD i 0=c∧w.getD (h*8+c) 0=i∧kn K h i=true
def hld (n:Nw) (w:List Int) (h i:Nat):Bool:=decide (w.getD (h*8+((zAj n).getD i 0).toNat) 0=i)
theorem zXr {n:Nw} {K:List (List Bool)} {w:List Int} {h i:Nat} (ho:NwOk n) (hr:RelK n K w) (hh:h<n.h.toNat) (hi:i<n.n.length) (h1:kn K h i=true) (h2:∀ k,k<n.n.length→chn n k i→i<k→kn K h k=false):hld n w h i=true:=by
 have hfb:=zB7 ho i hi
 have ud:=ho.nl.2
 have ht:=hr.top h i hh hi h1
 rcases hr.at_ h ((zAj n).getD i 0).toNat hh (by omega) with h3 | ⟨j,g1,g2,g3,g4⟩
 ·omega
 ·by_cases hj:j=i
  ·subst hj;simpa only [hld,decide_eq_true_eq] using g3
  ·have:=h2 j g1 (by unfold chn;omega) (by omega)
   rw [this] at g4;cases g4
theorem zWI {n:Nw} {K:List (List Bool)} {w:List Int} {h i:Nat} (ho:NwOk n) (hr:RelK n K w) (hh:h<n.h.toNat) (hi:i<n.n.length) (h1:kn K h i=false∨∃ k,k<n.n.length∧chn n k i∧i<k∧kn K h k=true):hld n w h i=false:=by
 have hfb:=zB7 ho i hi
 have ud:=ho.nl.2
 simp only [hld,decide_eq_false_iff_not]
 intro he
 rcases h1 with h1 | ⟨k,g1,g2,g3,g4⟩
 ·rcases hr.at_ h ((zAj n).getD i 0).toNat hh (by omega) with h3 | ⟨j,g1,g2,g3,g4⟩
  ·omega
  ·have:j=i:=by omega
   subst this;rw [h1] at g4;cases g4
 ·have:=hr.top h k hh g1 g4
  unfold chn at g2
  rw [g2] at this;omega
end Go.Eng
set_option maxRecDepth 10000
set_option maxHeartbeats 4000000
namespace Go.Eng
open Go Go.Proofs
def hrB (n:Nw) (h i:Int) (c:Int×Int):Bool:=decide (c.1=i)&&has (n.s.getD c.2.toNat []) h
def zPz (n:Nw) (cs:List (Int×Int)) (h i:Int):Bool:=cs.any (hrB n h i)
end Go.Eng
set_option maxRecDepth 10000
set_option maxHeartbeats 4000000
namespace Go.Eng
open Go Go.Proofs
abbrev lsB (l:List Bool):PV := .own 1 (l.map PV.bool)
instance:FrzOf lsB bls:=⟨fun x=>by simp only [zAS,zEW]⟩
def zXc (n:Nw) (cs:List (Int×Int)) (h k:Nat):List Bool:=(List.range k).map fun (i:Nat)=>zPz n cs h i
def zWx (n:Nw) (cs:List (Int×Int)) (k:Nat):List (List Bool):=(List.range k).map fun h=>zXc n cs h n.n.length
end Go.Eng
namespace Go.Eng
open Go Go.Proofs
structure Tr (n:Nw) (w:List Int) (S:Nat→Nat→Prop):Prop where
 wl:w.length=80
 at_:∀ h c,h<n.h.toNat→c<8→w.getD (h*8+c) 0 = -1∨∃ i,i<n.n.length∧(zAj n).getD i 0=(c:Int)∧w.getD (h*8+c) 0=i∧S h i
 top:∀ h i,h<n.h.toNat→i<n.n.length→S h i→(i:Int)≤w.getD (h*8+((zAj n).getD i 0).toNat) 0
theorem zH4 {w:List Int} {i j:Nat} {x:Int} (hi:i<w.length):(zP7 w i x).getD j 0=if i=j then max (w.getD j 0) x else w.getD j 0:=by
 unfold zP7
 rw [zDA]
 by_cases h:i=j
 ·subst h;rw [if_pos ⟨rfl,hi⟩,if_pos rfl]
 ·rw [if_neg (fun h2=>h h2.1),if_neg h]
theorem Tr.upd {n:Nw} {w:List Int} {S:Nat→Nat→Prop} (ho:NwOk n) (ht:Tr n w S) {h0 i0:Nat} (hh:h0<n.h.toNat) (hi:i0<n.n.length):Tr n (zP7 w (h0*8+((zAj n).getD i0 0).toNat) i0) (fun h i=>S h i∨h=h0∧i=i0):=by
 have ud:=ho.nl.2
 have hH:=ho.h.2
 have hf0:=zB7 ho i0 hi
 have yJ:h0*8+((zAj n).getD i0 0).toNat<w.length:=by rw [ht.wl];omega
 refine ⟨by rw [zIj];exact ht.wl,fun h c gC hc=>?_,fun h i gC hi1 hS=>?_⟩
 ·rw [zH4 yJ]
  split
  ·rename_i he
   have e1:h=h0:=by omega
   have e2:((zAj n).getD i0 0).toNat=c:=by omega
   have e3:(zAj n).getD i0 0=(c:Int):=by omega
   subst e1
   have hw:=ht.at_ h c gC hc
   by_cases hm:w.getD (h*8+c) 0≤(i0:Int)
   ·right
    exact ⟨i0,hi,e3,by rw [Int.max_eq_right hm],.inr ⟨rfl,rfl⟩⟩
   ·rcases hw with hw | ⟨i,g1,g2,g3,g4⟩
    ·omega
    ·right;exact ⟨i,g1,g2,by rw [Int.max_eq_left (by omega)];exact g3,.inl g4⟩
  ·rcases ht.at_ h c gC hc with hw | ⟨i,g1,g2,g3,g4⟩
   ·exact .inl hw
   ·exact .inr ⟨i,g1,g2,g3,.inl g4⟩
 ·rw [zH4 yJ]
  have LG:=zB7 ho i hi1
  rcases hS with hS | ⟨rfl,rfl⟩
  ·have:=ht.top h i gC hi1 hS
   split<;>omega
  ·rw [if_pos rfl];omega
theorem Tr.same {n:Nw} {w:List Int} {S S':Nat→Nat→Prop} (ht:Tr n w S) (h:∀ a i,a<n.h.toNat→i<n.n.length→(S a i↔S' a i)):Tr n w S' :=
 ⟨ht.wl,fun a c ha hc=>by
  rcases ht.at_ a c ha hc with h1 | ⟨i,g1,g2,g3,g4⟩
  ·exact .inl h1
  ·exact .inr ⟨i,g1,g2,g3,(h a i ha g1).1 g4⟩,fun a i ha hi hs=>ht.top a i ha hi ((h a i ha hi).2 hs)⟩
theorem Tr.none (n:Nw) (ho:NwOk n):Tr n (List.replicate 80 (-1)) (fun _ _=>False):=by
 have hH:=ho.h.2
 refine ⟨by simp,fun h c hh hc => .inl ?_,fun _ _ _ _ h=>h.elim⟩
 rw [zAA (by rw [List.length_replicate];omega),List.getElem_replicate]
end Go.Eng
namespace Go.Eng
open Go Go.Proofs
theorem Tr.begC {n:Nw} {w:List Int} {S:Nat→Nat→Prop} (ho:NwOk n) (ht:Tr n w S) {h:Nat} (hh:h<n.h.toNat) {c:Int×Int} (hc:0≤c.1∧c.1<n.n.length):Tr n (begC n h w c) (fun a i=>S a i∨a=h∧hrB n h i c=true):=by
 unfold Go.Eng.begC
 split
 ·rename_i hs
  have:=ht.upd ho hh (i0:=c.1.toNat) (by omega)
  rw [Int.toNat_of_nonneg hc.1] at this
  refine this.same fun a i _ _=>?_
  simp only [hrB,hs,Bool.and_true,decide_eq_true_eq]
  refine or_congr Iff.rfl (and_congr Iff.rfl ⟨fun e=>by omega,fun e=>by omega⟩)
 ·rename_i hs
  refine ht.same fun a i _ _=>?_
  have h2:has (n.s.getD c.2.toNat []) h=false:=by
   cases hx:has (n.s.getD c.2.toNat []) h
   ·rfl
   ·exact absurd hx hs
  simp only [hrB,h2,Bool.and_false,Bool.false_eq_true,and_false,or_false]
theorem Tr.begH {n:Nw} (ho:NwOk n) {h:Nat} (hh:h<n.h.toNat):∀ (cs:List (Int×Int)) {w:List Int} {S:Nat→Nat→Prop},Tr n w S→(∀ c∈cs,0≤c.1∧c.1<n.n.length)→Tr n (begH n h w cs) (fun a i=>S a i∨a=h∧zPz n cs h i=true)
 | [],w,S,ht,_=>ht.same fun a i _ _=>by simp [zPz]
 | c::cs,w,S,ht,hc=>by
  have h1:=Tr.begH ho hh cs (ht.begC ho hh (hc c List.mem_cons_self)) fun d hd=>hc d (List.mem_cons_of_mem _ hd)
  refine Tr.same (w:=Go.Eng.begH n h w (c::cs)) h1 fun a i _ _=>?_
  simp only [zPz,List.any_cons,Bool.or_eq_true,or_assoc,and_or_left]
theorem Tr.begN {n:Nw} {cs:List (Int×Int)} (ho:CrW n cs):∀ k,k≤n.h.toNat→Tr n (begN n cs k) (fun a i=>a<k∧zPz n cs a i=true)
 | 0,_=>(Tr.none n ho.nw).same fun a i _ _=>by simp
 | k + 1,hk=>by
  rw [zID]
  refine (Tr.begH ho.nw (by omega) cs (Tr.begN ho k (by omega)) fun c hc=>(ho.cs c hc).1).same fun a i _ _=>?_
  constructor
  ·rintro (⟨h1,h2⟩ | ⟨rfl,h2⟩)
   ·exact ⟨by omega,h2⟩
   ·exact ⟨by omega,h2⟩
  ·rintro ⟨h1,h2⟩
   by_cases e:a=k
   ·subst e;exact .inr ⟨rfl,h2⟩
   ·exact .inl ⟨by omega,h2⟩
theorem RelK.of_tr {n:Nw} {K:List (List Bool)} {w:List Int} (h1:K.length=n.h.toNat) (h2:∀ r∈K,r.length=n.n.length) (ht:Tr n w fun a i=>kn K a i=true):RelK n K w :=
 ⟨h1,h2,ht.wl,ht.top,ht.at_⟩
theorem RelK.tr {n:Nw} {K:List (List Bool)} {w:List Int} (h:RelK n K w):Tr n w fun a i=>kn K a i=true:=⟨h.wl,h.at_,h.top⟩
theorem zWT {n:Nw} {cs:List (Int×Int)} {a i:Nat} (ha:a<n.h.toNat) (hi:i<n.n.length):kn (zWx n cs n.h.toNat) a i=zPz n cs a i:=by
 unfold kn zWx
 rw [zAA (l:=(List.range n.h.toNat).map fun h=>zXc n cs h n.n.length) (by rw [List.length_map,List.length_range];exact ha)]
 simp only [List.getElem_map,List.getElem_range]
 unfold zXc
 rw [zAA (by rw [List.length_map,List.length_range];exact hi)]
 simp only [List.getElem_map,List.getElem_range]
theorem zVc {n:Nw} {cs:List (Int×Int)} (ho:CrW n cs):RelK n (zWx n cs n.h.toNat) (zOl n cs):=by
 refine RelK.of_tr (by simp [zWx]) (fun r hr=>?_) ?_
 ·obtain ⟨h,_,rfl⟩:=List.mem_map.1 hr
  simp [zXc]
 ·refine (Tr.begN ho n.h.toNat (Nat.le_refl _)).same fun a i ha hi=>?_
  rw [zWT ha hi]
  exact ⟨fun h=>h.2,fun h=>⟨ha,h⟩⟩
end Go.Eng
namespace Go.Eng
open Go Go.Proofs
def nxB (n:Nw) (K:List (List Bool)) (w:List Int) (h i:Nat):Bool:=kn K h i||(zHi n h n.h.toNat).any fun o=>hld n w o i
def zMx (n:Nw) (K:List (List Bool)) (w:List Int) (h:Nat):List Bool:=(List.range n.n.length).map fun i=>nxB n K w h i
def zPL (n:Nw) (K:List (List Bool)) (w:List Int):List (List Bool):=(List.range n.h.toNat).map fun h=>zMx n K w h
theorem zVy {n:Nw} {K:List (List Bool)} {w:List Int} {a i:Nat} (ha:a<n.h.toNat) (hi:i<n.n.length):kn (zPL n K w) a i=nxB n K w a i:=by
 unfold kn zPL
 rw [zAA (l:=(List.range n.h.toNat).map fun h=>zMx n K w h) (by rw [List.length_map,List.length_range];exact ha)]
 simp only [List.getElem_map,List.getElem_range]
 unfold zMx
 rw [zAA (by rw [List.length_map,List.length_range];exact hi)]
 simp only [List.getElem_map,List.getElem_range]
theorem Tr.skip {n:Nw} {w:List Int} {S:Nat→Nat→Prop} (ho:NwOk n) (ht:Tr n w S) {h0 c0:Nat} (hh:h0<n.h.toNat) (hc:c0<8):Tr n (zP7 w (h0*8+c0) (-1)) S:=by
 have hH:=ho.h.2
 have yJ:h0*8+c0<w.length:=by rw [ht.wl];omega
 have qu : -1≤w.getD (h0*8+c0) 0:=by
  rcases ht.at_ h0 c0 hh hc with h | ⟨i,_,_,h,_⟩<;>omega
 have he:∀ j,(zP7 w (h0*8+c0) (-1)).getD j 0=w.getD j 0:=fun j=>by
  rw [zH4 yJ]
  split
  ·rename_i e;subst e;exact Int.max_eq_left qu
  ·rfl
 exact ⟨by rw [zIj];exact ht.wl,fun h c h1 h2=>by rw [he];exact ht.at_ h c h1 h2,fun h i h1 h2 h3=>by rw [he];exact ht.top h i h1 h2 h3⟩
theorem Tr.nxtR {n:Nw} {now:List Int} {S0:Nat→Nat→Prop} (ho:NwOk n) (h0:Tr n now S0) {h o:Nat} (hh:h<n.h.toNat) (hoo:o<n.h.toNat) {w:List Int} {S:Nat→Nat→Prop} (ht:Tr n w S):∀ k,k≤8→Tr n (nxtR now h o w k) (fun a i=>S a i∨a=h∧(zAj n).getD i 0<(k:Int)∧hld n now o i=true)
 | 0,_=>Tr.same (w:=Go.Eng.nxtR now h o w 0) ht fun a i _ hi=>by
  have:=zB7 ho i hi
  exact ⟨.inl,fun h=>h.elim id fun h=>by have:=h.2.1;omega⟩
 | k + 1,hk=>by
  have ih:=Tr.nxtR ho h0 hh hoo ht k (by omega)
  have e:Go.Eng.nxtR now h o w (k+1)=zP7 (Go.Eng.nxtR now h o w k) (h*8+k) (now.getD (o*8+k) 0):=by
   simp only [Go.Eng.nxtR,List.range_succ,List.foldl_append,List.foldl_cons,List.foldl_nil]
  rw [e]
  rcases h0.at_ o k hoo (by omega) with hm | ⟨j,g1,g2,g3,_⟩
  ·rw [hm]
   refine (ih.skip ho hh (by omega)).same fun a i _ hi=>or_congr Iff.rfl (and_congr Iff.rfl ⟨fun ⟨x,y⟩=>⟨by omega,y⟩,fun ⟨x,y⟩=>⟨?_,y⟩⟩)
   have hf:=zB7 ho i hi
   by_cases ek:(zAj n).getD i 0=(k:Int)
   ·simp only [hld,decide_eq_true_eq,ek,Int.toNat_natCast,hm] at y
    omega
   ·omega
  ·have:=ih.upd ho hh g1
   rw [g2,Int.toNat_natCast] at this
   rw [g3]
   refine this.same fun a i _ hi=>?_
   have hf:=zB7 ho i hi
   constructor
   ·rintro ((x | ⟨x,y,z⟩) | ⟨rfl,rfl⟩)
    ·exact .inl x
    ·exact .inr ⟨x,by omega,z⟩
    ·refine .inr ⟨rfl,by omega,?_⟩
     simp only [hld,decide_eq_true_eq,g2,Int.toNat_natCast,g3]
   ·rintro (x | ⟨rfl,y,z⟩)
    ·exact .inl (.inl x)
    ·by_cases ek:(zAj n).getD i 0=(k:Int)
     ·simp only [hld,decide_eq_true_eq,ek,Int.toNat_natCast,g3] at z
      exact .inr ⟨rfl,by omega⟩
     ·exact .inl (.inr ⟨rfl,by omega,z⟩)
theorem Tr.nxtH {n:Nw} {now:List Int} {S0:Nat→Nat→Prop} (ho:NwOk n) (h0:Tr n now S0) {h:Nat} (hh:h<n.h.toNat):∀ (l:List Nat),(∀ o∈l,o<n.h.toNat)→∀ {w:List Int} {S:Nat→Nat→Prop},Tr n w S→Tr n (nxtH now h w l) (fun a i=>S a i∨a=h∧(l.any fun o=>hld n now o i)=true)
 | [],_,w,S,ht=>Tr.same (w:=Go.Eng.nxtH now h w []) ht fun a i _ _=>by simp
 | o::l,hl,w,S,ht=>by
  have h1:=Tr.nxtH ho h0 hh l (fun x hx=>hl x (List.mem_cons_of_mem _ hx)) (Tr.nxtR ho h0 hh (hl o List.mem_cons_self) ht 8 (Nat.le_refl _))
  refine Tr.same (w:=Go.Eng.nxtH now h w (o::l)) h1 fun a i _ hi=>?_
  have hf:=zB7 ho i hi
  have ud:=ho.nl.2
  simp only [List.any_cons,Bool.or_eq_true,and_or_left,or_assoc]
  refine or_congr Iff.rfl (or_congr (and_congr Iff.rfl ⟨fun x=>x.2,fun x=>⟨by omega,x⟩⟩) Iff.rfl)
theorem Tr.nxtN {n:Nw} {now:List Int} {S0:Nat→Nat→Prop} (ho:NwOk n) (h0:Tr n now S0):∀ k,k≤n.h.toNat→Tr n (nxtN n now k) (fun a i=>S0 a i∨a<k∧((zHi n a n.h.toNat).any fun o=>hld n now o i)=true)
 | 0,_=>Tr.same (w:=Go.Eng.nxtN n now 0) h0 fun a i _ _=>by simp
 | k + 1,hk=>by
  have ih:=Tr.nxtN ho h0 k (by omega)
  have e:Go.Eng.nxtN n now (k+1)=Go.Eng.nxtH now k (Go.Eng.nxtN n now k) (zHi n k n.h.toNat):=by
   simp only [Go.Eng.nxtN,List.range_succ,List.foldl_append,List.foldl_cons,List.foldl_nil]
  rw [e]
  refine (Tr.nxtH ho h0 (by omega) _ (fun o hm=>List.mem_range.1 (List.mem_filter.1 hm).1) ih).same fun a i _ _=>?_
  constructor
  ·rintro ((x | ⟨x,y⟩) | ⟨rfl,y⟩)
   ·exact .inl x
   ·exact .inr ⟨by omega,y⟩
   ·exact .inr ⟨by omega,y⟩
  ·rintro (x | ⟨x,y⟩)
   ·exact .inl (.inl x)
   ·by_cases ea:a=k
    ·subst ea;exact .inr ⟨rfl,y⟩
    ·exact .inl (.inr ⟨by omega,y⟩)
theorem zST {n:Nw} (ho:NwOk n) {K:List (List Bool)} {w:List Int} (h:RelK n K w):RelK n (zPL n K w) (zCg n w):=by
 refine RelK.of_tr (by simp [zPL]) (fun r hr=>?_) ?_
 ·obtain ⟨h,_,rfl⟩:=List.mem_map.1 hr
  simp [zMx]
 ·refine (Tr.nxtN ho h.tr n.h.toNat (Nat.le_refl _)).same fun a i ha hi=>?_
  rw [zVy ha hi,nxB,Bool.or_eq_true]
  exact or_congr Iff.rfl ⟨fun x=>x.2,fun x=>⟨ha,x⟩⟩
end Go.Eng
set_option maxRecDepth 10000
set_option maxHeartbeats 4000000
namespace Go.Eng
open Go Go.Proofs
instance (n:Nw) (i j:Nat):Decidable (chn n i j):=inferInstanceAs (Decidable ((zAj n).getD i 0=(zAj n).getD j 0))
def zXq (n:Nw) (K:List (List Bool)) (h i:Nat):Bool:=kn K h i && !((List.range n.n.length).any fun k=>decide (i<k)&&(decide (chn n k i)&&kn K h k))
theorem zXO {n:Nw} {K:List (List Bool)} {w:List Int} {h i:Nat} (ho:NwOk n) (hr:RelK n K w) (hh:h<n.h.toNat) (hi:i<n.n.length):zXq n K h i=hld n w h i:=by
 unfold zXq
 cases h1:kn K h i
 ·rw [zWI ho hr hh hi (.inl h1)];rfl
 ·cases h2:(List.range n.n.length).any fun k=>decide (i<k)&&(decide (chn n k i)&&kn K h k)
  ·rw [zXr ho hr hh hi h1 fun k hk hc hik=>?_]
   ·rfl
   ·have h3:=(List.any_eq_false.1 h2) k (List.mem_range.2 hk)
    simpa [hik,hc] using h3
  ·obtain ⟨k,hk,h3⟩:=List.any_eq_true.1 h2
   simp only [Bool.and_eq_true,decide_eq_true_eq] at h3
   rw [zWI ho hr hh hi (.inr ⟨k,List.mem_range.1 hk,h3.2.1,h3.1,h3.2.2⟩)];rfl
end Go.Eng
set_option maxRecDepth 10000
set_option maxHeartbeats 4000000
namespace Go.Eng
open Go Go.Proofs
def zSI (n:Nw) (K:List (List Bool)):List (List Bool):=(List.range n.h.toNat).map fun h=>(List.range n.n.length).map fun i=>kn K h i||(zHi n h n.h.toNat).any fun o=>zXq n K o i
theorem zTV {n:Nw} {K:List (List Bool)} {w:List Int} (ho:NwOk n) (hr:RelK n K w):zSI n K=zPL n K w:=by
 unfold zSI zPL zMx nxB
 refine List.map_congr_left fun h _=>List.map_congr_left fun i hi=>?_
 congr 1
 rw [Bool.eq_iff_iff,List.any_eq_true,List.any_eq_true]
 refine exists_congr fun o=>and_congr_right fun hm=>?_
 rw [zXO ho hr (List.mem_range.1 (List.mem_filter.1 hm).1) (List.mem_range.1 hi)]
def zXf (n:Nw) (cs:List (Int×Int)):Nat→List (List Bool)
 | 0=>zWx n cs n.h.toNat
 | k+1=>zSI n (zXf n cs k)
theorem zGp {n:Nw} {cs:List (Int×Int)} (ho:CrW n cs):∀ k,RelK n (zXf n cs k) (zAU n cs k)
 | 0=>zVc ho
 | k+1=>by
  have ih:=zGp ho k
  show RelK n (zSI n (zXf n cs k)) (zCg n (zAU n cs k))
  rw [zTV ho.nw ih]
  exact zST ho.nw ih
end Go.Eng
set_option maxRecDepth 10000
set_option maxHeartbeats 4000000
namespace Go.Eng
open Go Go.Proofs
def zTJ (n:Nw) (i:Nat):Bool:=decide ((zBl n).getD i 0=i) && !(n.n.getD i default).2
def zEw (p:Nat→Bool) (k:Nat):List Int:=((List.range k).filter p).map fun (i:Nat)=>(i:Int)
theorem zKo {p:Nat→Bool} {k:Nat}:zEw p (k+1)=if p k=true then zEw p k++[(k:Int)] else zEw p k:=by
 unfold zEw;rw [List.range_succ,List.filter_append,List.map_append]
 by_cases hn:p k=true
 ·rw [if_pos hn];simp [hn]
 ·rw [if_neg hn];simp [hn]
theorem zLU {p:Nat→Bool} {k:Nat}:(zEw p k).length≤k:=by
 unfold zEw;rw [List.length_map];exact Nat.le_trans (List.length_filter_le _ _) (by simp)
theorem f86_1 (n:Nw) (ho:NwOk n):FG 86 [nwV n] (.tup [.own 1 ((zEw (zTJ n) n.n.length).map I),I 0]):=by
 have ud:=ho.nl
 refine zAf Tryz.f86 ?_
 refine zAd 3<|zAa<|zAd 1<|S_a [(6,.ret (PV.tup [(zCJ n (PV.own 2 []) (zUP (List.map pr2 n.l)) (zAj n) (zBl n)).box,I 0]) [])] (ap (f139_1 n (by omega)) an)<|zAc 5<|zAa<|zAh<|zAd 2<|zAa<|zAE<|zAl<|zAd 1<|zAa<|zAh<|zAd 2<|S_a [(0,.n n.n.length)] (ap (lnS ntV n.n) an)<|zAc 1<|zAa<|zAk 0 ?_
 refine zAz (fun (i,l)=>i≤n.n.length∧l=zEw (zTJ n) i) (fun (i,l)=>[(6,.own 1 (l.map I)),(20,I (i:Nat))]) (fun (i,_)=>n.n.length-i) ((0:Nat),([]:List Int)) ⟨by omega,by simp [zEw]⟩ fun (i,l) ⟨hi,hl⟩=>?_
 have qt:l.length≤i:=by rw [hl];exact zLU
 by_cases yT:i<n.n.length
 ·have yf:=zKo (p:=zTJ n) (k:=i)
  rw [← hl] at yf
  have ju:zTJ n i=false→l=zEw (zTJ n) (i+1):=fun h=>by rw [yf,if_neg (by rw [h];simp)]
  refine zAd 1<|zAa<|zAh<|zBa ((↑i:Int)<(↑n.n.length:Int)) (by omega)<|zAl<|zAh<|zAk 1<|zAd 1<|S_a [(2,.v (PV.agg [I (n.n.getD i default).fst,PV.bool (n.n.getD i default).snd]))] (ap (zDh default (by omega):(List.map ntV n.n)[i]? = some (PV.agg [I (n.n.getD i default).fst,PV.bool (n.n.getD i default).snd])) an)<|zAc 4<|zAa<|zAd 4<|S_a [(2,.ob),(1,.v (PV.addr 4 [] 0 (14+i) none))] (ap ((by exact zAu (by omega)):decide (i<8)=true)<|ap ((zFq (by kernel_rfl)):PV.addr 4 [] 0 (14+i*(fun x=>x.size) Tryz.prog.types[3]) none=PV.addr 4 [] 0 (14+i) none) an)<|S_a [(0,.cs true ([I ((zBl n).getD i 0)]))] (ap (zC8 (q:=(PV.agg (I n.h::prs n.l::PV.sl (List.map ntV n.n)::PV.sl (List.map zBk n.s)::PV.own 2 []::PV.omap (List.map zBF (List.map pr2 n.l))::(zAV (zAj n) 8++zAV (zBl n) 8))).box) (xs:=[PV.agg (I n.h::prs n.l::PV.sl (List.map ntV n.n)::PV.sl (List.map zBk n.s)::PV.own 2 []::PV.omap (List.map zBF (List.map pr2 n.l))::(zAV (zAj n) 8++zAV (zBl n) 8))]) (x:=PV.agg (I n.h::prs n.l::PV.sl (List.map ntV n.n)::PV.sl (List.map zBk n.s)::PV.own 2 []::PV.omap (List.map zBF (List.map pr2 n.l))::(zAV (zAj n) 8++zAV (zBl n) 8))) rfl rfl (zKC (A:=I n.h::prs n.l::PV.sl (List.map ntV n.n)::PV.sl (List.map zBk n.s)::PV.own 2 []::PV.omap (List.map zBF (List.map pr2 n.l))::zAV (zAj n) 8) (B:=[]) (F:=zBl n) (m:=8) (j:=i) (by first | rfl | exact zB1 (by kernel_rfl) | exact zB2 (by kernel_rfl) | exact zDL (by kernel_rfl) (by kernel_rfl) | exact zDm (by kernel_rfl) | exact zDS (by kernel_rfl) (by kernel_rfl) | exact zDD (by kernel_rfl) | (simp;done)) (by omega)):zAr 4 (PV.agg (I n.h::prs n.l::PV.sl (List.map ntV n.n)::PV.sl (List.map zBk n.s)::PV.own 2 []::PV.omap (List.map zBF (List.map pr2 n.l))::(zAV (zAj n) 8++zAV (zBl n) 8))).box [] 0 (14+i) 1=some (true,[I ((zBl n).getD i 0)])) an)<|zAc 3<|zLN 33 ((zBl n).getD i 0=(↑i:Int)) (fun k0=>(zAc 4<|zAa<|zFM (!(n.n.getD i default).snd) (fun k1=>(zAg<|zAc 3<|S_a [(4,.ob),(0,.ob),(0,.yes),(2,.v (PV.own 1 (List.map I (l++[(↑i:Int)]))))] (ap (blz (List.map I l))<|ap ((by exact zBb (by simp only [List.length_map,zzLn,zA1]<;>omega)):((List.map I l).length + [I (↑i:Int)].length).ble zA1=true)<|ap ((by exact zBN (by simp<;>omega)):(0+(List.map I l).length).beq (List.map I l).length=true)<|ap ((zA9 (zBP (by kernel_rfl))):PV.own 1 (List.map I l++[I (↑i:Int)])=PV.own 1 (List.map I (l++[(↑i:Int)]))) an)<|zAc 1<|zAa<|zAg<|S_a [(1,.v (I (↑(i+1):Int)))] (ap (wrN i) an)<|zAc 1<|zAa ?_)) (fun k1=>(zAl<|zAg<|S_a [(1,.v (I (↑(i+1):Int)))] (ap (wrN i) an)<|zAc 1<|zAa ?_)))) (fun k0=>(zAc 4<|zAa<|zAE<|zAl<|zAg<|S_a [(1,.v (I (↑(i+1):Int)))] (ap (wrN i) an)<|zAc 1<|zAa ?_))
  ·rw [if_pos (by simp only [zTJ,decide_eq_true k0,k1];rfl)] at yf
   exact ⟨(i+1,l++[(i:Int)]),⟨by omega,yf.symm⟩,by simp only;omega,by kernel_rfl,by kernel_rfl⟩
  ·exact ⟨(i+1,l),⟨by omega,ju (by simp only [zTJ,decide_eq_true k0,k1];rfl)⟩,by simp only;omega,by kernel_rfl,by kernel_rfl⟩
  ·exact ⟨(i+1,l),⟨by omega,ju (by simp only [zTJ,decide_eq_false k0,Bool.false_and])⟩,by simp only;omega,by kernel_rfl,by kernel_rfl⟩
 ·refine zAd 1<|zAa<|zAh<|zA0 ((↑i:Int)<(↑n.n.length:Int)) (by omega)<|zAL 0<|zAd 1<|S_a [(2,.yes)] (ap ((by exact zBN (by simp<;>omega)):(Nat.beq 0 0&&(List.map I l).length.beq (List.map I l).length)=true) an)<|zAc 1<|zAa<|zAn<|E_a [(1,.yes),(1,.v (PV.own 1 (List.map I l)))] (ap (blz (List.map I l))<|ap ((zA9 zBz):PV.own 1 (List.take (List.map I l).length (List.drop 0 (List.map I l)))=PV.own 1 (List.map I l)) an) (PV.tup [PV.own 1 (List.map I l),I 0]) [] ?_ rfl
  rw [hl,show i=n.n.length by omega]
def bkL (n:Nw) (cs:List (Int×Int)) (c:Nat) (x:Int):Nat→List Int→List Int
 | 0,out=>out
 | k+1,out=>bkL n cs c x k (match (zHi n (out.getD 0 0).toNat n.h.toNat).find? fun o=>decide ((zAU n cs k).getD (o*8+c) 0=x) with | some o=>(o:Int)::out | none=>out)
abbrev zUg (S:List (List Int)):PV := .box (.own 80 (S.map hdV))
def zRh (n:Nw) (cs:List (Int×Int)) (k:Nat):List (List Int):=(List.range k).map fun k=>zAU n cs k
theorem zMO {n:Nw} {cs:List (Int×Int)} {k:Nat}:zRh n cs (k+1)=zRh n cs k++[zAU n cs k]:=by
 simp only [zRh,List.range_succ,List.map_append,List.map_cons,List.map_nil]
theorem zLv {n:Nw} {cs:List (Int×Int)} {k j:Nat} (h:j<k):(zRh n cs k).getD j []=zAU n cs j:=by
 simp [zRh,List.getD_eq_getElem?_getD,h]
theorem zVh (n:Nw) (cs:List (Int×Int)) (h:Int) (ho:NwOk n) (hh:0≤h∧h<n.h):zFQ 169 [] [.ref (zDN n cs),.ref (I h)] (zIC n h.toNat n.h.toNat):=by
 obtain ⟨g,rfl⟩:∃ g:Nat,h=g:=⟨h.toNat,by omega⟩
 exact zT9 n cs g ho hh.2
theorem zJ4 {p:Nat→Bool}:∀ {l:List Nat} {j o:Nat},l[j]? = some o→p o=true→(∀ i,i<j→p (l.getD i 0)=false)→l.find? p=some o
 | [],j,o,h,_,_=>by cases h
 | x::l,0,o,h,hp,_=>by
  simp only [List.getElem?_cons_zero,Option.some.injEq] at h
  subst h;rw [List.find?_cons,hp]
 | x::l,j+1,o,h,hp,ha=>by
  have h0:=ha 0 (by omega)
  simp only [List.getD_cons_zero] at h0
  rw [List.find?_cons,h0]
  exact zJ4 (by simpa using h) hp fun i hi=>by simpa using ha (i+1) (by omega)
theorem zP6 {p:Nat→Bool} {l:List Nat} (ha:∀ i,i<l.length→p (l.getD i 0)=false):l.find? p=none:=by
 rw [List.find?_eq_none]
 intro x hx
 obtain ⟨i,hi,rfl⟩:=List.getElem_of_mem hx
 have:=ha i hi
 rw [zAA hi] at this
 simp [this]
theorem f38_1 (n:Nw) (cs:List (Int×Int)) (h:Int) (x:Int) (k:Nat) (ho:CrOk n cs) (hh:0≤h∧h<n.h) (hx:0≤x∧x<n.n.length) (hk:k≤12) (kL:(zAU n cs k).getD (h.toNat*8+((zAj n).getD x.toNat 0).toNat) 0=x) (hm:∀ j,j<k→(zAU n cs j).getD (h.toNat*8+((zAj n).getD x.toNat 0).toNat) 0≠x):FG 38 [nwV n,prs cs,I h,I x] (.tup [.own 1 ((bkL n cs ((zAj n).getD x.toNat 0).toNat x k [h]).map I),I 0]):=by
 have hn:=ho.nw
 have vE:=ho.w
 have hb:=hn.h
 have ud:=hn.nl
 have hin:inB x 0 (n.n.length-1)=true:=by simp only [inB,Bool.and_eq_true,decide_eq_true_eq];omega
 have hih:inB h 0 (n.h-1)=true:=by simp only [inB,Bool.and_eq_true,decide_eq_true_eq];omega
 have hfb:=zB7 hn x.toNat (by omega)
 refine zAf Tryz.f38 ?_
 refine zAd 4<|zAa<|zAd 2<|S_a [(8,.ret (PV.tup [zDN n cs,I 0]) [])] (ap (f99_1 n cs (by omega)) an)<|zAc 5<|zAa<|zAh<|zAk 0<|zAd 3<|zAa<|zAE<|zAd 2<|S_a [(8,.ret (PV.bool (inB h 0 (n.h-1))) [])] (ap (f109 n h (by omega)) an)<|zAc 2<|zFg 32 (!inB h 0 (n.h-1)) (fun k1=>(zAc 6<|zAa<|zD8<|zAd 2<|zAa<|zAn<|E_a [] an (PV.tup [PV.own 1 [],I 1]) [] ?_ rfl)) (fun k1=>(zAc 2<|S_a [(8,.ret (PV.bool (inB x 0 ((↑n.n.length:Int)-1))) [])] (ap (f106 n x (by first | omega | (simp<;>omega))) an)<|zAc 3<|zAa<|zFM (!inB x 0 ((↑n.n.length:Int)-1)) (fun k2=>(zAd 2<|zAa<|zAn<|E_a [] an (PV.tup [PV.own 1 [],I 1]) [] ?_ rfl)) (fun k2=>(zAl<|zAd 4<|S_a [(0,.ob),(1,.ob),(0,.v ((I ((zAj n).getD x.toNat 0)).ref))] (ap ((by exact zAu (by omega)):decide (0≤x)=true)<|ap ((by exact zAu (by omega)):decide (x.toNat<8)=true)<|ap (zGn (F:=zAj n) (m:=8) (j:=x.toNat) (by omega):zCl (PV.agg (zAV (zAj n) 8)).ref (x.toNat*(fun x=>x.size) Tryz.prog.types[3]) none=some (I ((zAj n).getD x.toNat 0)).ref) an)<|zAc 3<|zAa<|zAd 1<|S_a [(5,.ret (hdV (zOl n cs)) [])] (ap (f100 n cs (by omega)) an)<|zAc 3<|zAa<|zAh<|zAk 1 ?_))))
 ·rw [hih] at k1;cases k1
 ·rw [hin] at k2;cases k2
 ·generalize hc:((zAj n).getD x.toNat 0)=c at *
  refine zAz (fun (j,S)=>j≤k∧S=zRh n cs (j+1)) (fun (j,S)=>[(13,zUg S)]) (fun (j,_)=>k-j) ((0:Nat),[zOl n cs]) ⟨by omega,rfl⟩ fun (j,S) ⟨hj,hS⟩=>?_
  have wa:S.length=j+1:=by rw [hS];simp [zRh]
  have qM:S.getD (S.length-1) []=zAU n cs j:=by rw [wa,hS];exact zLv (by omega)
  have gr:(S.getD (S.length-1) []).length=80:=by rw [qM];exact zBr j
  by_cases hjk:j<k
  ·have hI:=hm j hjk
   rw [← qM] at hI
   have hSS:S++[zCg n (S.getD (S.length-1) [])]=zRh n cs (j+1+1):=by rw [zMO (k:=j+1),← hS,qM];rfl
   refine zAh<|zAh<|zAg<|S_a [(1,.v (PV.bor 13 [(0,0)] 80 0 S.length))] (ap ((by simp):PV.bor 13 [(0,0)] 80 0 (List.map hdV S).length=PV.bor 13 [(0,0)] 80 0 S.length) an)<|S_a [(1,.v (PV.bor 13 [(0,0)] 80 0 S.length))] (ap ((by simp):PV.bor 13 [(0,0)] 80 0 (List.map hdV S).length=PV.bor 13 [(0,0)] 80 0 S.length) an)<|zAc 1<|S_a [(1,.v (I (↑(S.length-1):Int)))] (ap ((zCr (by omega) (by omega)):I (IntKind.i64.wrap ((↑S.length:Int)-1))=I (↑(S.length-1):Int)) an)<|zAc 2<|S_a [(2,.ob),(1,.n (S.length-1))] (ap ((by exact zAu (by omega)):decide (S.length-1<S.length)=true)<|ap ((by simp):some (0+(S.length-1))=some (S.length-1)) an)<|S_a [(0,.ob),(1,.ob)] (ap ((by exact zAu (by omega)):decide (0≤h)=true)<|ap ((by exact zAu (by omega)):decide (h.toNat<10)=true) an)<|S_a [(0,.ob),(1,.ob)] (ap ((by exact zAu (by omega)):decide (0≤c)=true)<|ap ((by exact zAu (by omega)):decide (c.toNat<8)=true) an)<|S_a [(0,.cs true ([I ((S.getD (S.length-1) []).getD (h.toNat*8+c.toNat) 0)]))] (ap (zC8 (q:=PV.own 80 (List.map hdV S)) (xs:=List.map hdV S) (x:=PV.agg (zAV (S.getD (S.length-1) []) 80)) (zMd (xs:=[PV.own 80 (List.map hdV S)]) (x:=PV.own 80 (List.map hdV S)) (y:=PV.own 80 (List.map hdV S)) rfl rfl) (zDh [] (by omega)) (zEV (F:=S.getD (S.length-1) []) (m:=80) (j:=h.toNat*8+c.toNat) (by first | rfl | exact zB1 (by kernel_rfl) | exact zB2 (by kernel_rfl) | exact zDL (by kernel_rfl) (by kernel_rfl) | exact zDm (by kernel_rfl) | exact zDS (by kernel_rfl) (by kernel_rfl) | exact zDD (by kernel_rfl) | (simp;done)) (by omega)):zAr 13 (PV.own 80 (List.map hdV S)).box [(0,0)] (S.length-1) (0+h.toNat*(fun x=>x.size) Tryz.prog.types[128]+c.toNat*(fun x=>x.size) Tryz.prog.types[3]) 1=some (true,[I ((S.getD (S.length-1) []).getD (h.toNat*8+c.toNat) 0)])) an)<|zAc 2<|zAa<|zJl ((S.getD (S.length-1) []).getD (h.toNat*8+c.toNat) 0=x) (by omega)<|zAl<|zAk 2<|zAh<|zAh<|zAg<|S_a [(1,.v (PV.bor 13 [(0,0)] 80 0 S.length))] (ap ((by simp):PV.bor 13 [(0,0)] 80 0 (List.map hdV S).length=PV.bor 13 [(0,0)] 80 0 S.length) an)<|zAc 2<|zAa<|zA0 ((↑S.length:Int)>12) (by omega)<|zAl<|zAg<|S_a [(1,.v (PV.bor 13 [(0,0)] 80 0 S.length))] (ap ((by simp):PV.bor 13 [(0,0)] 80 0 (List.map hdV S).length=PV.bor 13 [(0,0)] 80 0 S.length) an)<|zAc 1<|S_a [(1,.v (PV.bor 13 [(0,0)] 80 0 S.length))] (ap ((by simp):PV.bor 13 [(0,0)] 80 0 (List.map hdV S).length=PV.bor 13 [(0,0)] 80 0 S.length) an)<|S_a [(1,.v (PV.bor 13 [(0,0)] 80 0 S.length))] (ap ((by simp):PV.bor 13 [(0,0)] 80 0 (List.map hdV S).length=PV.bor 13 [(0,0)] 80 0 S.length) an)<|zAc 1<|S_a [(1,.v (I (↑(S.length-1):Int)))] (ap ((zCr (by omega) (by omega)):I (IntKind.i64.wrap ((↑S.length:Int)-1))=I (↑(S.length-1):Int)) an)<|S_a [(2,.ob),(1,.n (S.length-1))] (ap ((by exact zAu (by omega)):decide (S.length-1<S.length)=true)<|ap ((by simp):some (0+(S.length-1))=some (S.length-1)) an)<|S_a [(0,.cs true (zAV (S.getD (S.length-1) []) 80))] (ap (zC8 (q:=PV.own 80 (List.map hdV S)) (xs:=List.map hdV S) (x:=PV.agg (zAV (S.getD (S.length-1) []) 80)) (zMd (xs:=[PV.own 80 (List.map hdV S)]) (x:=PV.own 80 (List.map hdV S)) (y:=PV.own 80 (List.map hdV S)) rfl rfl) (zDh [] (by omega)):zAr 13 (PV.own 80 (List.map hdV S)).box [(0,0)] (S.length-1) 0 Tryz.prog.types[130].size=some (true,zAV (S.getD (S.length-1) []) 80)) an)<|S_a [(7,.ret (hdV (zCg n (S.getD (S.length-1) []))) [])] (ap (f101 n cs (S.getD (S.length-1) []) (by omega) (by omega)) an)<|zAc 1<|S_a [(4,.ob),(0,.ob),(0,.yes),(2,.v (PV.own 80 (List.map hdV (S++[zCg n (S.getD (S.length-1) [])]))))] (ap ((by exact zBb (by simp only [List.length_map,zzLn,zA1]<;>omega)):(0+S.length).ble (List.map hdV S).length=true)<|ap ((by exact zBb (by simp only [List.length_map,zzLn,zA1]<;>omega)):((List.map hdV S).length + [PV.agg (zAV (zCg n (S.getD (S.length-1) [])) 80)].length).ble zA1=true)<|ap ((by exact zBN (by simp<;>omega)):(0+S.length).beq (List.map hdV S).length=true)<|ap ((zA9 (zBP (by kernel_rfl))):PV.own 80 (List.map hdV S++[PV.agg (zAV (zCg n (S.getD (S.length-1) [])) 80)])=PV.own 80 (List.map hdV (S++[zCg n (S.getD (S.length-1) [])]))) an)<|zAc 1<|zAa ?_
   exact ⟨(j+1,S++[zCg n (S.getD (S.length-1) [])]),⟨by omega,hSS⟩,by simp only;omega,by kernel_rfl,by kernel_rfl⟩
  ·have e:j=k:=by omega
   subst e
   rw [← qM] at kL
   refine zAh<|zAh<|zAg<|S_a [(1,.v (PV.bor 13 [(0,0)] 80 0 S.length))] (ap ((by simp):PV.bor 13 [(0,0)] 80 0 (List.map hdV S).length=PV.bor 13 [(0,0)] 80 0 S.length) an)<|S_a [(1,.v (PV.bor 13 [(0,0)] 80 0 S.length))] (ap ((by simp):PV.bor 13 [(0,0)] 80 0 (List.map hdV S).length=PV.bor 13 [(0,0)] 80 0 S.length) an)<|zAc 1<|S_a [(1,.v (I (↑(S.length-1):Int)))] (ap ((zCr (by omega) (by omega)):I (IntKind.i64.wrap ((↑S.length:Int)-1))=I (↑(S.length-1):Int)) an)<|zAc 2<|S_a [(2,.ob),(1,.n (S.length-1))] (ap ((by exact zAu (by omega)):decide (S.length-1<S.length)=true)<|ap ((by simp):some (0+(S.length-1))=some (S.length-1)) an)<|S_a [(0,.ob),(1,.ob)] (ap ((by exact zAu (by omega)):decide (0≤h)=true)<|ap ((by exact zAu (by omega)):decide (h.toNat<10)=true) an)<|S_a [(0,.ob),(1,.ob)] (ap ((by exact zAu (by omega)):decide (0≤c)=true)<|ap ((by exact zAu (by omega)):decide (c.toNat<8)=true) an)<|S_a [(0,.cs true ([I ((S.getD (S.length-1) []).getD (h.toNat*8+c.toNat) 0)]))] (ap (zC8 (q:=PV.own 80 (List.map hdV S)) (xs:=List.map hdV S) (x:=PV.agg (zAV (S.getD (S.length-1) []) 80)) (zMd (xs:=[PV.own 80 (List.map hdV S)]) (x:=PV.own 80 (List.map hdV S)) (y:=PV.own 80 (List.map hdV S)) rfl rfl) (zDh [] (by omega)) (zEV (F:=S.getD (S.length-1) []) (m:=80) (j:=h.toNat*8+c.toNat) (by first | rfl | exact zB1 (by kernel_rfl) | exact zB2 (by kernel_rfl) | exact zDL (by kernel_rfl) (by kernel_rfl) | exact zDm (by kernel_rfl) | exact zDS (by kernel_rfl) (by kernel_rfl) | exact zDD (by kernel_rfl) | (simp;done)) (by omega)):zAr 13 (PV.own 80 (List.map hdV S)).box [(0,0)] (S.length-1) (0+h.toNat*(fun x=>x.size) Tryz.prog.types[128]+c.toNat*(fun x=>x.size) Tryz.prog.types[3]) 1=some (true,[I ((S.getD (S.length-1) []).getD (h.toNat*8+c.toNat) 0)])) an)<|zAc 2<|zAa<|zK6 ((S.getD (S.length-1) []).getD (h.toNat*8+c.toNat) 0=x) (by omega)<|zAL 1<|zAd 4<|zAa<|zAh<|zAh<|zAg<|S_a [(1,.v (PV.bor 13 [(0,0)] 80 0 S.length))] (ap ((by simp):PV.bor 13 [(0,0)] 80 0 (List.map hdV S).length=PV.bor 13 [(0,0)] 80 0 S.length) an)<|zAc 1<|S_a [(1,.v (I ((↑S.length:Int)-2)))] (ap ((zCr rfl (by omega)):I (IntKind.i64.wrap ((↑S.length:Int)-2))=I ((↑S.length:Int)-2)) an)<|zAc 2<|zAa<|zAk 3 ?_
   have hS0:∀ r:Nat,r<S.length→(S.getD r []).length=80∧S.getD r []=zAU n cs r:=fun r hr=>by
    rw [hS,zLv (by omega)];exact ⟨zBr r,rfl⟩
   have hSm:((S.length:Nat):Int)-2=(j:Int)-1:=by omega
   generalize yI:bkL n cs c.toNat x j [h]=fin
   clear hS qM gr kL hm
   refine zAz (fun ((m:Int),(out:List Int))=>-1≤m∧m<j∧out.length≤20-m∧0<out.length∧(0≤out.getD 0 0∧out.getD 0 0<n.h)∧bkL n cs c.toNat x (m+1).toNat out=fin) (fun (m,out)=>[(14,.box (.own 1 (out.map I))),(15,.box (I m))]) (fun (m,_)=>(m+1).toNat) (((S.length:Nat):Int)-2,[h]) ⟨by omega,by omega,by simp only [List.length_cons,List.length_nil];omega,by simp,by simpa using hh,by rw [← yI];congr 1;omega⟩ fun (m,out) ⟨hm1,vT,ho1,ho2,ho3,gu⟩=>?_
   by_cases gS:0≤m
   ·have hA:=zVh n cs (out.getD 0 0) hn ho3
    obtain ⟨kD,jk⟩:=hS0 m.toNat (by omega)
    rw [show (m+1).toNat=m.toNat+1 by omega,bkL,← jk] at gu
    refine zAh<|zAd 2<|zAa<|zBa (m≥0) (by omega)<|zAl<|zAh<|zAk 4<|zUE<|zAh<|zVE (zAd 1<|S_a [(1,.v (PV.bor 14 [(0,0)] 1 0 out.length))] (ap ((by simp):PV.bor 14 [(0,0)] 1 0 (List.map I out).length=PV.bor 14 [(0,0)] 1 0 out.length) an)<|S_a [(2,.ob)] (ap ((by exact zAu (by omega)):decide (0<out.length)=true) an)<|S_a [(0,.cs false ([I (out.getD 0 0)]))] (ap (zC8 (q:=PV.own 1 (List.map I out)) (xs:=List.map I out) (x:=I (out.getD 0 0)) (zMd (xs:=[PV.own 1 (List.map I out)]) (x:=PV.own 1 (List.map I out)) (y:=PV.own 1 (List.map I out)) rfl rfl) (zDh (0) (by omega)):zAr 14 (PV.own 1 (List.map I out)).box [(0,0)] 0 0 1=some (false,[I (out.getD 0 0)])) an)<|S_a [(7,.ret (PV.func 169 [] [(zDN n cs).ref,(I (out.getD 0 0)).ref]) [])] (ap (f116 n cs (out.getD 0 0)) an)<|zAa<|zAk 5 ?_)
    refine zO8 (t:=86) hA (fun i (_:Unit)=>∀ r,r<i→decide ((S.getD m.toNat []).getD ((zHi n (out.getD 0 0).toNat n.h.toNat).getD r 0*8+c.toNat) 0=x)=false) (fun _=>[]) () (fun r hr=>absurd hr (Nat.not_lt_zero r)) (fun i y _ hy hi=>?_) (fun _ hi=>?_)
    ·rw [List.getElem?_map] at hy
     obtain ⟨o,hmo,rfl⟩:=Option.map_eq_some_iff.1 hy
     have hol:o<n.h.toNat:=zQy (List.mem_of_getElem? hmo)
     refine zOo ?_
     refine zAg<|zAc 1<|zAa ?_
     have jV:(zHi n (out.getD 0 0).toNat n.h.toNat).getD i 0=o:=by rw [List.getD_eq_getElem?_getD,hmo];rfl
     refine ⟨rfl,by kernel_rfl,?_⟩
     refine zAk 6<|zAh<|zAg<|S_a [(1,.v (PV.bor 13 [(0,0)] 80 0 S.length))] (ap ((by simp):PV.bor 13 [(0,0)] 80 0 (List.map hdV S).length=PV.bor 13 [(0,0)] 80 0 S.length) an)<|zAc 3<|S_a [(0,.ob),(1,.ob),(1,.n m.toNat)] (ap ((by exact zAu (by omega)):decide (0≤m)=true)<|ap ((by exact zAu (by omega)):decide (m.toNat<S.length)=true)<|ap ((by simp):some (0+m.toNat)=some m.toNat) an)<|S_a [(2,.ob)] (ap ((by exact zAu (by omega)):decide (o<10)=true) an)<|S_a [(0,.ob),(1,.ob)] (ap ((by exact zAu (by omega)):decide (0≤c)=true)<|ap ((by exact zAu (by omega)):decide (c.toNat<8)=true) an)<|S_a [(0,.cs true ([I ((S.getD m.toNat []).getD (o*8+c.toNat) 0)]))] (ap (zC8 (q:=PV.own 80 (List.map hdV S)) (xs:=List.map hdV S) (x:=PV.agg (zAV (S.getD m.toNat []) 80)) (zMd (xs:=[PV.own 80 (List.map hdV S)]) (x:=PV.own 80 (List.map hdV S)) (y:=PV.own 80 (List.map hdV S)) rfl rfl) (zDh [] (by omega)) (zEV (F:=S.getD m.toNat []) (m:=80) (j:=o*8+c.toNat) (by first | rfl | exact zB1 (by kernel_rfl) | exact zB2 (by kernel_rfl) | exact zDL (by kernel_rfl) (by kernel_rfl) | exact zDm (by kernel_rfl) | exact zDS (by kernel_rfl) (by kernel_rfl) | exact zDD (by kernel_rfl) | (simp;done)) (by omega)):zAr 13 (PV.own 80 (List.map hdV S)).box [(0,0)] m.toNat (0+(↑o:Int).toNat*(fun x=>x.size) Tryz.prog.types[128]+c.toNat*(fun x=>x.size) Tryz.prog.types[3]) 1=some (true,[I ((S.getD m.toNat []).getD (o*8+c.toNat) 0)])) an)<|zAc 2<|zAa<|zCP ((S.getD m.toNat []).getD (o*8+c.toNat) 0=x) (fun k2=>(zAd 2<|S_a [(1,.v (PV.bor 14 [(0,0)] 1 0 out.length))] (ap ((by simp):PV.bor 14 [(0,0)] 1 0 (List.map I out).length=PV.bor 14 [(0,0)] 1 0 out.length) an)<|S_a [(1,.ob),(0,.vs (List.map I out)),(0,.ob),(0,.ob),(0,.ob),(3,.ob)] (ap ((by exact zBb (by simp only [List.length_map,zzLn,zA1]<;>omega)):(0+out.length).ble (List.map I out).length=true)<|ap ((by simp [zCb]):List.take out.length (List.drop 0 (List.map I out))=List.map I out)<|ap ((by exact all_map _):((List.map I out).all fun x=>x.plain)=true)<|ap ((by exact all_map _):((List.map I out).all fun y=>y.cells.length.beq ((fun x=>x.size) Tryz.prog.types[3])&&y.cells.all fun q=>q.oneCell)=true)<|ap ((by exact List.isEmpty_iff.2 (zSp _)):(zBy (List.map I out)).isEmpty=true)<|ap ((by exact zBb (by simp only [List.length_map,zzLn,zA1]<;>omega)):([I (↑o:Int)].length+(List.map I out).length).ble zA1=true) an)<|zAc 1<|zAa<|zAL 5 ?_)) (fun k2=>(zAl ?_))
     ·rw [zJ4 hmo (decide_eq_true (by assumption)) hi] at gu
      clear hi hmo hA
      refine ⟨by kernel_rfl,?_⟩
      refine zAh<|zAd 1<|zAa<|zAg<|zAc 2<|zAa<|zAg<|zAc 1<|S_a [(1,.v (I (m-1)))] (ap ((zCr rfl (by omega)):I (IntKind.i64.wrap (m-1))=I (m-1)) an)<|zAc 1<|zAa ?_
      exact ⟨(m-1,(o:Int)::out),⟨by omega,by omega,by simp only [List.length_cons];omega,by simp,by simp only [List.getD_cons_zero];omega,by rw [show (m-1+1).toNat=m.toNat by omega];exact gu⟩,by simp only;omega,by kernel_rfl,by kernel_rfl⟩
     ·refine ⟨by kernel_rfl,(),fun r hr=>?_,by kernel_rfl⟩
      rcases Nat.lt_succ_iff_lt_or_eq.1 hr with h | rfl
      ·exact hi r h
      ·rw [jV];exact decide_eq_false (by assumption)
    ·rw [zP6 (by simpa using hi)] at gu
     clear hi hA
     show W _ _ _ _ _ _ _ _
     refine zAh<|zAd 1<|zAa<|zAg<|zAc 2<|zAa<|zAg<|zAc 1<|S_a [(1,.v (I (m-1)))] (ap ((zCr rfl (by omega)):I (IntKind.i64.wrap (m-1))=I (m-1)) an)<|zAc 1<|zAa ?_
     exact ⟨(m-1,out),⟨by omega,by omega,by omega,ho2,ho3,by rw [show (m-1+1).toNat=m.toNat by omega];exact gu⟩,by simp only;omega,by kernel_rfl,by kernel_rfl⟩
   ·have hm3:(m+1).toNat=0:=by omega
    rw [hm3,bkL] at gu
    rw [← gu]
    refine zAh<|zAd 2<|zAa<|zA0 (m≥0) (by omega)<|zAL 3<|zAh<|zAg<|S_a [(1,.v (PV.bor 14 [(0,0)] 1 0 out.length))] (ap ((by simp):PV.bor 14 [(0,0)] 1 0 (List.map I out).length=PV.bor 14 [(0,0)] 1 0 out.length) an)<|S_a [(2,.yes)] (ap ((by exact zBN (by simp<;>omega)):(Nat.beq 0 0&&out.length.beq (List.map I out).length)=true) an)<|zAc 1<|zAa<|zAn<|E_a [(1,.yes),(1,.v (PV.own 1 (List.map I out)))] (ap (blz (List.map I out))<|ap ((zA9 zBz):PV.own 1 (List.take (List.map I out).length (List.drop 0 (List.map I out)))=PV.own 1 (List.map I out)) an) (PV.tup [PV.own 1 (List.map I out),I 0]) [] rfl rfl
end Go.Eng
set_option maxHeartbeats 1000000
namespace Go.Eng
open Go
theorem zQ9:∀ {a b:List Int},a.Pairwise (· < ·)→b.Pairwise (· < ·)→(∀ x,x∈a↔x∈b)→a=b
 | [],[],_,_,_=>rfl
 | [],y::b,_,_,h=>absurd ((h y).2 (by simp)) (by simp)
 | x::a,[],_,_,h=>absurd ((h x).1 (by simp)) (by simp)
 | x :: a,y::b,ha,hb,h=>by
  rw [List.pairwise_cons] at ha hb
  have e:x=y:=by
   have h1:=(h x).1 (by simp)
   have h2:=(h y).2 (by simp)
   rcases List.mem_cons.1 h1 with h1 | h1
   ·exact h1
   rcases List.mem_cons.1 h2 with h2 | h2
   ·exact h2.symm
   have:=ha.1 y h2
   have:=hb.1 x h1
   omega
  subst e
  rw [zQ9 ha.2 hb.2 fun z=>?_]
  constructor
  ·intro hz
   rcases List.mem_cons.1 ((h z).1 (List.mem_cons_of_mem _ hz)) with rfl | h1
   ·exact absurd (ha.1 z hz) (by omega)
   ·exact h1
  ·intro hz
   rcases List.mem_cons.1 ((h z).2 (List.mem_cons_of_mem _ hz)) with rfl | h1
   ·exact absurd (hb.1 z hz) (by omega)
   ·exact h1
theorem zL9 {p:Nat→Bool} {k:Nat} {x:Int}:x∈zEw p k↔∃ i:Nat,i<k∧p i=true∧x=i:=by
 simp only [zEw,List.mem_map,List.mem_filter,List.mem_range]
 constructor
 ·rintro ⟨i,⟨h1,h2⟩,rfl⟩;exact ⟨i,h1,h2,rfl⟩
 ·rintro ⟨i,h1,h2,rfl⟩;exact ⟨i,⟨h1,h2⟩,rfl⟩
theorem zJJ {p:Nat→Bool}:∀ k,(zEw p k).Pairwise (· < ·)
 | 0=>by simp [zEw]
 | k + 1=>by
  rw [zKo]
  split
  ·rw [List.pairwise_append]
   refine ⟨zJJ k,by simp,fun a ha b hb=>?_⟩
   have:=zL9.1 ha
   obtain ⟨i,hi,_,rfl⟩:=this
   have:=List.mem_singleton.1 hb
   omega
  ·exact zJJ k
theorem zSB {l:List Int} {x:Int}:x∈zFD l↔x∈l:=by simp [zFD]
theorem zLk {l:List Int}:(zFD l).length=l.length:=by simp [zFD]
theorem zUv (l:List Int):(zFD l).Pairwise (· ≤ ·):=by
 have:=List.pairwise_mergeSort (le:=fun (x y:Int)=>decide (x≤y)) (fun a b c h1 h2=>by simp at *;omega) (fun a b=>by simp;omega) l
 exact this.imp (by simp)
theorem zTM {l:List Int} (h:l.Nodup):(zFD l).Pairwise (· < ·):=by
 have h1:=zUv l
 have h2:(zFD l).Nodup:=(List.mergeSort_perm l _).nodup_iff.2 h
 have:=h1.and h2
 exact this.imp (fun ⟨a,b⟩=>by omega)
theorem zTn {l:List Int} {p:Nat→Bool} {k:Nat} (yW:l.Nodup) (hm:∀ x,x∈l↔∃ i:Nat,i<k∧p i=true∧x=i):zFD l=zEw p k :=
 zQ9 (zTM yW) (zJJ k) fun x=>by rw [zSB,hm,zL9]
def zPq (w:List Int) (h:Nat):List Int:=(w.drop (h*8)).take 8
def zW8 (w:List Int) (h:Nat):List Int:=(zPq w h).filter fun x=>decide (x≠-1)
theorem zK4 {n:Nw} {K:List (List Bool)} {w:List Int} {h:Nat} (ho:NwOk n) (hr:RelK n K w) (hh:h<n.h.toNat):zFD (zW8 w h)=zEw (hld n w h) n.n.length:=by
 have hH:=ho.h
 have gr:=hr.wl
 have hrl:(zPq w h).length=8:=by simp [zPq];omega
 have j9:∀ c,c<8→(zPq w h).getD c 0=w.getD (h*8+c) 0:=fun c hc=>zLx hc
 refine zTn ?_ fun x=>?_
 ·unfold zW8
  rw [List.Nodup,List.pairwise_filter,List.pairwise_iff_getElem]
  intro i j hi hj hij h1 h2
  have e1:=j9 i (by omega)
  have e2:=j9 j (by omega)
  rw [zAA hi] at e1
  rw [zAA hj] at e2
  rw [e1] at h1 ⊢
  rw [e2] at h2 ⊢
  simp only [decide_eq_true_eq] at h1 h2
  intro he
  rcases hr.at_ h i hh (by omega) with h3 | ⟨a,_,h4,h5,_⟩
  ·exact h1 h3
  rcases hr.at_ h j hh (by omega) with h6 | ⟨b,_,h7,h8,_⟩
  ·exact h2 h6
  have:a=b:=by omega
  subst this
  omega
 ·simp only [zW8,List.mem_filter,decide_eq_true_eq,hld]
  constructor
  ·rintro ⟨h1,h2⟩
   obtain ⟨c,hc,rfl⟩:=List.getElem_of_mem h1
   have e1:=j9 c (by omega)
   rw [zAA hc] at e1
   rw [e1] at h2 ⊢
   rcases hr.at_ h c hh (by omega) with h3 | ⟨a,ha,h4,h5,_⟩
   ·exact absurd h3 h2
   refine ⟨a,ha,?_,h5⟩
   rw [h4]
   simpa using h5
  ·rintro ⟨i,hi,h1,rfl⟩
   have hf:=zB7 ho i hi
   have ud:=ho.nl
   refine ⟨?_,by omega⟩
   have e1:=j9 ((zAj n).getD i 0).toNat (by omega)
   rw [h1] at e1
   have yJ:((zAj n).getD i 0).toNat<(zPq w h).length:=by omega
   rw [zAA yJ] at e1
   rw [← e1]
   exact List.getElem_mem yJ
end Go.Eng
set_option maxRecDepth 10000
set_option maxHeartbeats 4000000
namespace Go.Eng
open Go Go.Proofs
end Go.Eng
set_option maxRecDepth 10000
set_option maxHeartbeats 4000000
namespace Go.Eng
open Go Go.Proofs
end Go.Eng
namespace Go.Eng
open Go Go.Proofs
end Go.Eng
namespace Go.Eng
open Go Go.Proofs
theorem zJ9 {α:Type} {p q:α→Bool}:∀ {l:List α},(∀ x∈l,p x=true→q x=true)→l.countP p≤l.countP q
 | [],_=>Nat.le_refl _
 | a::l,h=>by
  have ih:=zJ9 (l:=l) fun x hx=>h x (List.mem_cons_of_mem _ hx)
  have h1:=h a List.mem_cons_self
  rw [List.countP_cons,List.countP_cons]
  cases hp:p a
  ·rw [if_neg (by simp)];split<;>omega
  ·rw [h1 hp,if_pos rfl];omega
theorem zJ8 {α:Type} {p q:α→Bool}:∀ {l:List α},(∀ x∈l,p x=true→q x=true)→(∃ x∈l,q x=true∧p x=false)→l.countP p<l.countP q
 | [],_,⟨_,h,_⟩=>absurd h List.not_mem_nil
 | a :: l,h,⟨x,hx,h1,h2⟩=>by
  have hl:=fun x (hx:x∈l)=>h x (List.mem_cons_of_mem _ hx)
  have ha:=h a List.mem_cons_self
  rw [List.countP_cons,List.countP_cons]
  rcases List.mem_cons.1 hx with e | hm
  ·subst e
   have ih:=zJ9 hl
   rw [h2,if_neg (by simp),h1,if_pos rfl];omega
  ·have ih:=zJ8 hl ⟨x,hm,h1,h2⟩
   cases hp:p a
   ·rw [if_neg (by simp)];split<;>omega
   ·rw [ha hp,if_pos rfl];omega
theorem zXT {H:Nat} (p:Nat→Nat→Bool) (hm:∀ e h,h<H→p e h=true→p (e+1) h=true) (hd:∀ e,(∀ h,h<H→p (e+1) h=p e h)→∀ h,h<H→p (e+1+1) h=p (e+1) h) (h0:(∀ h,h<H→p 0 h=false)→∀ h,h<H→p 1 h=false) {e:Nat} (he:H≤e+1):∀ h,h<H→p (e+1) h=p e h:=by
 have kf:∀ k e,(∀ h,h<H→p (e+1) h=p e h)→∀ h,h<H→p (e+k+1) h=p (e+k) h:=by
  intro k
  induction k with
  | zero=>intro e h;exact h
  | succ k ih=>intro e h;exact hd (e+k) (ih e h)
 apply Classical.byContradiction
 intro hI
 have wK:∀ e',e'≤e→∃ h,h<H∧p (e'+1) h=true∧p e' h=false:=by
  intro e' h1
  apply Classical.byContradiction
  intro h2
  apply hI
  have h3:∀ h,h<H→p (e'+1) h=p e' h:=by
   intro h hh
   cases hp:p e' h
   ·cases hq:p (e'+1) h
    ·rfl
    ·exact absurd ⟨h,hh,hq,hp⟩ h2
   ·exact hm e' h hh hp
  have:=kf (e-e') e' h3
  rwa [show e'+(e-e')=e by omega] at this
 have hc:∀ k,k≤e+1→k+1≤(List.range H).countP (p k):=by
  intro k
  induction k with
  | zero =>
   intro _
   apply Classical.byContradiction
   intro hz
   have kA:(List.range H).countP (p 0)=0:=by omega
   rw [List.countP_eq_zero] at kA
   obtain ⟨h,hh,h1,_⟩:=wK 0 (Nat.zero_le _)
   have:=h0 (fun h hh=>by simpa using kA h (List.mem_range.2 hh)) h hh
   rw [this] at h1;cases h1
  | succ k ih =>
   intro hk
   have ih:=ih (by omega)
   obtain ⟨h,hh,h1,h2⟩:=wK k (by omega)
   have:=zJ8 (l:=List.range H) (fun x hx=>hm k x (List.mem_range.1 hx)) ⟨h,List.mem_range.2 hh,h1,h2⟩
   omega
 have h1:=hc (e+1) (Nat.le_refl _)
 have h2:=List.countP_le_length (p:=p (e+1)) (l:=List.range H)
 rw [List.length_range] at h2
 omega
theorem zUD {a b v:Int}:v≤max a b↔v≤a∨v≤b:=by omega
theorem zQj {now w:List Int} {h o:Nat} (hw:w.length=80) (hh:h<10) {j:Nat} {v:Int}:∀ k,k≤8→(v≤(nxtR now h o w k).getD j 0↔v≤w.getD j 0∨∃ c,c<k∧j=h*8+c∧v≤now.getD (o*8+c) 0)
 | 0,_=>by
  refine ⟨.inl,fun h=>h.elim id fun ⟨c,h,_⟩=>absurd h (Nat.not_lt_zero c)⟩
 | k + 1,hk=>by
  have ih:=zQj (now:=now) (o:=o) hw hh (j:=j) (v:=v) k (by omega)
  rw [zJe,zH4 (by rw [zGY,hw];omega)]
  split
  ·rename_i e
   rw [zUD,ih]
   constructor
   ·rintro ((h1 | ⟨c,h1,h2,h3⟩) | h1)
    ·exact .inl h1
    ·exact .inr ⟨c,by omega,h2,h3⟩
    ·exact .inr ⟨k,by omega,e.symm,h1⟩
   ·rintro (h1 | ⟨c,h1,h2,h3⟩)
    ·exact .inl (.inl h1)
    ·obtain rfl:c=k:=by omega
     exact .inr h3
  ·rename_i e
   rw [ih]
   refine or_congr Iff.rfl ⟨fun ⟨c,h1,h2,h3⟩=>⟨c,by omega,h2,h3⟩,fun ⟨c,h1,h2,h3⟩=>⟨c,?_,h2,h3⟩⟩
   by_cases hc:c=k
   ·subst hc;exact absurd h2.symm e
   ·omega
theorem zQf {now:List Int} {h:Nat} (hh:h<10) {j:Nat} {v:Int}:∀ (l:List Nat) {w:List Int},w.length=80→(v≤(nxtH now h w l).getD j 0↔v≤w.getD j 0∨∃ o∈l,∃ c,c<8∧j=h*8+c∧v≤now.getD (o*8+c) 0)
 | [],w,hw=>⟨.inl,fun h=>h.elim id fun ⟨o,h,_⟩=>absurd h List.not_mem_nil⟩
 | o :: l,w,hw=>by
  have ih:=zQf (now:=now) hh (j:=j) (v:=v) l (w:=nxtR now h o w 8) (by rw [zGY,hw])
  show v≤(nxtH now h (nxtR now h o w 8) l).getD j 0↔_
  rw [ih,zQj hw hh 8 (Nat.le_refl _)]
  constructor
  ·rintro ((h1 | h1) | ⟨o2,h1,h2⟩)
   ·exact .inl h1
   ·exact .inr ⟨o,List.mem_cons_self,h1⟩
   ·exact .inr ⟨o2,List.mem_cons_of_mem _ h1,h2⟩
  ·rintro (h1 | ⟨o2,h1,h2⟩)
   ·exact .inl (.inl h1)
   ·rcases List.mem_cons.1 h1 with e | h3
    ·subst e;exact .inl (.inr h2)
    ·exact .inr ⟨o2,h3,h2⟩
theorem zK2 {n:Nw} {now:List Int} (hw:now.length=80) {j:Nat} {v:Int}:∀ k,k≤10→(v≤(nxtN n now k).getD j 0↔v≤now.getD j 0∨∃ h,h<k∧∃ o∈zHi n h n.h.toNat,∃ c,c<8∧j=h*8+c∧v≤now.getD (o*8+c) 0)
 | 0,_=>⟨.inl,fun h=>h.elim id fun ⟨c,h,_⟩=>absurd h (Nat.not_lt_zero c)⟩
 | k + 1,hk=>by
  have ih:=zK2 (n:=n) hw (j:=j) (v:=v) k (by omega)
  rw [zJD,zQf (by omega) _ (by rw [zIa,hw]),ih]
  constructor
  ·rintro ((h1 | ⟨h,h1,h2⟩) | h2)
   ·exact .inl h1
   ·exact .inr ⟨h,by omega,h2⟩
   ·exact .inr ⟨k,by omega,h2⟩
  ·rintro (h1 | ⟨h,h1,h2⟩)
   ·exact .inl (.inl h1)
   ·by_cases e:h=k
    ·subst e;exact .inr h2
    ·exact .inl (.inr ⟨h,by omega,h2⟩)
theorem zVk {n:Nw} (ho:NwOk n) {w:List Int} (hw:w.length=80) {h c:Nat} (hh:h<n.h.toNat) (hc:c<8) {v:Int}:v≤(zCg n w).getD (h*8+c) 0↔v≤w.getD (h*8+c) 0∨∃ o∈zHi n h n.h.toNat,v≤w.getD (o*8+c) 0:=by
 have hH:=ho.h
 unfold zCg
 rw [zK2 hw _ (by omega)]
 refine or_congr Iff.rfl ⟨fun ⟨h2,h3,o,h4,c2,h5,h6,h7⟩=>?_,fun ⟨o,h1,h2⟩=>⟨h,hh,o,h1,c,hc,rfl,h2⟩⟩
 obtain rfl:h2=h:=by omega
 obtain rfl:c2=c:=by omega
 exact ⟨o,h4,h7⟩
theorem zQG {n:Nw} (ho:NwOk n) {w:List Int} (hw:w.length=80) {j:Nat} (hj:n.h.toNat*8≤j):(zCg n w).getD j 0=w.getD j 0:=by
 have hH:=ho.h
 have key:∀ v:Int,v≤(zCg n w).getD j 0↔v≤w.getD j 0:=fun v=>by
  unfold zCg
  rw [zK2 hw _ (by omega)]
  refine ⟨fun h=>h.elim id fun ⟨h2,h3,o,h4,c2,h5,h6,h7⟩=>?_,.inl⟩
  omega
 have h1:=(key _).1 (Int.le_refl _)
 have h2:=(key _).2 (Int.le_refl _)
 omega
theorem zMX {n:Nw} (ho:NwOk n) {w:List Int} (hw:w.length=80) (j:Nat):w.getD j 0≤(zCg n w).getD j 0:=by
 have hH:=ho.h
 unfold zCg
 rw [zK2 hw _ (by omega)]
 exact .inl (Int.le_refl _)
theorem zHg {n:Nw} {cs:List (Int×Int)} (ho:NwOk n) {j:Nat} (hj:n.h.toNat*8≤j):∀ e,(zAU n cs e).getD j 0=(zAU n cs 0).getD j 0
 | 0=>rfl
 | e+1=>by
  show (zCg n (zAU n cs e)).getD j 0=_
  rw [zQG ho (zBr e) hj,zHg ho hj e]
theorem zQe {a b:List Int} (hl:a.length=b.length) (h:∀ j,j<a.length→a.getD j 0=b.getD j 0):a=b :=
 List.ext_getElem hl fun j h1 h2=>by have:=h j h1;rwa [zAA h1,zAA h2] at this
theorem zMp {n:Nw} {cs:List (Int×Int)} (ho:NwOk n) {e:Nat} (he:n.h.toNat≤e+1):zAU n cs (e+1)=zAU n cs e:=by
 refine zQe (by rw [zBr,zBr]) fun j hj=>?_
 rw [zBr] at hj
 by_cases hr:n.h.toNat*8≤j
 ·rw [zHg ho hr,zHg (n:=n) ho hr e]
 ·have hc:j % 8<8:=Nat.mod_lt _ (by omega)
  have hh:j / 8<n.h.toNat:=by omega
  have hj2:j=j / 8*8+j % 8:=by omega
  have key:∀ v:Int,v≤(zAU n cs (e+1)).getD j 0↔v≤(zAU n cs e).getD j 0:=fun v=>by
   have yK:∀ k h,h<n.h.toNat→(v≤(zAU n cs (k+1)).getD (h*8+j % 8) 0↔v≤(zAU n cs k).getD (h*8+j % 8) 0∨∃ o∈zHi n h n.h.toNat,v≤(zAU n cs k).getD (o*8+j % 8) 0):=fun k h hh=>zVk ho (zBr k) hh hc
   have qG:∀ h o,o∈zHi n h n.h.toNat→o<n.h.toNat:=fun h o hm=>List.mem_range.1 (List.mem_filter.1 hm).1
   have:=zXT (H:=n.h.toNat) (fun k h=>decide (v≤(zAU n cs k).getD (h*8+j % 8) 0)) (fun k h hh h1=>?_) (fun k h1 h hh=>?_) (fun h1 h hh=>?_) he (j / 8) hh
   ·simp only [decide_eq_decide] at this
    rw [← hj2] at this
    exact this
   ·simp only [decide_eq_true_eq] at h1 ⊢
    exact (yK k h hh).2 (.inl h1)
   ·simp only [decide_eq_decide] at h1 ⊢
    rw [yK (k+1) h hh,yK k h hh]
    constructor
    ·rintro (h2 | ⟨o,h2,h3⟩)
     ·exact h2
     ·exact .inr ⟨o,h2,(h1 o (qG h o h2)).1 h3⟩
    ·exact .inl
   ·simp only [decide_eq_false_iff_not] at h1 ⊢
    rw [yK 0 h hh]
    rintro (h2 | ⟨o,h2,h3⟩)
    ·exact h1 h hh h2
    ·exact h1 o (qG h o h2) h3
  have h1:=(key _).1 (Int.le_refl _)
  have h2:=(key _).2 (Int.le_refl _)
  omega
theorem zKG {n:Nw} {cs:List (Int×Int)} {k:Nat} (h:zAU n cs (k+1)=zAU n cs k):∀ e,k≤e→zAU n cs e=zAU n cs k:=by
 intro e he
 induction he with
 | refl=>rfl
 | step _ ih =>
  rename_i m _
  show zCg n (zAU n cs m)=_
  rw [ih];exact h
theorem zUC {n:Nw} {cs:List (Int×Int)} (ho:NwOk n):∃ k,k<n.h.toNat∧zAU n cs (k+1)=zAU n cs k∧∀ j,j<k→zAU n cs (j+1)≠zAU n cs j:=by
 have hH:=ho.h
 have wK:∃ k,zAU n cs (k+1)=zAU n cs k:=⟨n.h.toNat-1,zMp ho (by omega)⟩
 have gZ:∀ m,(∃ k,k≤m∧zAU n cs (k+1)=zAU n cs k)→∃ k,k≤m∧zAU n cs (k+1)=zAU n cs k∧∀ j,j<k→zAU n cs (j+1)≠zAU n cs j:=by
  intro m
  induction m with
  | zero =>
   rintro ⟨k,h1,h2⟩
   exact ⟨k,h1,h2,fun j hj=>by omega⟩
  | succ m ih =>
   rintro ⟨k,h1,h2⟩
   by_cases hx:∃ k,k≤m∧zAU n cs (k+1)=zAU n cs k
   ·obtain ⟨k,g1,g2,g3⟩:=ih hx
    exact ⟨k,by omega,g2,g3⟩
   ·exact ⟨k,h1,h2,fun j hj he=>hx ⟨j,by omega,he⟩⟩
 obtain ⟨k,h1,h2,h3⟩:=gZ (n.h.toNat-1) ⟨n.h.toNat-1,Nat.le_refl _,zMp ho (by omega)⟩
 exact ⟨k,by omega,h2,h3⟩
end Go.Eng
namespace Go.Eng
open Go Go.Proofs
theorem zRj {p:Nat→Bool} {k:Nat} {x:Int}:x∈zEw p k↔∃ i:Nat,i<k∧p i=true∧x=i:=by
 simp only [zEw,List.mem_map,List.mem_filter,List.mem_range]
 exact ⟨fun ⟨i,⟨h1,h2⟩,h3⟩=>⟨i,h1,h2,h3.symm⟩,fun ⟨i,h1,h2,h3⟩=>⟨i,⟨h1,h2⟩,h3.symm⟩⟩
end Go.Eng
set_option maxHeartbeats 1000000
namespace Go.Eng
open Go
def hoL (n:Nw) (cs:List (Int×Int)) (k h:Nat):List Int:=zEw (hld n (zAU n cs k) h) n.n.length
theorem zJb {n:Nw} {cs:List (Int×Int)} {k h:Nat} {x:Int}:x∈hoL n cs k h↔∃ i:Nat,i<n.n.length∧(zAU n cs k).getD (h*8+((zAj n).getD i 0).toNat) 0=i∧x=i:=by
 unfold hoL
 rw [zRj]
 constructor
 ·rintro ⟨i,h1,h2,h3⟩;exact ⟨i,h1,of_decide_eq_true h2,h3⟩
 ·rintro ⟨i,h1,h2,h3⟩;exact ⟨i,h1,decide_eq_true h2,h3⟩
theorem zVd {n:Nw} {cs:List (Int×Int)} {k h:Nat}:(hoL n cs k h).length≤n.n.length:=zLU
theorem zTp {n:Nw} {cs:List (Int×Int)} (ho:CrW n cs) {k h:Nat} (hh:h<n.h.toNat) {x:Int} (hx:x∈hoL n cs k h) :
  ∃ y∈hoL n cs (k+1) h,x≤y∧(0≤y∧y<n.n.length)∧(zAj n).getD y.toNat 0=(zAj n).getD x.toNat 0:=by
 obtain ⟨i,h1,h2,rfl⟩:=zJb.1 hx
 have hf:=zB7 ho.nw i h1
 have h8:=ho.nw.nl
 have hm:=zMX ho.nw (zBr (n:=n) (cs:=cs) k) (h*8+((zAj n).getD i 0).toNat)
 rw [h2] at hm
 rcases (zGp ho (k+1)).at_ h ((zAj n).getD i 0).toNat hh (by omega) with h3 | ⟨j,g1,g2,g3,_⟩
 ·have:(zAU n cs (k+1)).getD (h*8+((zAj n).getD i 0).toNat) 0=(zCg n (zAU n cs k)).getD (h*8+((zAj n).getD i 0).toNat) 0:=rfl
  omega
 ·have e:(zAU n cs (k+1)).getD (h*8+((zAj n).getD i 0).toNat) 0=(zCg n (zAU n cs k)).getD (h*8+((zAj n).getD i 0).toNat) 0:=rfl
  refine ⟨(j:Int),zJb.2 ⟨j,g1,by rw [g2,Int.toNat_natCast];exact g3,rfl⟩,by omega,by omega,?_⟩
  simp only [Int.toNat_natCast]
  rw [g2];omega
theorem zME {p:Int→Bool}:∀ {a b:List Int},a.length=b.length→(∀ i,i<a.length→p (a.getD i 0)=true→p (b.getD i 0)=true)→(a.filter p).length≤(b.filter p).length
 | [],[],_,_=>by simp
 | [],_::_,h,_=>by simp at h
 | _::_,[],h,_=>by simp at h
 | x :: a,y::b,h,hp=>by
  have ih:=zME (p:=p) (a:=a) (b:=b) (by simpa using h) fun i hi h1=>by
   have:=hp (i+1) (by simp;omega)
   simpa using this (by simpa using h1)
  have h0:=hp 0 (by simp)
  simp only [List.getD_cons_zero] at h0
  rw [List.filter_cons,List.filter_cons]
  by_cases hx:p x=true
  ·rw [if_pos hx,if_pos (h0 hx)];simp only [List.length_cons];omega
  ·rw [if_neg hx];split
   ·simp only [List.length_cons];omega
   ·exact ih
theorem zUy {w:List Int} {h i:Nat} (hi:i<8):(zPq w h).getD i 0=w.getD (h*8+i) 0:=zLx hi
theorem zRC {w:List Int} {h:Nat} (hw:w.length=80) (hh:h<10):(zPq w h).length=8:=by simp [zPq];omega
theorem zTU {n:Nw} {cs:List (Int×Int)} (ho:CrW n cs) {k h:Nat} (hh:h<n.h.toNat):(hoL n cs k h).length≤(hoL n cs (k+1) h).length:=by
 have hH:=ho.nw.h
 unfold hoL
 rw [← zK4 ho.nw (zGp ho k) hh,← zK4 ho.nw (zGp ho (k+1)) hh,zLk,zLk]
 have l1:=zRC (h:=h) (zBr (n:=n) (cs:=cs) k) (by omega)
 have l2:=zRC (h:=h) (zBr (n:=n) (cs:=cs) (k+1)) (by omega)
 refine zME (by rw [l1,l2]) fun i hi h1=>?_
 rw [zUy (by omega)] at h1 ⊢
 simp only [decide_eq_true_eq] at h1 ⊢
 have hm:(zAU n cs k).getD (h*8+i) 0≤(zAU n cs (k+1)).getD (h*8+i) 0:=zMX ho.nw (zBr (n:=n) (cs:=cs) k) (h*8+i)
 rcases (zGp ho k).at_ h i hh (by omega) with h3 | ⟨j,_,_,g3,_⟩<;>omega
theorem zVw {n:Nw} {cs:List (Int×Int)} (ho:CrW n cs) {k:Nat}:(∀ h,h<n.h.toNat→hoL n cs k h=hoL n cs (k+1) h)↔zAU n cs (k+1)=zAU n cs k:=by
 constructor
 ·intro hs
  refine (zQe (by rw [zBr,zBr]) fun j hj=>?_).symm
  rw [zBr] at hj
  by_cases gY:n.h.toNat*8≤j
  ·rw [zHg ho.nw gY,zHg ho.nw gY (k+1)]
  obtain ⟨h,c,hh,hc,rfl⟩:∃ h c,h<n.h.toNat∧c<8∧j=h*8+c:=⟨j / 8,j % 8,by omega,by omega,by omega⟩
  have key:∀ a b,hoL n cs a h=hoL n cs b h→(zAU n cs a).getD (h*8+c) 0≠-1→(zAU n cs b).getD (h*8+c) 0=(zAU n cs a).getD (h*8+c) 0:=by
   intro a b he hI
   rcases (zGp ho a).at_ h c hh hc with h3 | ⟨i,g1,g2,g3,_⟩
   ·exact absurd h3 hI
   have hm:(i:Int)∈hoL n cs a h:=zJb.2 ⟨i,g1,by rw [g2,Int.toNat_natCast];exact g3,rfl⟩
   rw [he] at hm
   obtain ⟨i',_,q2,q3⟩:=zJb.1 hm
   have:i=i':=by omega
   subst this
   rw [g2] at q2
   rw [g3];rwa [Int.toNat_natCast] at q2
  by_cases h1:(zAU n cs k).getD (h*8+c) 0 = -1
  ·by_cases h2:(zAU n cs (k+1)).getD (h*8+c) 0 = -1
   ·rw [h1,h2]
   ·exact key (k+1) k (hs h hh).symm h2
  ·exact (key k (k+1) (hs h hh) h1).symm
 ·intro he h _
  unfold hoL;rw [he]
def lgN (n:Nw) (cs:List (Int×Int)) (k:Nat):Int:=(List.range k).foldl (fun a k=>if (zBB n (zAU n cs k)).length>0 then (k:Int) else a) (-1)
theorem zF2 {n:Nw} {cs:List (Int×Int)} {k:Nat}:lgN n cs (k+1)=if (zBB n (zAU n cs k)).length>0 then (k:Int) else lgN n cs k:=by
 simp only [lgN,List.range_succ,List.foldl_append,List.foldl_cons,List.foldl_nil]
theorem zQI {n:Nw} {cs:List (Int×Int)}:∀ k,zQ3 n cs k=lgN n cs k+1
 | 0=>rfl
 | k+1=>by
  rw [zMI,zF2]
  by_cases h:zBB n (zAU n cs k)=[]
  ·rw [if_pos h,if_neg (by rw [h];simp),zQI k]
  ·rw [if_neg h,if_pos (List.length_pos_iff.2 h)]
theorem zT8 {n:Nw} {cs:List (Int×Int)}:∀ k,-1≤lgN n cs k∧lgN n cs k<k
 | 0=>by simp [lgN]
 | k+1=>by
  have:=zT8 (n:=n) (cs:=cs) k
  rw [zF2];split<;>omega
theorem zOI {n:Nw} {cs:List (Int×Int)} {a:Nat}:∀ b,a≤b→(∀ i,a≤i→i<b→zBB n (zAU n cs i)=[])→lgN n cs b=lgN n cs a:=by
 intro b hab
 induction hab with
 | refl=>intro _;rfl
 | step hab ih =>
  rename_i m
  intro h
  rw [zF2,h m hab (by omega),if_neg (by simp),ih fun i h1 h2=>h i h1 (by omega)]
theorem zTP {n:Nw} {cs:List (Int×Int)} {k0:Nat} (h0:k0<9) (hk:zAU n cs (k0+1)=zAU n cs k0) :
  (zBB n (zAU n cs 12)=[]→zQ3 n cs 12≤k0∧0≤zQ3 n cs 12∧zQ3 n cs 12=lgN n cs 10+1∧lgN n cs 10≠9)∧(zBB n (zAU n cs 12)≠[]→lgN n cs 10=9):=by
 have hs:=fun i (hi:k0≤i)=>zKG hk i hi
 have qS:=hs 12 (by omega)
 constructor
 ·intro hg
  have ju:∀ i,k0≤i→zBB n (zAU n cs i)=[]:=fun i hi=>by rw [hs i hi,← qS];exact hg
  have e1:=zOI (n:=n) (cs:=cs) (a:=k0) 12 (by omega) fun i h1 _=>ju i h1
  have e2:=zOI (n:=n) (cs:=cs) (a:=k0) 10 (by omega) fun i h1 _=>ju i h1
  have hb:=zT8 (n:=n) (cs:=cs) k0
  rw [zQI,e1,e2]
  omega
 ·intro hg
  rw [show (10:Nat)=9+1 from rfl,zF2,if_pos]
  ·rfl
  ·rw [hs 9 (by omega),← qS];exact List.length_pos_iff.2 hg
end Go.Eng
