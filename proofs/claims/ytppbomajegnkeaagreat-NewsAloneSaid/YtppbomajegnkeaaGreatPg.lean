/- For all numbers, cries, which and when the law NewsAlone ends in true: chains do not matter to each other; without conditions. -/
import Derived.Test.YtppbomajegnkeaaGreatPf
import Derived.Test.YtppbomajegnkeaaGreatPd
import Derived.Test.YtppbomajegnkeaaGreatPe
set_option linter.unusedVariables false
set_option linter.unusedSimpArgs false
set_option linter.unusedSectionVars false
set_option maxRecDepth 10000
set_option maxHeartbeats 4000000
namespace Go.Eng
open Go Go.Proofs
abbrev hdV (w:List Int):PV := .agg (zAM w 80)
def zQb (w:List Int) (i:Nat) (x:Int):List Int:=w.set i (max (w.getD i 0) x)
theorem zIs {w:List Int} {i:Nat} {x:Int}:(zQb w i x).length=w.length:=by simp [zQb]
def begC (n:Nw) (h:Nat) (w:List Int) (c:Int×Int):List Int:=if has (n.s.getD c.2.toNat []) h=true then zQb w (h*8+((zAh n).getD c.1.toNat 0).toNat) c.1 else w
def begH (n:Nw) (h:Nat) (w:List Int) (cs:List (Int×Int)):List Int:=cs.foldl (begC n h) w
def begN (n:Nw) (cs:List (Int×Int)) (h:Nat):List Int:=(List.range h).foldl (fun w h=>begH n h w cs) (List.replicate 80 (-1))
def nxtR (now:List Int) (h o:Nat) (w:List Int) (k:Nat):List Int:=(List.range k).foldl (fun w i=>zQb w (h*8+i) (now.getD (o*8+i) 0)) w
def nxtH (now:List Int) (h:Nat) (w:List Int) (l:List Nat):List Int:=l.foldl (fun w o=>nxtR now h o w 8) w
def nxtN (n:Nw) (now:List Int) (h:Nat):List Int:=(List.range h).foldl (fun w h=>nxtH now h w (zHT n h n.h.toNat)) now
def zLL (n:Nw) (cs:List (Int×Int)):List Int:=begN n cs n.h.toNat
def zCZ (n:Nw) (now:List Int):List Int:=nxtN n now n.h.toNat
def zBl (n:Nw) (cs:List (Int×Int)):Nat→List Int
 | 0=>zLL n cs
 | k+1=>zCZ n (zBl n cs k)
theorem zT3 {n:Nw} {h:Nat} {w:List Int} {c:Int×Int}:(begC n h w c).length=w.length:=by unfold begC;split<;>simp [zIs]
theorem zLE {n:Nw} {h:Nat}:∀ {cs:List (Int×Int)} {w:List Int},(begH n h w cs).length=w.length
 | [],w=>rfl
 | c::cs,w=>by
  show (begH n h (begC n h w c) cs).length=_
  rw [zLE,zT3]
theorem zJk {n:Nw} {cs:List (Int×Int)} {h:Nat}:begN n cs (h+1)=begH n h (begN n cs h) cs:=by
 simp only [begN,List.range_succ,List.foldl_append,List.foldl_cons,List.foldl_nil]
theorem zK7 {n:Nw} {cs:List (Int×Int)}:∀ h,(begN n cs h).length=80
 | 0=>by simp [begN]
 | h+1=>by rw [zJk,zLE];exact zK7 h
theorem zQT {n:Nw} {h:Nat} {w:List Int} {cs:List (Int×Int)} {i:Nat} (hi:i<cs.length):begH n h w (cs.take (i+1))=begC n h (begH n h w (cs.take i)) (cs.getD i default):=zGo hi
theorem zIN {now w:List Int} {h o k:Nat}:nxtR now h o w (k+1)=zQb (nxtR now h o w k) (h*8+k) (now.getD (o*8+k) 0):=by
 simp only [nxtR,List.range_succ,List.foldl_append,List.foldl_cons,List.foldl_nil]
theorem zHi {now w:List Int} {h o:Nat}:∀ k,(nxtR now h o w k).length=w.length
 | 0=>rfl
 | k+1=>by rw [zIN,zIs];exact zHi k
theorem zLo {now:List Int} {h:Nat}:∀ {l:List Nat} {w:List Int},(nxtH now h w l).length=w.length
 | [],_=>rfl
 | o::l,w=>by
  show (nxtH now h (nxtR now h o w 8) l).length=_
  rw [zLo,zHi]
theorem zJb {n:Nw} {now:List Int} {h:Nat}:nxtN n now (h+1)=nxtH now h (nxtN n now h) (zHT n h n.h.toNat):=by
 simp only [nxtN,List.range_succ,List.foldl_append,List.foldl_cons,List.foldl_nil]
theorem zIw {n:Nw} {now:List Int}:∀ h,(nxtN n now h).length=now.length
 | 0=>rfl
 | h+1=>by rw [zJb,zLo];exact zIw h
theorem zSe {now:List Int} {h:Nat} {w:List Int} {l:List Nat} {i:Nat} (hi:i<l.length):nxtH now h w (l.take (i+1))=nxtR now h (l.getD i 0) (nxtH now h w (l.take i)) 8:=zGo hi
theorem zOt {n:Nw} {cs:List (Int×Int)}:(zLL n cs).length=80:=zK7 _
theorem zR0 {n:Nw} {w:List Int} (h:w.length=80):(zCZ n w).length=80:=by rw [zCZ,zIw,h]
theorem zB6 {n:Nw} {cs:List (Int×Int)}:∀ k,(zBl n cs k).length=80
 | 0=>zOt
 | k+1=>zR0 (zB6 k)
theorem zII {F:List Int} {i:Nat} {a:Int} (hF:F.length=8) (hi:i<8) (ha : -1≤a∧a<i) (j:Nat):(zMA F i a).getD j 0=if j=i then (if a = -1 then (i:Int) else F.getD a.toNat 0) else F.getD j 0:=by
 unfold zMA
 by_cases hj:j=i
 ·subst hj
  rw [if_pos rfl]
  split
  ·rw [zCP,if_pos ⟨rfl,by omega⟩]
  ·rw [zCP,if_pos ⟨rfl,by simp;omega⟩,zCP,if_neg (by omega)]
 ·rw [if_neg hj]
  split
  ·rw [zCP,if_neg (fun h=>hj h.1.symm)]
  ·rw [zCP,if_neg (fun h=>hj h.1.symm),zCP,if_neg (fun h=>hj h.1.symm)]
theorem zN3 {n:Nw} (ho:NwOk n):∀ i,i≤n.n.length→∀ j,j<i→0≤(zOv n.n i).getD j 0∧(zOv n.n i).getD j 0≤j
 | 0,_,j,hj=>absurd hj (Nat.not_lt_zero j)
 | i + 1,hi,j,hj=>by
  have h8:=ho.nl.2
  have ha:=ho.na i (by omega)
  rw [zOv,zII (zG5 i) (by omega) ha]
  split
  ·subst j
   split
   ·omega
   ·have:=zN3 ho i (by omega) ((n.n.getD i default).1.toNat) (by omega)
    omega
  ·exact zN3 ho i (by omega) j (by omega)
theorem zBz {n:Nw} (ho:NwOk n) (j:Nat) (hj:j<n.n.length):0≤(zAh n).getD j 0∧(zAh n).getD j 0≤j:=zN3 ho _ (Nat.le_refl _) j hj
theorem f100 (n:Nw) (cs:List (Int×Int)) (ho:CrW n cs):FG 100 [zDN n cs] (hdV (zLL n cs)):=by
 have hb:=ho.nw.h
 have hn:=ho.nw
 have yO:=ho.len
 refine zAe Tryz.f100 ?_
 refine zAd 1<|zAa<|zAd 1<|zAa<|zAi<|zAd 1<|zAa<|zAk 0 ?_
 refine zAA (fun (h,w)=>h≤10∧w.length=80∧∀ j,j<h*8→w.getD j 0 = -1) (fun (h,w)=>[(3,.box (hdV w)),(11,I (h:Nat))]) (fun (h,_)=>10-h) ((0:Nat),List.replicate 80 0) ⟨by omega,rfl,fun j h=>by omega⟩ fun (h,w) ⟨hh,hw,ha⟩=>?_
 by_cases qm:h<10
 ·refine zAd 1<|zAa<|zAi<|zA8 ((↑h:Int)<10) (by omega)<|zAl<|zAi<|zAk 1<|zAd 2<|zAa<|zAd 1<|zAa<|zAk 2 ?_
  refine zAA (fun (i,v)=>i≤8∧v.length=80∧∀ j,j<h*8+i→v.getD j 0 = -1) (fun (i,v)=>[(3,.box (hdV v)),(14,I (i:Nat))]) (fun (i,_)=>8-i) ((0:Nat),w) ⟨by omega,hw,fun j h=>ha j (by omega)⟩ fun (i,v) ⟨hi,hv,hav⟩=>?_
  by_cases yV:i<8
  ·refine zAd 1<|zAa<|zAi<|zA8 ((↑i:Int)<8) (by omega)<|zAl<|zAi<|zAk 3<|zAd 2<|zAa<|zAg<|zAc 2<|S_a [(2,.ob)] (ap ((by exact zAs (by omega)):decide (h<10)=true) an)<|S_a [(2,.ob)] (ap ((by exact zAs (by omega)):decide (i<8)=true) an)<|S_a [(7,.root ((PV.agg (zAM (v.set (h*8+i) (-1)) 80)).box) true)] (ap (zP0 (zKe (q:=(PV.agg (zAM v 80)).box) (xs:=[PV.agg (zAM v 80)]) (x:=PV.agg (zAM v 80)) (y:=PV.agg (zAM (v.set (h*8+i) (-1)) 80)) (q':=(PV.agg (zAM (v.set (h*8+i) (-1)) 80)).box) rfl (zNo (F:=v) (m:=80) (j:=h*8+i) (u:=-1) (by first | rfl | exact zBT (by kernel_rfl) | exact zBW (by kernel_rfl) | exact zC9 (by kernel_rfl) (by kernel_rfl) | exact zC3 (by kernel_rfl) | exact zDq (by kernel_rfl) (by kernel_rfl) | exact zDh (by kernel_rfl) | (simp;done)) (by omega) (by omega)) rfl (hb:=zNq (F:=v) (m:=80) (j:=h*8+i) (by first | rfl | exact zBT (by kernel_rfl) | exact zBW (by kernel_rfl) | exact zC9 (by kernel_rfl) (by kernel_rfl) | exact zC3 (by kernel_rfl) | exact zDq (by kernel_rfl) (by kernel_rfl) | exact zDh (by kernel_rfl) | (simp;done)) (by omega))) rfl:zBP (PV.agg (zAM v 80)).box [] 0 (0+(↑h:Int).toNat*(fun x=>x.size) Tryz.prog.types[128]+(↑i:Int).toNat*(fun x=>x.size) Tryz.prog.types[3]) (I (-1)).cells=some (PV.agg (zAM (v.set (h*8+i) (-1)) 80)).box∧zAN (PV.agg (zAM v 80)).box (PV.agg (zAM (v.set (h*8+i) (-1)) 80)).box []=true) an)<|zAa<|zAg<|S_a [(1,.v (I (↑(i+1):Int)))] (ap (wrN i) an)<|zAc 1<|zAa ?_
   refine ⟨(i+1,v.set (h*8+i) (-1)),⟨by omega,by simpa using hv,fun j hj=>?_⟩,by simp only;omega,by kernel_rfl,by kernel_rfl⟩
   rw [zCP]
   split
   ·rfl
   ·exact hav j (by omega)
  ·refine zAd 1<|zAa<|zAi<|zBk ((↑i:Int)<8) (by omega)<|zAS 2<|zAg<|S_a [(1,.v (I (↑(h+1):Int)))] (ap (wrN h) an)<|zAc 1<|zAa ?_
   exact ⟨(h+1,v),⟨by omega,hv,fun j hj=>hav j (by omega)⟩,by simp only;omega,by kernel_rfl,by kernel_rfl⟩
 ·have hw0:w=List.replicate 80 (-1):=by
   refine List.ext_getElem (by simp [hw]) fun j h1 h2=>?_
   have:=ha j (by omega)
   rw [zAy h1] at this
   rw [this,List.getElem_replicate]
  clear ha
  have hw0':begN n cs 0=w:=by rw [hw0];rfl
  clear hw0
  refine zAd 1<|zAa<|zAi<|zBk ((↑h:Int)<10) (by omega)<|zAS 0<|zAd 3<|zAa<|zAi<|zAd 6<|zAa<|zAk 4 ?_
  refine zAA (fun (h,v)=>h≤n.h.toNat∧v=begN n cs h) (fun (h,v)=>[(3,.box (hdV v)),(30,I (h:Nat))]) (fun (h,_)=>n.h.toNat-h) ((0:Nat),w) ⟨by omega,hw0'.symm⟩ fun (h,v) ⟨hh,hv⟩=>?_
  have jr:v.length=80:=by rw [hv];exact zK7 h
  by_cases qm:(h:Int)<n.h
  ·have yJ:=zJk (n:=n) (cs:=cs) (h:=h)
   rw [← hv] at yJ
   refine zAd 1<|zAa<|zAi<|zA8 ((↑h:Int)<n.h) (by omega)<|zAl<|zAi<|zAk 5<|zAd 2<|zAa<|zAd 4<|S_a [(0,.n cs.length)] (ap (lnS prV cs) an)<|zAc 1<|zAa<|zAk 6 ?_
   refine zAA (fun (i,q)=>i≤cs.length∧q=begH n h v (cs.take i)) (fun (i,q)=>[(3,.box (hdV q)),(38,I (i:Nat))]) (fun (i,_)=>cs.length-i) ((0:Nat),v) ⟨by omega,rfl⟩ fun (i,q) ⟨hi,hq⟩=>?_
   have ql:q.length=80:=by rw [hq,zLE];exact jr
   by_cases yV:i<cs.length
   ·have hci:=zDk (d:=default) ho.cs i yV
    have yW:=zQT (n:=n) (h:=h) (w:=v) yV
    rw [← hq] at yW
    have qn:=zBz hn (cs.getD i default).1.toNat (by omega)
    have uL:=hn.nl
    have jF:=hci.2
    have vU:0≤(cs.getD i default).1∧(cs.getD i default).1<8:=by omega
    have LD:((zAh n).getD (cs.getD i default).1.toNat 0).toNat<8:=by have:=hn.nl;omega
    clear yJ hv hq
    refine zAd 1<|zAa<|zAi<|zA8 ((↑i:Int)<(↑cs.length:Int)) (by omega)<|zAl<|zAi<|zAk 7<|zAi<|zAg<|S_a [(2,.v (PV.agg [I (cs.getD i default).fst,I (cs.getD i default).snd]))] (ap (zCI default (by omega):(List.map prV cs)[i]? = some (PV.agg [I (cs.getD i default).fst,I (cs.getD i default).snd])) an)<|zAc 3<|zAa<|zAd 4<|S_a [(9,.ret (PV.bool (has (n.s.getD (cs.getD i default).snd.toNat []) (↑h:Int))) [])] (ap (f140 n (prs cs) (List.map pr2 n.l) (zAh n) (zAW n) (by omega) ((↑h:Int)) ((cs.getD i default).snd) (by omega)) an)<|zAa<|zFe (has (n.s.getD (cs.getD i default).snd.toNat []) (↑h:Int)) (fun k0=>(zAd 5<|S_a [(0,.ob),(1,.ob),(0,.v ((I ((zAh n).getD (cs.getD i default).fst.toNat 0)).ref))] (ap ((by exact zAs (by omega)):decide (0≤(cs.getD i default).fst)=true)<|ap ((by exact zAs (by omega)):decide ((cs.getD i default).fst.toNat<8)=true)<|ap (zGr (F:=zAh n) (m:=8) (j:=(cs.getD i default).fst.toNat) (by omega):zCl (PV.agg (zAM (zAh n) 8)).ref ((cs.getD i default).fst.toNat*(fun x=>x.size) Tryz.prog.types[3]) none=some (I ((zAh n).getD (cs.getD i default).fst.toNat 0)).ref) an)<|zAc 2<|zAa<|zAg<|zAc 4<|S_a [(2,.ob)] (ap ((by exact zAs (by omega)):decide (h<10)=true) an)<|S_a [(0,.ob),(1,.ob)] (ap ((by exact zAs (by omega)):decide (0≤(zAh n).getD (cs.getD i default).fst.toNat 0)=true)<|ap ((by exact zAs (by omega)):decide (((zAh n).getD (cs.getD i default).fst.toNat 0).toNat<8)=true) an)<|S_a [(0,.cs true ([I (q.getD (h*8+((zAh n).getD (cs.getD i default).fst.toNat 0).toNat) 0)]))] (ap (zC8 (q:=(PV.agg (zAM q 80)).box) (xs:=[PV.agg (zAM q 80)]) (x:=PV.agg (zAM q 80)) rfl rfl (zES (F:=q) (m:=80) (j:=h*8+((zAh n).getD (cs.getD i default).fst.toNat 0).toNat) (by first | rfl | exact zBT (by kernel_rfl) | exact zBW (by kernel_rfl) | exact zC9 (by kernel_rfl) (by kernel_rfl) | exact zC3 (by kernel_rfl) | exact zDq (by kernel_rfl) (by kernel_rfl) | exact zDh (by kernel_rfl) | (simp;done)) (by omega)):zAr 3 (PV.agg (zAM q 80)).box [] 0 (0+(↑h:Int).toNat*(fun x=>x.size) Tryz.prog.types[128]+((zAh n).getD (cs.getD i default).fst.toNat 0).toNat*(fun x=>x.size) Tryz.prog.types[3]) 1=some (true,[I (q.getD (h*8+((zAh n).getD (cs.getD i default).fst.toNat 0).toNat) 0)])) an)<|zAc 3<|S_a [(9,.ret (I (max (q.getD (h*8+((zAh n).getD (cs.getD i default).fst.toNat 0).toNat) 0) (cs.getD i default).fst)) [])] (ap (f165 (q.getD (h*8+((zAh n).getD (cs.getD i default).fst.toNat 0).toNat) 0) ((cs.getD i default).fst)) an)<|S_a [(2,.ob)] (ap ((by exact zAs (by omega)):decide (h<10)=true) an)<|S_a [(0,.ob),(1,.ob)] (ap ((by exact zAs (by omega)):decide (0≤(zAh n).getD (cs.getD i default).fst.toNat 0)=true)<|ap ((by exact zAs (by omega)):decide (((zAh n).getD (cs.getD i default).fst.toNat 0).toNat<8)=true) an)<|S_a [(8,.root ((PV.agg (zAM (q.set (h*8+((zAh n).getD (cs.getD i default).fst.toNat 0).toNat) (max (q.getD (h*8+((zAh n).getD (cs.getD i default).fst.toNat 0).toNat) 0) (cs.getD i default).fst)) 80)).box) true)] (ap (zP0 (zKe (q:=(PV.agg (zAM q 80)).box) (xs:=[PV.agg (zAM q 80)]) (x:=PV.agg (zAM q 80)) (y:=PV.agg (zAM (q.set (h*8+((zAh n).getD (cs.getD i default).fst.toNat 0).toNat) (max (q.getD (h*8+((zAh n).getD (cs.getD i default).fst.toNat 0).toNat) 0) (cs.getD i default).fst)) 80)) (q':=(PV.agg (zAM (q.set (h*8+((zAh n).getD (cs.getD i default).fst.toNat 0).toNat) (max (q.getD (h*8+((zAh n).getD (cs.getD i default).fst.toNat 0).toNat) 0) (cs.getD i default).fst)) 80)).box) rfl (zNo (F:=q) (m:=80) (j:=h*8+((zAh n).getD (cs.getD i default).fst.toNat 0).toNat) (u:=max (q.getD (h*8+((zAh n).getD (cs.getD i default).fst.toNat 0).toNat) 0) (cs.getD i default).fst) (by first | rfl | exact zBT (by kernel_rfl) | exact zBW (by kernel_rfl) | exact zC9 (by kernel_rfl) (by kernel_rfl) | exact zC3 (by kernel_rfl) | exact zDq (by kernel_rfl) (by kernel_rfl) | exact zDh (by kernel_rfl) | (simp;done)) (by omega) (by omega)) rfl (hb:=zNq (F:=q) (m:=80) (j:=h*8+((zAh n).getD (cs.getD i default).fst.toNat 0).toNat) (by first | rfl | exact zBT (by kernel_rfl) | exact zBW (by kernel_rfl) | exact zC9 (by kernel_rfl) (by kernel_rfl) | exact zC3 (by kernel_rfl) | exact zDq (by kernel_rfl) (by kernel_rfl) | exact zDh (by kernel_rfl) | (simp;done)) (by omega))) rfl:zBP (PV.agg (zAM q 80)).box [] 0 (0+(↑h:Int).toNat*(fun x=>x.size) Tryz.prog.types[128]+((zAh n).getD (cs.getD i default).fst.toNat 0).toNat*(fun x=>x.size) Tryz.prog.types[3]) (I (max (q.getD (h*8+((zAh n).getD (cs.getD i default).fst.toNat 0).toNat) 0) (cs.getD i default).fst)).cells=some (PV.agg (zAM (q.set (h*8+((zAh n).getD (cs.getD i default).fst.toNat 0).toNat) (max (q.getD (h*8+((zAh n).getD (cs.getD i default).fst.toNat 0).toNat) 0) (cs.getD i default).fst)) 80)).box∧zAN (PV.agg (zAM q 80)).box (PV.agg (zAM (q.set (h*8+((zAh n).getD (cs.getD i default).fst.toNat 0).toNat) (max (q.getD (h*8+((zAh n).getD (cs.getD i default).fst.toNat 0).toNat) 0) (cs.getD i default).fst)) 80)).box []=true) an)<|zAa<|zAg<|S_a [(1,.v (I (↑(i+1):Int)))] (ap (wrN i) an)<|zAc 1<|zAa ?_)) (fun k0=>(zAl<|zAg<|S_a [(1,.v (I (↑(i+1):Int)))] (ap (wrN i) an)<|zAc 1<|zAa ?_))
    ·rw [begC,if_pos k0] at yW
     exact ⟨(i+1,zQb q (h*8+((zAh n).getD (cs.getD i default).1.toNat 0).toNat) (cs.getD i default).1),⟨by omega,yW.symm⟩,by simp only;omega,by kernel_rfl,by kernel_rfl⟩
    ·rw [begC,if_neg (by rw [k0];simp)] at yW
     exact ⟨(i+1,q),⟨by omega,yW.symm⟩,by simp only;omega,by kernel_rfl,by kernel_rfl⟩
   ·refine zAd 1<|zAa<|zAi<|zBk ((↑i:Int)<(↑cs.length:Int)) (by omega)<|zAS 6<|zAg<|S_a [(1,.v (I (↑(h+1):Int)))] (ap (wrN h) an)<|zAc 1<|zAa ?_
    rw [List.take_of_length_le (by omega)] at hq
    exact ⟨(h+1,q),⟨by omega,by rw [yJ,hq]⟩,by simp only;omega,by kernel_rfl,by kernel_rfl⟩
  ·have e:h=n.h.toNat:=by omega
   subst e
   refine zAd 1<|zAa<|zAi<|zBk ((↑n.h.toNat:Int)<n.h) (by omega)<|zAS 4<|zAd 2<|zAa<|zAn<|E_a [] an (PV.agg (zAM v 80)) [] ?_ rfl
   rw [hv];rfl
theorem zJM {n:Nw} {h o m:Nat} (ho:o∈zHT n h m):o<m:=by
 simp only [zHT,List.mem_filter,List.mem_range] at ho;exact ho.1
theorem zOp {w:List Int} {o i:Nat} (hi:i<8):((w.drop o).take 8).getD i 0=w.getD (o+i) 0:=by
 simp [List.getD_eq_getElem?_getD,List.getElem?_take,hi]
theorem f101 (n:Nw) (cs:List (Int×Int)) (now:List Int) (ho:NwOk n) (hw:now.length=80):FG 101 [zDN n cs,hdV now] (hdV (zCZ n now)):=by
 have hb:=ho.h
 refine zAe Tryz.f101 ?_
 refine zAd 2<|zAa<|zAd 3<|zAa<|zAi<|zAd 6<|zAa<|zAk 0 ?_
 refine zAA (fun (h,v)=>h≤n.h.toNat∧v=nxtN n now h) (fun (h,v)=>[(5,.box (hdV v)),(16,I (h:Nat))]) (fun (h,_)=>n.h.toNat-h) ((0:Nat),now) ⟨by omega,rfl⟩ fun (h,v) ⟨hh,hv⟩=>?_
 have jr:v.length=80:=by rw [hv,zIw];exact hw
 by_cases qm:(h:Int)<n.h
 ·have yJ:=zJb (n:=n) (now:=now) (h:=h)
  rw [← hv] at yJ
  have hA:=zUj n cs h ho qm
  refine zAd 1<|zAa<|zAi<|zA8 ((↑h:Int)<n.h) (by omega)<|zAl<|zAi<|zAk 1<|zAd 3<|zAa<|zAd 2<|S_a [(7,.ret (PV.func 169 [] [(zDN n cs).ref,(I (↑h:Int)).ref]) [])] (ap (f116 n cs ((↑h:Int))) an)<|zAa<|zAk 2 ?_
  refine zOJ (t:=21) hA (fun j q=>q=nxtH now h v ((zHT n h n.h.toNat).take j)) (fun q=>[(5,.box (hdV q))]) v rfl (fun j x q hx hq=>?_) (fun q hq=>?_)
  ·rw [List.getElem?_map] at hx
   obtain ⟨o,hm,rfl⟩:=Option.map_eq_some_iff.1 hx
   have hj:j<(zHT n h n.h.toNat).length:=(List.getElem?_eq_some_iff.1 hm).1
   have hol:o<n.h.toNat:=zJM (List.mem_of_getElem? hm)
   have ql:q.length=80:=by rw [hq,zLo];exact jr
   have yW:=zSe (now:=now) (h:=h) (w:=v) hj
   rw [← hq,show (zHT n h n.h.toNat).getD j 0=o by simp [List.getD_eq_getElem?_getD,hm]] at yW
   clear yJ hv hA hq hm hj
   refine zOF ?_
   refine zAg<|zAc 1<|zAa ?_
   refine ⟨rfl,by kernel_rfl,?_⟩
   refine zAk 3<|zAd 1<|S_a [(2,.ob)] (ap ((by exact zAs (by omega)):decide (o<10)=true) an)<|S_a [(0,.cs true (zAM (List.take 8 (List.drop (o*8) now)) 8))] (ap (zC8 (q:=(PV.agg (zAM now 80)).box) (xs:=[PV.agg (zAM now 80)]) (x:=PV.agg (zAM now 80)) rfl rfl (zUI (K:=8) (c:=o*8) (by omega) (by first | rfl | exact zBT (by kernel_rfl) | exact zBW (by kernel_rfl) | exact zDh (by kernel_rfl) | (simp;done)) (by omega) (by kernel_rfl)):zAr 3 (PV.agg (zAM now 80)).box [] 0 (0+(↑o:Int).toNat*(fun x=>x.size) Tryz.prog.types[128]) Tryz.prog.types[128].size=some (true,zAM (List.take 8 (List.drop (o*8) now)) 8)) an)<|zAc 1<|zAa<|zAk 4 ?_
   refine zAA (fun (i,p)=>i≤8∧p=nxtR now h o q i) (fun (i,p)=>[(5,.box (hdV p)),(26,I (i:Nat))]) (fun (i,_)=>8-i) ((0:Nat),q) ⟨by omega,rfl⟩ fun (i,p) ⟨hi,hp⟩=>?_
   have uk:p.length=80:=by rw [hp,zHi];exact ql
   by_cases yV:i<8
   ·have uJ:=zIN (now:=now) (w:=q) (h:=h) (o:=o) (k:=i)
    rw [← hp,← zOp yV] at uJ
    refine zAd 1<|zAa<|zAi<|zA8 ((↑i:Int)<8) (by omega)<|zAl<|zAi<|zAk 5<|zAd 1<|S_a [(2,.ob),(0,.v (I ((List.take 8 (List.drop (o*8) now)).getD i 0)))] (ap ((by exact zAs (by omega)):decide (i<8)=true)<|ap (zPf (F:=List.take 8 (List.drop (o*8) now)) (m:=8) (j:=i) (by omega):sub (PV.agg (zAM (List.take 8 (List.drop (o*8) now)) 8)) (i*(fun x=>x.size) Tryz.prog.types[3]) none=some (I ((List.take 8 (List.drop (o*8) now)).getD i 0))) an)<|zAc 2<|zAa<|zAg<|zAc 4<|S_a [(2,.ob)] (ap ((by exact zAs (by omega)):decide (h<10)=true) an)<|S_a [(2,.ob)] (ap ((by exact zAs (by omega)):decide (i<8)=true) an)<|S_a [(0,.cs true ([I (p.getD (h*8+i) 0)]))] (ap (zC8 (q:=(PV.agg (zAM p 80)).box) (xs:=[PV.agg (zAM p 80)]) (x:=PV.agg (zAM p 80)) rfl rfl (zES (F:=p) (m:=80) (j:=h*8+i) (by first | rfl | exact zBT (by kernel_rfl) | exact zBW (by kernel_rfl) | exact zC9 (by kernel_rfl) (by kernel_rfl) | exact zC3 (by kernel_rfl) | exact zDq (by kernel_rfl) (by kernel_rfl) | exact zDh (by kernel_rfl) | (simp;done)) (by omega)):zAr 5 (PV.agg (zAM p 80)).box [] 0 (0+(↑h:Int).toNat*(fun x=>x.size) Tryz.prog.types[128]+(↑i:Int).toNat*(fun x=>x.size) Tryz.prog.types[3]) 1=some (true,[I (p.getD (h*8+i) 0)])) an)<|zAc 2<|S_a [(9,.ret (I (max (p.getD (h*8+i) 0) ((List.take 8 (List.drop (o*8) now)).getD i 0))) [])] (ap (f165 (p.getD (h*8+i) 0) ((List.take 8 (List.drop (o*8) now)).getD i 0)) an)<|S_a [(2,.ob)] (ap ((by exact zAs (by omega)):decide (h<10)=true) an)<|S_a [(2,.ob)] (ap ((by exact zAs (by omega)):decide (i<8)=true) an)<|S_a [(8,.root ((PV.agg (zAM (p.set (h*8+i) (max (p.getD (h*8+i) 0) ((List.take 8 (List.drop (o*8) now)).getD i 0))) 80)).box) true)] (ap (zP0 (zKe (q:=(PV.agg (zAM p 80)).box) (xs:=[PV.agg (zAM p 80)]) (x:=PV.agg (zAM p 80)) (y:=PV.agg (zAM (p.set (h*8+i) (max (p.getD (h*8+i) 0) ((List.take 8 (List.drop (o*8) now)).getD i 0))) 80)) (q':=(PV.agg (zAM (p.set (h*8+i) (max (p.getD (h*8+i) 0) ((List.take 8 (List.drop (o*8) now)).getD i 0))) 80)).box) rfl (zNo (F:=p) (m:=80) (j:=h*8+i) (u:=max (p.getD (h*8+i) 0) ((List.take 8 (List.drop (o*8) now)).getD i 0)) (by first | rfl | exact zBT (by kernel_rfl) | exact zBW (by kernel_rfl) | exact zC9 (by kernel_rfl) (by kernel_rfl) | exact zC3 (by kernel_rfl) | exact zDq (by kernel_rfl) (by kernel_rfl) | exact zDh (by kernel_rfl) | (simp;done)) (by omega) (by omega)) rfl (hb:=zNq (F:=p) (m:=80) (j:=h*8+i) (by first | rfl | exact zBT (by kernel_rfl) | exact zBW (by kernel_rfl) | exact zC9 (by kernel_rfl) (by kernel_rfl) | exact zC3 (by kernel_rfl) | exact zDq (by kernel_rfl) (by kernel_rfl) | exact zDh (by kernel_rfl) | (simp;done)) (by omega))) rfl:zBP (PV.agg (zAM p 80)).box [] 0 (0+(↑h:Int).toNat*(fun x=>x.size) Tryz.prog.types[128]+(↑i:Int).toNat*(fun x=>x.size) Tryz.prog.types[3]) (I (max (p.getD (h*8+i) 0) ((List.take 8 (List.drop (o*8) now)).getD i 0))).cells=some (PV.agg (zAM (p.set (h*8+i) (max (p.getD (h*8+i) 0) ((List.take 8 (List.drop (o*8) now)).getD i 0))) 80)).box∧zAN (PV.agg (zAM p 80)).box (PV.agg (zAM (p.set (h*8+i) (max (p.getD (h*8+i) 0) ((List.take 8 (List.drop (o*8) now)).getD i 0))) 80)).box []=true) an)<|zAa<|zAg<|S_a [(1,.v (I (↑(i+1):Int)))] (ap (wrN i) an)<|zAc 1<|zAa ?_
    exact ⟨(i+1,_),⟨by omega,uJ.symm⟩,by simp only;omega,by kernel_rfl,by kernel_rfl⟩
   ·refine zAd 1<|zAa<|zAi<|zBk ((↑i:Int)<8) (by omega)<|zAS 4 ?_
    rw [show i=8 by omega] at hp
    exact ⟨by kernel_rfl,p,by rw [yW,hp],by kernel_rfl⟩
  ·rw [List.length_map,List.take_length] at hq
   show W _ _ _ _ _ _ _ _
   refine zAg<|S_a [(1,.v (I (↑(h+1):Int)))] (ap (wrN h) an)<|zAc 1<|zAa ?_
   exact ⟨(h+1,q),⟨by omega,by rw [yJ,hq]⟩,by simp only;omega,by kernel_rfl,by kernel_rfl⟩
 ·have e:h=n.h.toNat:=by omega
  subst e
  refine zAd 1<|zAa<|zAi<|zBk ((↑n.h.toNat:Int)<n.h) (by omega)<|zAS 0<|zAd 2<|zAa<|zAn<|E_a [] an (PV.agg (zAM v 80)) [] ?_ rfl
  rw [hv];rfl
end Go.Eng
set_option maxRecDepth 10000
set_option maxHeartbeats 4000000
namespace Go.Eng
open Go Go.Proofs
def zTY (n:Nw) (w:List Int) (h i:Nat):Bool:=decide (w.getD (h*8+((zAh n).getD i 0).toNat) 0=i)&&decide ((zAW n).getD i 0≠i)
def zQa (n:Nw) (w:List Int) (h k:Nat):List (Int×Int):=((List.range k).filter fun i=>zTY n w h i).map fun (i:Nat)=>((h:Int),(i:Int))
def zUs (n:Nw) (w:List Int) (h:Nat):List (Int×Int):=(List.range h).flatMap fun h=>zQa n w h n.n.length
def zB0 (n:Nw) (w:List Int):List (Int×Int):=zUs n w n.h.toNat
theorem zSt {n:Nw} {w:List Int} {h k:Nat}:zQa n w h (k+1)=if zTY n w h k=true then zQa n w h k++[((h:Int),(k:Int))] else zQa n w h k:=by
 unfold zQa;rw [List.range_succ,List.filter_append,List.map_append]
 by_cases hn:zTY n w h k=true
 ·rw [if_pos hn];simp [hn]
 ·rw [if_neg hn];simp [hn]
theorem zNc {n:Nw} {w:List Int} {h:Nat}:zUs n w (h+1)=zUs n w h++zQa n w h n.n.length:=by
 unfold zUs;rw [List.range_succ,List.flatMap_append];simp
theorem zOc {n:Nw} {w:List Int} {h k:Nat}:(zQa n w h k).length≤k:=by
 unfold zQa;rw [List.length_map];exact Nat.le_trans (List.length_filter_le _ _) (by simp)
theorem zK8 {n:Nw} {w:List Int}:∀ h,(zUs n w h).length≤h*n.n.length
 | 0=>by simp [zUs]
 | h+1=>by
  have h1:=zK8 (n:=n) (w:=w) h
  have h2:=zOc (n:=n) (w:=w) (h:=h) (k:=n.n.length)
  rw [zNc,List.length_append,Nat.succ_mul];omega
theorem zIM {n:Nw} {w:List Int} (ho:NwOk n):(zB0 n w).length≤80:=by
 have h1:=zK8 (n:=n) (w:=w) n.h.toNat
 have h2:=ho.h
 have h3:=ho.nl
 have h4:n.h.toNat*n.n.length≤10*8:=Nat.mul_le_mul (by omega) (by omega)
 unfold zB0;omega
theorem f92 (n:Nw) (cs:List (Int×Int)) (e:Int) (ho:CrW n cs) (he:0≤e∧e≤1000):FG 92 [zDN n cs,I e] (hdV (zBl n cs e.toNat)):=by
 have hn:=ho.nw
 refine zAe Tryz.f92 ?_
 refine zAd 1<|zAa<|zAd 1<|S_a [(5,.ret (hdV (zLL n cs)) [])] (ap (f100 n cs (by omega)) an)<|zAc 2<|zAa<|zAi<|zAd 2<|zAa<|zAk 0 ?_
 refine zAA (fun (k,w)=>k≤e.toNat∧w=zBl n cs k) (fun (k,w)=>[(5,.box (hdV w)),(9,I (k:Nat))]) (fun (k,_)=>e.toNat-k) ((0:Nat),zLL n cs) ⟨by omega,rfl⟩ fun (k,w) ⟨hk,hw⟩=>?_
 have gk:w.length=80:=by rw [hw];exact zB6 k
 by_cases vz:(k:Int)<e
 ·refine zAd 1<|zAa<|zAi<|zA8 ((↑k:Int)<e) (by omega)<|zAl<|zAi<|zAk 1<|zAg<|zAc 2<|S_a [(7,.ret (hdV (zCZ n w)) [])] (ap (f101 n cs w (by omega) (by omega)) an)<|zAc 1<|zAa<|zAg<|S_a [(1,.v (I (↑(k+1):Int)))] (ap (wrN k) an)<|zAc 1<|zAa ?_
  exact ⟨(k+1,zCZ n w),⟨by omega,by rw [hw];rfl⟩,by simp only;omega,by kernel_rfl,by kernel_rfl⟩
 ·refine zAd 1<|zAa<|zAi<|zBk ((↑k:Int)<e) (by omega)<|zAS 0<|zAd 2<|zAa<|zAn<|E_a [] an (PV.agg (zAM w 80)) [] ?_ rfl
  rw [hw,show k=e.toNat by omega]
theorem f91 (n:Nw) (cs:List (Int×Int)) (w:List Int) (ho:NwOk n) (hw:w.length=80):FG 91 [zDN n cs,hdV w] (.own 2 ((zB0 n w).map prV)):=by
 have hb:=ho.h
 have uL:=ho.nl
 refine zAe Tryz.f91 ?_
 refine zAd 2<|zAa<|zAd 1<|zAa<|zAi<|zAd 6<|zAa<|zAk 0 ?_
 refine zAA (fun (h,l)=>h≤n.h.toNat∧l=zUs n w h) (fun (h,l)=>[(5,.own 2 (l.map prV)),(13,I (h:Nat))]) (fun (h,_)=>n.h.toNat-h) ((0:Nat),([]:List (Int×Int))) ⟨by omega,rfl⟩ fun (h,l) ⟨hh,hl⟩=>?_
 have wc:l.length≤h*8:=by
  have h1:=zK8 (n:=n) (w:=w) h
  rw [← hl] at h1
  exact Nat.le_trans h1 (Nat.mul_le_mul (Nat.le_refl _) (by omega))
 by_cases qm:(h:Int)<n.h
 ·have yJ:=zNc (n:=n) (w:=w) (h:=h)
  rw [← hl] at yJ
  refine zAd 1<|zAa<|zAi<|zA8 ((↑h:Int)<n.h) (by omega)<|zAl<|zAi<|zAk 1<|zAd 2<|zAa<|zAd 5<|S_a [(0,.n n.n.length)] (ap (lnS ntV n.n) an)<|zAc 1<|zAa<|zAk 2 ?_
  refine zAA (fun (i,m)=>i≤n.n.length∧m=l++zQa n w h i) (fun (i,m)=>[(5,.own 2 (m.map prV)),(22,I (i:Nat))]) (fun (i,_)=>n.n.length-i) ((0:Nat),l) ⟨by omega,by simp [zQa]⟩ fun (i,m) ⟨hi,hm⟩=>?_
  have hml:m.length≤88:=by
   have:=zOc (n:=n) (w:=w) (h:=h) (k:=i)
   rw [hm,List.length_append];omega
  by_cases yV:i<n.n.length
  ·have uJ:=zSt (n:=n) (w:=w) (h:=h) (k:=i)
   have qn:=zBz ho i yV
   have LD:0≤(zAh n).getD i 0∧(zAh n).getD i 0<8:=by omega
   clear yJ
   have kU:zTY n w h i=false→m=l++zQa n w h (i+1):=fun hg=>by rw [uJ,if_neg (by rw [hg];simp)];exact hm
   refine zAd 1<|zAa<|zAi<|zA8 ((↑i:Int)<(↑n.n.length:Int)) (by omega)<|zAl<|zAi<|zAk 3<|zAd 2<|zAa<|zAd 5<|S_a [(2,.ob),(0,.v ((I ((zAh n).getD i 0)).ref))] (ap ((by exact zAs (by omega)):decide (i<8)=true)<|ap (zGr (F:=zAh n) (m:=8) (j:=i) (by omega):zCl (PV.agg (zAM (zAh n) 8)).ref (i*(fun x=>x.size) Tryz.prog.types[3]) none=some (I ((zAh n).getD i 0)).ref) an)<|zAc 1<|S_a [(2,.ob)] (ap ((by exact zAs (by omega)):decide (h<10)=true) an)<|S_a [(0,.ob),(1,.ob)] (ap ((by exact zAs (by omega)):decide (0≤(zAh n).getD i 0)=true)<|ap ((by exact zAs (by omega)):decide (((zAh n).getD i 0).toNat<8)=true) an)<|S_a [(0,.cs true ([I (w.getD (h*8+((zAh n).getD i 0).toNat) 0)]))] (ap (zC8 (q:=(PV.agg (zAM w 80)).box) (xs:=[PV.agg (zAM w 80)]) (x:=PV.agg (zAM w 80)) rfl rfl (zES (F:=w) (m:=80) (j:=h*8+((zAh n).getD i 0).toNat) (by first | rfl | exact zBT (by kernel_rfl) | exact zBW (by kernel_rfl) | exact zC9 (by kernel_rfl) (by kernel_rfl) | exact zC3 (by kernel_rfl) | exact zDq (by kernel_rfl) (by kernel_rfl) | exact zDh (by kernel_rfl) | (simp;done)) (by omega)):zAr 3 (PV.agg (zAM w 80)).box [] 0 (0+(↑h:Int).toNat*(fun x=>x.size) Tryz.prog.types[128]+((zAh n).getD i 0).toNat*(fun x=>x.size) Tryz.prog.types[3]) 1=some (true,[I (w.getD (h*8+((zAh n).getD i 0).toNat) 0)])) an)<|zAc 3<|zLY 37 (w.getD (h*8+((zAh n).getD i 0).toNat) 0=(↑i:Int)) (fun k0=>(zAc 4<|S_a [(2,.ob),(0,.v ((I ((zAW n).getD i 0)).ref))] (ap ((by exact zAs (by omega)):decide (i<8)=true)<|ap (zGr (F:=zAW n) (m:=8) (j:=i) (by omega):zCl (PV.agg (zAM (zAW n) 8)).ref (i*(fun x=>x.size) Tryz.prog.types[3]) none=some (I ((zAW n).getD i 0)).ref) an)<|zAc 4<|zAa<|zDT ((zAW n).getD i 0=(↑i:Int)) (fun k1=>(zAg<|zAc 5<|S_a [(4,.ob),(0,.ob),(0,.yes),(2,.v (PV.own 2 (List.map prV (m++[((↑h:Int),(↑i:Int))]))))] (ap (blz (List.map prV m))<|ap ((by exact zA0 (by simp only [List.length_map,zzLn,zAU]<;>omega)):((List.map prV m).length + [PV.agg [I (↑h:Int),I (↑i:Int)]].length).ble zAU=true)<|ap ((by exact zBB (by simp<;>omega)):(0+(List.map prV m).length).beq (List.map prV m).length=true)<|ap ((zAY (zBE (by kernel_rfl))):PV.own 2 (List.map prV m++[PV.agg [I (↑h:Int),I (↑i:Int)]])=PV.own 2 (List.map prV (m++[((↑h:Int),(↑i:Int))]))) an)<|zAc 1<|zAa<|zAg<|S_a [(1,.v (I (↑(i+1):Int)))] (ap (wrN i) an)<|zAc 1<|zAa ?_)) (fun k1=>(zAl<|zAg<|S_a [(1,.v (I (↑(i+1):Int)))] (ap (wrN i) an)<|zAc 1<|zAa ?_)))) (fun k0=>(zAc 9<|zAa<|zAG<|zAl<|zAg<|S_a [(1,.v (I (↑(i+1):Int)))] (ap (wrN i) an)<|zAc 1<|zAa ?_))
   ·have hg:zTY n w h i=true:=by simp only [zTY,decide_eq_true k0,Bool.true_and,decide_eq_true_eq];exact k1
    exact ⟨(i+1,m++[((h:Int),(i:Int))]),⟨by omega,by rw [uJ,if_pos hg,hm,List.append_assoc]⟩,by simp only;omega,by kernel_rfl,by kernel_rfl⟩
   ·exact ⟨(i+1,m),⟨by omega,kU (by simp only [zTY,decide_eq_true k0,Bool.true_and,decide_eq_false_iff_not];exact fun h=>h k1)⟩,by simp only;omega,by kernel_rfl,by kernel_rfl⟩
   ·exact ⟨(i+1,m),⟨by omega,kU (by simp only [zTY,decide_eq_false k0,Bool.false_and])⟩,by simp only;omega,by kernel_rfl,by kernel_rfl⟩
  ·refine zAd 1<|zAa<|zAi<|zBk ((↑i:Int)<(↑n.n.length:Int)) (by omega)<|zAS 2<|zAg<|S_a [(1,.v (I (↑(h+1):Int)))] (ap (wrN h) an)<|zAc 1<|zAa ?_
   exact ⟨(h+1,m),⟨by omega,by rw [yJ,hm,show i=n.n.length by omega]⟩,by simp only;omega,by kernel_rfl,by kernel_rfl⟩
 ·have e:h=n.h.toNat:=by omega
  subst e
  refine zAd 1<|zAa<|zAi<|zBk ((↑n.h.toNat:Int)<n.h) (by omega)<|zAS 0<|zAd 1<|S_a [(2,.yes)] (ap ((by exact zBB (by simp<;>omega)):(Nat.beq 0 0&&(List.map prV l).length.beq (List.map prV l).length)=true) an)<|zAa<|zAn<|E_a [(1,.yes),(1,.v (PV.own 2 (List.map prV l)))] (ap (blz (List.map prV l))<|ap ((zAY zBi):PV.own 2 (List.take (List.map prV l).length (List.drop 0 (List.map prV l)))=PV.own 2 (List.map prV l)) an) (PV.own 2 (List.map prV l)) [] ?_ rfl
  rw [hl];rfl
theorem f22_1 (n:Nw) (cs:List (Int×Int)) (e:Int) (ho:EvOk n cs e):FG 22 [nwV n,prs cs,I e] (.tup [.own 2 ((zB0 n (zBl n cs e.toNat)).map prV),I 0]):=by
 have hc:=ho.cr
 have vQ:=hc.w
 have hn:=hc.nw
 have he:=ho.ev
 have hw:=zB6 (n:=n) (cs:=cs) e.toNat
 refine zAe Tryz.f22 ?_
 refine zAd 3<|zAa<|zAd 3<|S_a [(10,.ret (PV.tup [zDN n cs,I 0]) [])] (ap (f90_1 n cs e (by omega)) an)<|zAc 5<|zAa<|zAi<|zAd 2<|zAa<|zAG<|zAl<|zAd 3<|S_a [(7,.ret (hdV (zBl n cs e.toNat)) [])] (ap (f92 n cs e (by omega) (by omega)) an)<|S_a [(7,.ret (PV.own 2 (List.map prV (zB0 n (zBl n cs e.toNat)))) [])] (ap (f91 n cs (zBl n cs e.toNat) (by omega) (by omega)) an)<|zAc 2<|zAa<|zAn<|E_a [(1,.yes),(1,.v (PV.own 2 (List.map prV (zB0 n (zBl n cs e.toNat)))))] (ap (blz (List.map prV (zB0 n (zBl n cs e.toNat))))<|ap ((zAY zBi):PV.own 2 (List.take (List.map prV (zB0 n (zBl n cs e.toNat))).length (List.drop 0 (List.map prV (zB0 n (zBl n cs e.toNat)))))=PV.own 2 (List.map prV (zB0 n (zBl n cs e.toNat)))) an) (PV.tup [PV.own 2 (List.map prV (zB0 n (zBl n cs e.toNat))),I 0]) [] rfl rfl
def msl (n:Nw) (l:List (Int×Int)):List Int:=(l.filter fun g => !(n.n.getD g.2.toNat default).2).map Prod.fst
theorem zTX {n:Nw} {l:List (Int×Int)} {i:Nat} (hi:i<l.length):msl n (l.take (i+1))=if (n.n.getD (l.getD i default).2.toNat default).2=true then msl n (l.take i) else msl n (l.take i)++[(l.getD i default).1]:=by
 unfold msl;rw [zCo (d:=default) hi,List.filter_append,List.map_append]
 generalize l.getD i default=g
 cases hb:(n.n.getD g.2.toNat default).2
 ·rw [List.filter_cons_of_pos (by rw [hb];rfl)];rfl
 ·rw [List.filter_cons_of_neg (by rw [hb];simp)];simp
theorem zVp {n:Nw} {w:List Int} {g:Int×Int} (hg:g∈zB0 n w):∃ h i:Nat,h<n.h.toNat∧i<n.n.length∧g=((h:Int),(i:Int))∧zTY n w h i=true:=by
 simp only [zB0,zUs,List.mem_flatMap,List.mem_range,zQa,List.mem_map,List.mem_filter] at hg
 obtain ⟨h,hh,i,⟨hi,hb⟩,rfl⟩:=hg
 exact ⟨h,i,hh,hi,rfl,hb⟩
theorem f26_1 (n:Nw) (cs:List (Int×Int)) (e:Int) (ho:EvOk n cs e):FG 26 [nwV n,prs cs,I e] (.tup [.own 1 ((zGI (msl n (zB0 n (zBl n cs e.toNat)))).map I),I 0]):=by
 have hn:=ho.cr.nw
 have hZ:=zIM (w:=zBl n cs e.toNat) hn
 have y1:∀ g∈zB0 n (zBl n cs e.toNat),0≤g.2∧g.2<n.n.length:=fun g hg=>by
  obtain ⟨h,i,h1,h2,rfl,_⟩:=zVp hg
  simp only;omega
 have h1:=f22_1 n cs e ho
 generalize zB0 n (zBl n cs e.toNat)=G at *
 refine zAe Tryz.f26 ?_
 refine zAd 3<|zAa<|zAd 3<|S_a [(10,.ret (PV.tup [PV.own 2 (List.map prV G),I 0]) [])] (ap h1 an)<|zAc 5<|zAa<|zAi<|zAd 2<|zAa<|zAG<|zAl<|zAd 1<|zAa<|zAi<|zAd 1<|S_a [(0,.n G.length)] (ap (lnS prV G) an)<|zAc 1<|zAa<|zAk 0 ?_
 refine zAA (fun (i,l)=>i≤G.length∧l=msl n (G.take i)) (fun (i,l)=>[(10,.own 1 (l.map I)),(25,I (i:Nat))]) (fun (i,_)=>G.length-i) ((0:Nat),([]:List Int)) ⟨by omega,by simp [msl]⟩ fun (i,l) ⟨hi,hl⟩=>?_
 have wc:l.length≤i:=by
  rw [hl,msl,List.length_map]
  exact Nat.le_trans (List.length_filter_le _ _) (by rw [List.length_take];omega)
 by_cases yV:i<G.length
 ·have yW:=zTX (n:=n) yV
  rw [← hl] at yW
  have hgi:=zDk (d:=default) y1 i yV
  clear h1 y1
  refine zAd 1<|zAa<|zAi<|zA8 ((↑i:Int)<(↑G.length:Int)) (by omega)<|zAl<|zAi<|zAk 1<|zAi<|zAg<|S_a [(2,.ob),(1,.n i)] (ap ((by exact zAs (by simp only [List.length_map,zzLn]<;>omega)):decide (i<(List.map prV G).length)=true)<|ap ((by simp):some (0+i)=some i) an)<|S_a [(0,.cs true ([I (G.getD i default).fst,I (G.getD i default).snd]))] (ap (zC8 (q:=PV.own 2 (List.map prV G)) (xs:=List.map prV G) (x:=PV.agg [I (G.getD i default).fst,I (G.getD i default).snd]) rfl (zCI default (by omega)):zAr 8 (PV.own 2 (List.map prV G)) [] i 0 Tryz.prog.types[108].size=some (true,[I (G.getD i default).fst,I (G.getD i default).snd])) an)<|zAc 2<|zAa<|zAd 4<|S_a [(0,.ob),(1,.v (PV.agg [I (n.n.getD (G.getD i default).snd.toNat default).fst,PV.bool (n.n.getD (G.getD i default).snd.toNat default).snd]))] (ap ((by exact zAs (by omega)):decide (0≤(G.getD i default).snd)=true)<|ap (zCI default (by omega):(List.map ntV n.n)[(G.getD i default).snd.toNat]? = some (PV.agg [I (n.n.getD (G.getD i default).snd.toNat default).fst,PV.bool (n.n.getD (G.getD i default).snd.toNat default).snd])) an)<|zAc 3<|zAa<|zFe (!(n.n.getD (G.getD i default).snd.toNat default).snd) (fun k0=>(zAg<|zAc 4<|S_a [(4,.ob),(0,.ob),(0,.yes),(2,.v (PV.own 1 (List.map I (l++[(G.getD i default).fst]))))] (ap (blz (List.map I l))<|ap ((by exact zA0 (by simp only [List.length_map,zzLn,zAU]<;>omega)):((List.map I l).length + [I (G.getD i default).fst].length).ble zAU=true)<|ap ((by exact zBB (by simp<;>omega)):(0+(List.map I l).length).beq (List.map I l).length=true)<|ap ((zAY (zBE (by kernel_rfl))):PV.own 1 (List.map I l++[I (G.getD i default).fst])=PV.own 1 (List.map I (l++[(G.getD i default).fst]))) an)<|zAc 1<|zAa<|zAg<|S_a [(1,.v (I (↑(i+1):Int)))] (ap (wrN i) an)<|zAc 1<|zAa ?_)) (fun k0=>(zAl<|zAg<|S_a [(1,.v (I (↑(i+1):Int)))] (ap (wrN i) an)<|zAc 1<|zAa ?_))
  ·rw [Bool.not_eq_true'] at k0
   rw [if_neg (by rw [k0];simp)] at yW
   exact ⟨(i+1,l++[(G.getD i default).1]),⟨by omega,yW.symm⟩,by simp only;omega,by kernel_rfl,by kernel_rfl⟩
  ·rw [Bool.not_eq_false'] at k0
   rw [if_pos k0] at yW
   exact ⟨(i+1,l),⟨by omega,yW.symm⟩,by simp only;omega,by kernel_rfl,by kernel_rfl⟩
 ·rw [List.take_of_length_le (by omega)] at hl
  rw [← hl]
  clear h1 y1
  refine zAd 1<|zAa<|zAi<|zBk ((↑i:Int)<(↑G.length:Int)) (by omega)<|zAS 0<|zAd 1<|S_a [(3,.ob),(1,.v (PV.own 1 (List.map I l))),(2,.ret (PV.own 1 (List.map I (zGI l))) [])] (ap ((by exact zA0 (by simp only [List.length_map,zzLn,zAU]<;>omega)):(List.map I l).length.ble (List.map I l).length=true)<|ap ((zAY zBi):PV.own 1 (List.take (List.map I l).length (List.drop 0 (List.map I l)))=PV.own 1 (List.map I l))<|ap (f97 l (by omega)) an)<|zAc 2<|zAa<|zAn<|E_a [(1,.yes),(1,.v (PV.own 1 (List.map I (zGI l))))] (ap (blz (List.map I (zGI l)))<|ap ((zAY zBi):PV.own 1 (List.take (List.map I (zGI l)).length (List.drop 0 (List.map I (zGI l))))=PV.own 1 (List.map I (zGI l))) an) (PV.tup [PV.own 1 (List.map I (zGI l)),I 0]) [] rfl rfl
theorem f29_1 (n:Nw) (cs:List (Int×Int)) (k:Nat) (ho:CrOk n cs) (hk:k≤1000) (he:zBl n cs (k+1)=zBl n cs k) (hm:∀ j,j<k→zBl n cs (j+1)≠zBl n cs j):FG 29 [nwV n,prs cs] (.tup [I k,I 0]):=by
 have hn:=ho.nw
 have vQ:=ho.w
 have y5:=zOt (n:=n) (cs:=cs)
 refine zAe Tryz.f29 ?_
 refine zAd 3<|zAa<|zAd 2<|S_a [(8,.ret (PV.tup [zDN n cs,I 0]) [])] (ap (f99_1 n cs (by omega)) an)<|zAc 5<|zAa<|zAi<|zAd 2<|zAa<|zAG<|zAl<|zAd 1<|S_a [(5,.ret (hdV (zLL n cs)) [])] (ap (f100 n cs (by omega)) an)<|zAc 3<|zAa<|zAi<|zAd 2<|S_a [(7,.ret (hdV (zCZ n (zLL n cs))) [])] (ap (f101 n cs (zLL n cs) (by omega) (by omega)) an)<|zAc 2<|zAa<|zAk 0 ?_
 refine zAA (fun j=>j≤k) (fun (j:Nat)=>[(8,I (j:Nat)),(9,.box (hdV (zBl n cs j))),(10,.box (hdV (zBl n cs (j+1))))]) (fun j=>k-j) (0:Nat) (by omega) fun j hj=>?_
 have vA:=zB6 (n:=n) (cs:=cs) j
 have wL:=zB6 (n:=n) (cs:=cs) (j+1)
 by_cases gl:j<k
 ·have hI:=hm j gl
  refine zAi<|zAd 2<|S_a [(0,.v (PV.bool !decide (zBl n cs (j+1)=zBl n cs j)))] (ap (zRZ 80 (by omega) (by omega):zHp Tryz.prog BinOp.neq 130 (PV.agg (zAM (zBl n cs (j+1)) 80)) (PV.agg (zAM (zBl n cs j) 80))=some (PV.bool !decide (zBl n cs (j+1)=zBl n cs j))) an)<|zAa<|zIK (zBl n cs (j+1)=zBl n cs j) (by omega)<|zAl<|zAi<|zAk 1<|zAd 2<|zAa<|zAg<|zAc 1<|S_a [(1,.v (I (↑(j+1):Int)))] (ap (wrN j) an)<|zAc 1<|zAa<|zAi<|zAd 1<|zAa<|zAg<|zAc 2<|zAa<|zAg<|zAc 2<|S_a [(7,.ret (hdV (zCZ n (zBl n cs (j+1)))) [])] (ap (f101 n cs (zBl n cs (j+1)) (by omega) (by omega)) an)<|zAc 1<|zAa ?_
  exact ⟨j+1,by omega,by omega,by kernel_rfl,by kernel_rfl⟩
 ·have e:j=k:=by omega
  subst e
  refine zAi<|zAd 2<|S_a [(0,.v (PV.bool !decide (zBl n cs (j+1)=zBl n cs j)))] (ap (zRZ 80 (by omega) (by omega):zHp Tryz.prog BinOp.neq 130 (PV.agg (zAM (zBl n cs (j+1)) 80)) (PV.agg (zAM (zBl n cs j) 80))=some (PV.bool !decide (zBl n cs (j+1)=zBl n cs j))) an)<|zAa<|zGE (zBl n cs (j+1)=zBl n cs j) (by omega)<|zAS 0<|zAd 3<|zAa<|zAn<|E_a [] an (PV.tup [I (↑j:Int),I 0]) [] rfl rfl
def zUV (n:Nw) (cs:List (Int×Int)) (k:Nat):Int:=(List.range k).foldl (fun a k=>if zB0 n (zBl n cs k)=[] then a else (k:Int)+1) 0
theorem zRw {n:Nw} {cs:List (Int×Int)} {k:Nat}:zUV n cs (k+1)=if zB0 n (zBl n cs k)=[] then zUV n cs k else (k:Int)+1:=by
 simp only [zUV,List.range_succ,List.foldl_append,List.foldl_cons,List.foldl_nil]
theorem f31_1 (n:Nw) (cs:List (Int×Int)) (ho:CrOk n cs):FG 31 [nwV n,prs cs] (.tup [if zB0 n (zBl n cs 12)=[] then I (zUV n cs 12) else I 0,if zB0 n (zBl n cs 12)=[] then I 0 else I 6]):=by
 have hn:=ho.nw
 have vQ:=ho.w
 refine zAe Tryz.f31 ?_
 refine zAd 3<|zAa<|zAd 2<|S_a [(8,.ret (PV.tup [zDN n cs,I 0]) [])] (ap (f99_1 n cs (by omega)) an)<|zAc 5<|zAa<|zAi<|zAd 2<|zAa<|zAG<|zAl<|zAd 1<|S_a [(5,.ret (hdV (zLL n cs)) [])] (ap (f100 n cs (by omega)) an)<|zAc 3<|zAa<|zAi<|zAd 1<|zAa<|zAk 0 ?_
 refine zAA (fun k=>k≤12) (fun (k:Nat)=>[(8,I (zUV n cs k)),(9,.box (hdV (zBl n cs k))),(22,I (k:Nat))]) (fun k=>12-k) (0:Nat) (by omega) fun k hk=>?_
 have vA:=zB6 (n:=n) (cs:=cs) k
 have hgl:=zIM (w:=zBl n cs k) hn
 by_cases vz:k<12
 ·have uJ:=zRw (n:=n) (cs:=cs) (k:=k)
  refine zAd 1<|zAa<|zAi<|zA8 ((↑k:Int)<12) (by omega)<|zAl<|zAi<|zAk 1<|zAd 2<|zAa<|zAi<|zAd 2<|S_a [(7,.ret (PV.own 2 (List.map prV (zB0 n (zBl n cs k)))) [])] (ap (f91 n cs (zBl n cs k) (by omega) (by omega)) an)<|S_a [(0,.n ((zB0 n (zBl n cs k)).length))] (ap (lnS prV (zB0 n (zBl n cs k))) an)<|zAc 1<|zAa<|zDo ((↑(zB0 n (zBl n cs k)).length:Int)>0) (fun k1=>(zAg<|zAc 1<|S_a [(1,.v (I (↑(k+1):Int)))] (ap (wrN k) an)<|zAc 1<|zAa<|zAg<|zAc 2<|S_a [(7,.ret (hdV (zCZ n (zBl n cs k))) [])] (ap (f101 n cs (zBl n cs k) (by omega) (by omega)) an)<|zAc 1<|zAa<|zAg<|S_a [(1,.v (I (↑(k+1):Int)))] (ap (wrN k) an)<|zAc 1<|zAa ?_)) (fun k1=>(zAl<|zAg<|zAc 2<|S_a [(7,.ret (hdV (zCZ n (zBl n cs k))) [])] (ap (f101 n cs (zBl n cs k) (by omega) (by omega)) an)<|zAc 1<|zAa<|zAg<|S_a [(1,.v (I (↑(k+1):Int)))] (ap (wrN k) an)<|zAc 1<|zAa ?_))
  ·rw [if_neg (by intro h;rw [h] at k1;simp at k1)] at uJ
   exact ⟨k+1,by omega,by omega,by rw [uJ];kernel_rfl,by kernel_rfl⟩
  ·rw [if_pos (List.eq_nil_of_length_eq_zero (by omega))] at uJ
   exact ⟨k+1,by omega,by omega,by rw [uJ];kernel_rfl,by kernel_rfl⟩
 ·have e:k=12:=by omega
  subst e
  refine zAd 1<|zAa<|zAi<|zAG<|zAS 0<|zAi<|zAd 2<|S_a [(7,.ret (PV.own 2 (List.map prV (zB0 n (zBl n cs 12)))) [])] (ap (f91 n cs (zBl n cs 12) (by omega) (by omega)) an)<|S_a [(0,.n ((zB0 n (zBl n cs 12)).length))] (ap (lnS prV (zB0 n (zBl n cs 12))) an)<|zAc 1<|zAa<|zDo ((↑(zB0 n (zBl n cs 12)).length:Int)>0) (fun k0=>(zAd 2<|zAa<|zAn<|E_a [] an (PV.tup [I 0,I 6]) [] ?_ rfl)) (fun k0=>(zAl<|zAd 3<|zAa<|zAn<|E_a [] an (PV.tup [I (zUV n cs 12),I 0]) [] ?_ rfl))
  ·have h:¬ zB0 n (zBl n cs 12)=[]:=by intro h;rw [h] at k0;simp at k0
   rw [if_neg h,if_neg h]
  ·have h:zB0 n (zBl n cs 12)=[]:=List.eq_nil_of_length_eq_zero (by omega)
   rw [if_pos h,if_pos h]
end Go.Eng
namespace Go.Eng
open Go Go.Proofs
theorem zGP {n:Nw} (ho:NwOk n) (j:Nat):∀ i,j<i→i≤n.n.length→(zOv n.n i).getD j 0=(zOv n.n (j+1)).getD j 0
 | 0,h,_=>absurd h (Nat.not_lt_zero j)
 | i + 1,h,hi=>by
  have h8:=ho.nl.2
  by_cases hj:j=i
  ·subst hj;rfl
  ·rw [zOv,zII (zG5 i) (by omega) (ho.na i (by omega)),if_neg hj]
   exact zGP ho j i (by omega) (by omega)
theorem zGL {n:Nw} (ho:NwOk n) {i:Nat} (hi:i<n.n.length):(zAh n).getD i 0=if (n.n.getD i default).1 = -1 then (i:Int) else (zAh n).getD (n.n.getD i default).1.toNat 0:=by
 have h8:=ho.nl.2
 have ha:=ho.na i hi
 unfold zAh
 rw [zGP ho i n.n.length hi (Nat.le_refl _),zOv,zII (zG5 i) (by omega) ha,if_pos rfl]
 split
 ·rfl
 ·rename_i hI
  rw [zGP ho (n.n.getD i default).1.toNat i (by omega) (by omega),zGP ho (n.n.getD i default).1.toNat n.n.length (by omega) (Nat.le_refl _)]
theorem zJp {n:Nw} (ho:NwOk n):∀ (i:Nat),i<n.n.length→(zAh n).getD ((zAh n).getD i 0).toNat 0=(zAh n).getD i 0:=by
 intro i
 induction i using Nat.strongRecOn with
 | ind i ih =>
  intro hi
  have ha:=ho.na i hi
  have hr:=zGL ho hi
  by_cases h:(n.n.getD i default).1 = -1
  ·rw [if_pos h] at hr
   rw [hr,Int.toNat_natCast,hr]
  ·rw [if_neg h] at hr
   rw [hr]
   exact ih (n.n.getD i default).1.toNat (by omega) (by omega)
def chn (n:Nw) (i j:Nat):Prop:=(zAh n).getD i 0=(zAh n).getD j 0
theorem zLI {n:Nw} (ho:NwOk n):∀ (j i:Nat),i<j→j<n.n.length→chn n i j→∃ k,i<k∧k≤j∧k<n.n.length∧(n.n.getD k default).1=i∧chn n k j:=by
 intro j
 induction j using Nat.strongRecOn with
 | ind j ih =>
  intro i gi hj hc
  have ha:=ho.na j hj
  have hr:=zGL ho hj
  have uO:=zBz ho i (by omega)
  by_cases h:(n.n.getD j default).1 = -1
  ·rw [if_pos h] at hr
   unfold chn at hc
   omega
  ·rw [if_neg h] at hr
   by_cases he:(n.n.getD j default).1=(i:Int)
   ·exact ⟨j,gi,Nat.le_refl _,hj,he,rfl⟩
   ·by_cases yG:(i:Int)<(n.n.getD j default).1
    ·obtain ⟨k,h1,h2,h3,h4,h5⟩:=ih (n.n.getD j default).1.toNat (by omega) i (by omega) (by omega) (by unfold chn at hc ⊢;rw [hc,hr])
     exact ⟨k,h1,by omega,h3,h4,by unfold chn at h5 ⊢;rw [h5,hr]⟩
    ·
     exfalso
     obtain ⟨k,h1,h2,h3,h4,_⟩:=ih i gi (n.n.getD j default).1.toNat (by omega) (by omega) (by unfold chn at hc ⊢;rw [← hr,hc])
     exact ho.nd j k (by omega) hj h (by rw [h4];omega)
theorem zFX {F L:List Int} {i j:Nat} (h:i≠j):∀ k,(zUa F i L k).getD j 0=L.getD j 0
 | 0=>rfl
 | k+1=>by
  rw [zGR,zMV]
  split
  ·rw [zCP,if_neg (fun h2=>h h2.1)];exact zFX h k
  ·exact zFX h k
theorem zRS {F L:List Int} {i:Nat} (hL:L.length=8) (hi:i<8) (h0:L.getD i 0=0):∀ k,∃ l:Nat,(zUa F i L k).getD i 0=l∧(l=0∨l<k∧F.getD l 0=F.getD i 0)∧∀ j,j<k→F.getD j 0=F.getD i 0→j≤l
 | 0=>⟨0,h0,.inl rfl,fun j hj=>absurd hj (Nat.not_lt_zero j)⟩
 | k + 1 => by
  obtain ⟨l,h1,h2,h3⟩:=zRS hL hi h0 k
  rw [zGR,zMV]
  split
  ·rename_i hk
   refine ⟨max l k,?_,?_,fun j hj hf=>?_⟩
   ·rw [zCP,if_pos ⟨rfl,by rw [zIq];omega⟩,h1];omega
   ·by_cases yD:l≤k
    ·right;rw [Nat.max_eq_right yD];exact ⟨by omega,hk⟩
    ·rw [Nat.max_eq_left (by omega)]
     rcases h2 with h2 | ⟨h2,h4⟩
     ·exact .inl h2
     ·exact .inr ⟨by omega,h4⟩
   ·by_cases gl:j=k
    ·omega
    ·have:=h3 j (by omega) hf;omega
  ·rename_i hk
   refine ⟨l,h1,?_,fun j hj hf=>?_⟩
   ·rcases h2 with h2 | ⟨h2,h4⟩
    ·exact .inl h2
    ·exact .inr ⟨by omega,h4⟩
   ·by_cases gl:j=k
    ·subst gl;exact absurd hf hk
    ·exact h3 j (by omega) hf
theorem zMX {F:List Int} {m:Nat}:∀ i j,i≤j→(zQc F m i).getD j 0=0
 | 0,j,_=>by
  simp only [zQc,List.range_zero,List.foldl_nil,List.getD_eq_getElem?_getD,List.getElem?_replicate]
  split<;>rfl
 | i+1,j,h=>by rw [zFk,zFX (by omega)];exact zMX i j (by omega)
theorem zM2 {F:List Int} {m j:Nat}:∀ i,j<i→(zQc F m i).getD j 0=(zQc F m (j+1)).getD j 0
 | 0,h=>absurd h (Nat.not_lt_zero j)
 | i+1,h=>by
  by_cases hj:j=i
  ·subst hj;rfl
  ·rw [zFk,zFX (by omega)];exact zM2 i (by omega)
theorem zHb {n:Nw} (ho:NwOk n) {i:Nat} (hi:i<n.n.length):∃ l:Nat,(zAW n).getD i 0=l∧l<n.n.length∧chn n l i∧i≤l∧∀ k,k<n.n.length→chn n k i→k≤l:=by
 have h8:=ho.nl.2
 obtain ⟨l,h1,h2,h3⟩:=zRS (F:=zAh n) (i:=i) (zLw (F:=zAh n) (m:=n.n.length) i) (by omega) (zMX i i (Nat.le_refl i)) n.n.length
 have yV:=h3 i hi rfl
 refine ⟨l,?_,?_,?_,yV,fun k hk hc=>h3 k hk hc⟩
 ·unfold zAW
  rw [zM2 n.n.length hi,zFk];exact h1
 ·rcases h2 with h2 | ⟨h2,_⟩<;>omega
 ·rcases h2 with h2 | ⟨_,h4⟩
  ·have:i=l:=by omega
   subst this;rfl
  ·exact h4
end Go.Eng
set_option maxRecDepth 10000
set_option maxHeartbeats 4000000
namespace Go.Eng
open Go Go.Proofs
def zSE (n:Nw) (x:Int):Int:=zEf (fun y=>decide (y.1=x)) n.n
def zNg (a b:Int) (x:Int×Int):Bool:=decide (x.1=a∧x.2=b∨x.1=b∧x.2=a)
def zWB (n:Nw) (a b:Int):Bool:=n.l.any (zNg a b)
theorem zUr {a b:Int} {x:Int×Int}:pr2 x=pr2 (a,b)↔x.1=a∧x.2=b∨x.1=b∧x.2=a:=by
 obtain ⟨c,d⟩:=x
 simp only [pr2,Prod.mk.injEq]
 constructor
 ·rintro ⟨h1,h2⟩
  repeat' split at h1
  all_goals (repeat' split at h2)
  all_goals omega
 ·intro h
  constructor
  ·repeat' split
   all_goals omega
  ·repeat' split
   all_goals omega
theorem zU8 {n:Nw} {a b:Int}:zWB n a b=zF9 n a b:=by
 rw [Bool.eq_iff_iff]
 simp only [zWB,zF9,List.any_eq_true,zNg,decide_eq_true_eq,List.mem_map]
 constructor
 ·rintro ⟨x,hx,h⟩;exact ⟨x,hx,zUr.2 h⟩
 ·rintro ⟨x,hx,h⟩;exact ⟨x,hx,zUr.1 h⟩
end Go.Eng
set_option maxRecDepth 10000
set_option maxHeartbeats 4000000
namespace Go.Eng
open Go Go.Proofs
abbrev bls (l:List Bool):PV := .sl (l.map PV.bool)
def kn (K:List (List Bool)) (h i:Nat):Bool:=(K.getD h []).getD i false
structure RelK (n:Nw) (K:List (List Bool)) (w:List Int):Prop where
 len:K.length=n.h.toNat
 row:∀ r∈K,r.length=n.n.length
 wl:w.length=80
 top:∀ h i,h<n.h.toNat→i<n.n.length→kn K h i=true→(i:Int)≤w.getD (h*8+((zAh n).getD i 0).toNat) 0
 at_:∀ h c,h<n.h.toNat→c<8→w.getD (h*8+c) 0 = -1∨∃ i,i<n.n.length∧(zAh n).getD i 0=c∧w.getD (h*8+c) 0=i∧kn K h i=true
def hld (n:Nw) (w:List Int) (h i:Nat):Bool:=decide (w.getD (h*8+((zAh n).getD i 0).toNat) 0=i)
theorem zPc {n:Nw} {x:Int} (h:zSE n x≠-1):∃ k:Nat,zSE n x=k∧k<n.n.length∧(n.n.getD k default).1=x:=by
 unfold zSE zEf at h ⊢
 split
 ·rename_i yG
  have hp:=List.findIdx_getElem (w:=yG)
  exact ⟨_,rfl,yG,by rw [zAy yG];simpa using hp⟩
 ·rename_i hn;rw [if_neg hn] at h;exact absurd rfl h
theorem zTp {n:Nw} {x:Int} (h:zSE n x = -1) (k:Nat) (hk:k<n.n.length):(n.n.getD k default).1≠x:=by
 have h2:=zDM (fun y:Int×Bool=>decide (y.1=x)) n.n
 unfold zSE at h
 rw [h] at h2
 intro he
 have:(n.n.any fun y=>decide (y.1=x))=true:=List.any_eq_true.2 ⟨_,List.getElem_mem hk,by rw [zAy hk] at he;simpa using he⟩
 rw [this] at h2;cases h2
theorem zQu {n:Nw} (ho:NwOk n) {i k:Nat} (hk:k<n.n.length) (h:(n.n.getD k default).1=i):i<k∧chn n k i:=by
 have ha:=ho.na k hk
 have hr:=zGL ho hk
 refine ⟨by omega,?_⟩
 rw [if_neg (by omega),h,Int.toNat_natCast] at hr
 exact hr
theorem zTo {n:Nw} (ho:NwOk n) {a b:Nat} {x:Int} (hx:0≤x) (ha:a<n.n.length) (hb:b<n.n.length) (h1:(n.n.getD a default).1=x) (h2:(n.n.getD b default).1=x):a=b:=by
 by_cases h:a=b
 ·exact h
 ·exfalso
  by_cases yG:a<b
  ·exact ho.nd b a yG hb (by omega) (by rw [h1,h2])
  ·exact ho.nd a b (by omega) ha (by omega) (by rw [h1,h2])
theorem zTt {n:Nw} (ho:NwOk n) {i:Nat} (hi:i<n.n.length):(zSE n i = -1∧∀ k,k<n.n.length→chn n k i→¬ i<k)∨∃ m:Nat,zSE n i=m∧i<m∧m<n.n.length∧chn n m i∧∀ k,k<n.n.length→chn n k i→i<k→m≤k:=by
 by_cases h:zSE n i = -1
 ·left
  refine ⟨h,fun k hk hc hik=>?_⟩
  obtain ⟨j,_,_,h3,h4,_⟩:=zLI ho k i hik hk hc.symm
  exact zTp h j h3 h4
 ·right
  obtain ⟨m,h1,h2,h3⟩:=zPc h
  obtain ⟨h4,h5⟩:=zQu ho h2 h3
  refine ⟨m,h1,h4,h2,h5,fun k hk hc hik=>?_⟩
  obtain ⟨j,g1,g2,g3,g4,_⟩:=zLI ho k i hik hk hc.symm
  have:=zTo ho (by omega) h2 g3 h3 g4
  omega
theorem zYr {n:Nw} {K:List (List Bool)} {w:List Int} {h i:Nat} (ho:NwOk n) (hr:RelK n K w) (hh:h<n.h.toNat) (hi:i<n.n.length) (h1:kn K h i=true) (h2:∀ k,k<n.n.length→chn n k i→i<k→kn K h k=false):hld n w h i=true:=by
 have qn:=zBz ho i hi
 have uL:=ho.nl.2
 have ht:=hr.top h i hh hi h1
 rcases hr.at_ h ((zAh n).getD i 0).toNat hh (by omega) with h3 | ⟨j,g1,g2,g3,g4⟩
 ·omega
 ·by_cases hj:j=i
  ·subst hj;simpa only [hld,decide_eq_true_eq] using g3
  ·have:=h2 j g1 (by unfold chn;omega) (by omega)
   rw [this] at g4;cases g4
theorem zWj {n:Nw} {K:List (List Bool)} {w:List Int} {h i:Nat} (ho:NwOk n) (hr:RelK n K w) (hh:h<n.h.toNat) (hi:i<n.n.length) (h1:kn K h i=false∨∃ k,k<n.n.length∧chn n k i∧i<k∧kn K h k=true):hld n w h i=false:=by
 have qn:=zBz ho i hi
 have uL:=ho.nl.2
 simp only [hld,decide_eq_false_iff_not]
 intro he
 rcases h1 with h1 | ⟨k,g1,g2,g3,g4⟩
 ·rcases hr.at_ h ((zAh n).getD i 0).toNat hh (by omega) with h3 | ⟨j,g1,g2,g3,g4⟩
  ·omega
  ·have:j=i:=by omega
   subst this;rw [h1] at g4;cases g4
 ·have:=hr.top h k hh g1 g4
  unfold chn at g2
  rw [g2] at this;omega
end Go.Eng
set_option maxRecDepth 10000
set_option maxHeartbeats 4000000
namespace Go.Eng
open Go Go.Proofs
def hrB (n:Nw) (h i:Int) (c:Int×Int):Bool:=decide (c.1=i)&&has (n.s.getD c.2.toNat []) h
def zJ3 (n:Nw) (cs:List (Int×Int)) (h i:Int):Bool:=cs.any (hrB n h i)
end Go.Eng
set_option maxRecDepth 10000
set_option maxHeartbeats 4000000
namespace Go.Eng
open Go Go.Proofs
abbrev lsB (l:List Bool):PV := .own 1 (l.map PV.bool)
instance:FrzOf lsB bls:=⟨fun x=>by simp only [zAT,zE6]⟩
def zXk (n:Nw) (cs:List (Int×Int)) (h k:Nat):List Bool:=(List.range k).map fun (i:Nat)=>zJ3 n cs h i
def zW1 (n:Nw) (cs:List (Int×Int)) (k:Nat):List (List Bool):=(List.range k).map fun h=>zXk n cs h n.n.length
end Go.Eng
namespace Go.Eng
open Go Go.Proofs
structure Tr (n:Nw) (w:List Int) (S:Nat→Nat→Prop):Prop where
 wl:w.length=80
 at_:∀ h c,h<n.h.toNat→c<8→w.getD (h*8+c) 0 = -1∨∃ i,i<n.n.length∧(zAh n).getD i 0=(c:Int)∧w.getD (h*8+c) 0=i∧S h i
 top:∀ h i,h<n.h.toNat→i<n.n.length→S h i→(i:Int)≤w.getD (h*8+((zAh n).getD i 0).toNat) 0
theorem zIu {w:List Int} {i j:Nat} {x:Int} (hi:i<w.length):(zQb w i x).getD j 0=if i=j then max (w.getD j 0) x else w.getD j 0:=by
 unfold zQb
 rw [zCP]
 by_cases h:i=j
 ·subst h;rw [if_pos ⟨rfl,hi⟩,if_pos rfl]
 ·rw [if_neg (fun h2=>h h2.1),if_neg h]
theorem Tr.upd {n:Nw} {w:List Int} {S:Nat→Nat→Prop} (ho:NwOk n) (ht:Tr n w S) {h0 i0:Nat} (hh:h0<n.h.toNat) (hi:i0<n.n.length):Tr n (zQb w (h0*8+((zAh n).getD i0 0).toNat) i0) (fun h i=>S h i∨h=h0∧i=i0):=by
 have uL:=ho.nl.2
 have hH:=ho.h.2
 have gS:=zBz ho i0 hi
 have yG:h0*8+((zAh n).getD i0 0).toNat<w.length:=by rw [ht.wl];omega
 refine ⟨by rw [zIs];exact ht.wl,fun h c qx hc=>?_,fun h i qx hi1 hS=>?_⟩
 ·rw [zIu yG]
  split
  ·rename_i he
   have e1:h=h0:=by omega
   have e2:((zAh n).getD i0 0).toNat=c:=by omega
   have e3:(zAh n).getD i0 0=(c:Int):=by omega
   subst e1
   have hw:=ht.at_ h c qx hc
   by_cases hm:w.getD (h*8+c) 0≤(i0:Int)
   ·right
    exact ⟨i0,hi,e3,by rw [Int.max_eq_right hm],.inr ⟨rfl,rfl⟩⟩
   ·rcases hw with hw | ⟨i,g1,g2,g3,g4⟩
    ·omega
    ·right;exact ⟨i,g1,g2,by rw [Int.max_eq_left (by omega)];exact g3,.inl g4⟩
  ·rcases ht.at_ h c qx hc with hw | ⟨i,g1,g2,g3,g4⟩
   ·exact .inl hw
   ·exact .inr ⟨i,g1,g2,g3,.inl g4⟩
 ·rw [zIu yG]
  have LD:=zBz ho i hi1
  rcases hS with hS | ⟨rfl,rfl⟩
  ·have:=ht.top h i qx hi1 hS
   split<;>omega
  ·rw [if_pos rfl];omega
theorem Tr.same {n:Nw} {w:List Int} {S S':Nat→Nat→Prop} (ht:Tr n w S) (h:∀ a i,a<n.h.toNat→i<n.n.length→(S a i↔S' a i)):Tr n w S' :=
 ⟨ht.wl,fun a c ha hc=>by
  rcases ht.at_ a c ha hc with h1 | ⟨i,g1,g2,g3,g4⟩
  ·exact .inl h1
  ·exact .inr ⟨i,g1,g2,g3,(h a i ha g1).1 g4⟩,fun a i ha hi hs=>ht.top a i ha hi ((h a i ha hi).2 hs)⟩
theorem Tr.none (n:Nw) (ho:NwOk n):Tr n (List.replicate 80 (-1)) (fun _ _=>False):=by
 have hH:=ho.h.2
 refine ⟨by simp,fun h c hh hc => .inl ?_,fun _ _ _ _ h=>h.elim⟩
 rw [zAy (by rw [List.length_replicate];omega),List.getElem_replicate]
end Go.Eng
namespace Go.Eng
open Go Go.Proofs
theorem Tr.begC {n:Nw} {w:List Int} {S:Nat→Nat→Prop} (ho:NwOk n) (ht:Tr n w S) {h:Nat} (hh:h<n.h.toNat) {c:Int×Int} (hc:0≤c.1∧c.1<n.n.length):Tr n (begC n h w c) (fun a i=>S a i∨a=h∧hrB n h i c=true):=by
 unfold Go.Eng.begC
 split
 ·rename_i hs
  have:=ht.upd ho hh (i0:=c.1.toNat) (by omega)
  rw [Int.toNat_of_nonneg hc.1] at this
  refine this.same fun a i _ _=>?_
  simp only [hrB,hs,Bool.and_true,decide_eq_true_eq]
  refine or_congr Iff.rfl (and_congr Iff.rfl ⟨fun e=>by omega,fun e=>by omega⟩)
 ·rename_i hs
  refine ht.same fun a i _ _=>?_
  have h2:has (n.s.getD c.2.toNat []) h=false:=by
   cases hx:has (n.s.getD c.2.toNat []) h
   ·rfl
   ·exact absurd hx hs
  simp only [hrB,h2,Bool.and_false,Bool.false_eq_true,and_false,or_false]
theorem Tr.begH {n:Nw} (ho:NwOk n) {h:Nat} (hh:h<n.h.toNat):∀ (cs:List (Int×Int)) {w:List Int} {S:Nat→Nat→Prop},Tr n w S→(∀ c∈cs,0≤c.1∧c.1<n.n.length)→Tr n (begH n h w cs) (fun a i=>S a i∨a=h∧zJ3 n cs h i=true)
 | [],w,S,ht,_=>ht.same fun a i _ _=>by simp [zJ3]
 | c::cs,w,S,ht,hc=>by
  have h1:=Tr.begH ho hh cs (ht.begC ho hh (hc c List.mem_cons_self)) fun d hd=>hc d (List.mem_cons_of_mem _ hd)
  refine Tr.same (w:=Go.Eng.begH n h w (c::cs)) h1 fun a i _ _=>?_
  simp only [zJ3,List.any_cons,Bool.or_eq_true,or_assoc,and_or_left]
theorem Tr.begN {n:Nw} {cs:List (Int×Int)} (ho:CrW n cs):∀ k,k≤n.h.toNat→Tr n (begN n cs k) (fun a i=>a<k∧zJ3 n cs a i=true)
 | 0,_=>(Tr.none n ho.nw).same fun a i _ _=>by simp
 | k + 1,hk=>by
  rw [zJk]
  refine (Tr.begH ho.nw (by omega) cs (Tr.begN ho k (by omega)) fun c hc=>(ho.cs c hc).1).same fun a i _ _=>?_
  constructor
  ·rintro (⟨h1,h2⟩ | ⟨rfl,h2⟩)
   ·exact ⟨by omega,h2⟩
   ·exact ⟨by omega,h2⟩
  ·rintro ⟨h1,h2⟩
   by_cases e:a=k
   ·subst e;exact .inr ⟨rfl,h2⟩
   ·exact .inl ⟨by omega,h2⟩
theorem RelK.of_tr {n:Nw} {K:List (List Bool)} {w:List Int} (h1:K.length=n.h.toNat) (h2:∀ r∈K,r.length=n.n.length) (ht:Tr n w fun a i=>kn K a i=true):RelK n K w :=
 ⟨h1,h2,ht.wl,ht.top,ht.at_⟩
theorem RelK.tr {n:Nw} {K:List (List Bool)} {w:List Int} (h:RelK n K w):Tr n w fun a i=>kn K a i=true:=⟨h.wl,h.at_,h.top⟩
theorem zWq {n:Nw} {cs:List (Int×Int)} {a i:Nat} (ha:a<n.h.toNat) (hi:i<n.n.length):kn (zW1 n cs n.h.toNat) a i=zJ3 n cs a i:=by
 unfold kn zW1
 rw [zAy (l:=(List.range n.h.toNat).map fun h=>zXk n cs h n.n.length) (by rw [List.length_map,List.length_range];exact ha)]
 simp only [List.getElem_map,List.getElem_range]
 unfold zXk
 rw [zAy (by rw [List.length_map,List.length_range];exact hi)]
 simp only [List.getElem_map,List.getElem_range]
theorem zUN {n:Nw} {cs:List (Int×Int)} (ho:CrW n cs):RelK n (zW1 n cs n.h.toNat) (zLL n cs):=by
 refine RelK.of_tr (by simp [zW1]) (fun r hr=>?_) ?_
 ·obtain ⟨h,_,rfl⟩:=List.mem_map.1 hr
  simp [zXk]
 ·refine (Tr.begN ho n.h.toNat (Nat.le_refl _)).same fun a i ha hi=>?_
  rw [zWq ha hi]
  exact ⟨fun h=>h.2,fun h=>⟨ha,h⟩⟩
end Go.Eng
namespace Go.Eng
open Go Go.Proofs
def nxB (n:Nw) (K:List (List Bool)) (w:List Int) (h i:Nat):Bool:=kn K h i||(zHT n h n.h.toNat).any fun o=>hld n w o i
def zMv (n:Nw) (K:List (List Bool)) (w:List Int) (h:Nat):List Bool:=(List.range n.n.length).map fun i=>nxB n K w h i
def zPG (n:Nw) (K:List (List Bool)) (w:List Int):List (List Bool):=(List.range n.h.toNat).map fun h=>zMv n K w h
theorem zUH {n:Nw} {K:List (List Bool)} {w:List Int} {a i:Nat} (ha:a<n.h.toNat) (hi:i<n.n.length):kn (zPG n K w) a i=nxB n K w a i:=by
 unfold kn zPG
 rw [zAy (l:=(List.range n.h.toNat).map fun h=>zMv n K w h) (by rw [List.length_map,List.length_range];exact ha)]
 simp only [List.getElem_map,List.getElem_range]
 unfold zMv
 rw [zAy (by rw [List.length_map,List.length_range];exact hi)]
 simp only [List.getElem_map,List.getElem_range]
theorem Tr.skip {n:Nw} {w:List Int} {S:Nat→Nat→Prop} (ho:NwOk n) (ht:Tr n w S) {h0 c0:Nat} (hh:h0<n.h.toNat) (hc:c0<8):Tr n (zQb w (h0*8+c0) (-1)) S:=by
 have hH:=ho.h.2
 have yG:h0*8+c0<w.length:=by rw [ht.wl];omega
 have hge : -1≤w.getD (h0*8+c0) 0:=by
  rcases ht.at_ h0 c0 hh hc with h | ⟨i,_,_,h,_⟩<;>omega
 have he:∀ j,(zQb w (h0*8+c0) (-1)).getD j 0=w.getD j 0:=fun j=>by
  rw [zIu yG]
  split
  ·rename_i e;subst e;exact Int.max_eq_left hge
  ·rfl
 exact ⟨by rw [zIs];exact ht.wl,fun h c h1 h2=>by rw [he];exact ht.at_ h c h1 h2,fun h i h1 h2 h3=>by rw [he];exact ht.top h i h1 h2 h3⟩
theorem Tr.nxtR {n:Nw} {now:List Int} {S0:Nat→Nat→Prop} (ho:NwOk n) (h0:Tr n now S0) {h o:Nat} (hh:h<n.h.toNat) (hoo:o<n.h.toNat) {w:List Int} {S:Nat→Nat→Prop} (ht:Tr n w S):∀ k,k≤8→Tr n (nxtR now h o w k) (fun a i=>S a i∨a=h∧(zAh n).getD i 0<(k:Int)∧hld n now o i=true)
 | 0,_=>Tr.same (w:=Go.Eng.nxtR now h o w 0) ht fun a i _ hi=>by
  have:=zBz ho i hi
  exact ⟨.inl,fun h=>h.elim id fun h=>by have:=h.2.1;omega⟩
 | k + 1,hk=>by
  have ih:=Tr.nxtR ho h0 hh hoo ht k (by omega)
  have e:Go.Eng.nxtR now h o w (k+1)=zQb (Go.Eng.nxtR now h o w k) (h*8+k) (now.getD (o*8+k) 0):=by
   simp only [Go.Eng.nxtR,List.range_succ,List.foldl_append,List.foldl_cons,List.foldl_nil]
  rw [e]
  rcases h0.at_ o k hoo (by omega) with hm | ⟨j,g1,g2,g3,_⟩
  ·rw [hm]
   refine (ih.skip ho hh (by omega)).same fun a i _ hi=>or_congr Iff.rfl (and_congr Iff.rfl ⟨fun ⟨x,y⟩=>⟨by omega,y⟩,fun ⟨x,y⟩=>⟨?_,y⟩⟩)
   have hf:=zBz ho i hi
   by_cases ek:(zAh n).getD i 0=(k:Int)
   ·simp only [hld,decide_eq_true_eq,ek,Int.toNat_natCast,hm] at y
    omega
   ·omega
  ·have:=ih.upd ho hh g1
   rw [g2,Int.toNat_natCast] at this
   rw [g3]
   refine this.same fun a i _ hi=>?_
   have hf:=zBz ho i hi
   constructor
   ·rintro ((x | ⟨x,y,z⟩) | ⟨rfl,rfl⟩)
    ·exact .inl x
    ·exact .inr ⟨x,by omega,z⟩
    ·refine .inr ⟨rfl,by omega,?_⟩
     simp only [hld,decide_eq_true_eq,g2,Int.toNat_natCast,g3]
   ·rintro (x | ⟨rfl,y,z⟩)
    ·exact .inl (.inl x)
    ·by_cases ek:(zAh n).getD i 0=(k:Int)
     ·simp only [hld,decide_eq_true_eq,ek,Int.toNat_natCast,g3] at z
      exact .inr ⟨rfl,by omega⟩
     ·exact .inl (.inr ⟨rfl,by omega,z⟩)
theorem Tr.nxtH {n:Nw} {now:List Int} {S0:Nat→Nat→Prop} (ho:NwOk n) (h0:Tr n now S0) {h:Nat} (hh:h<n.h.toNat):∀ (l:List Nat),(∀ o∈l,o<n.h.toNat)→∀ {w:List Int} {S:Nat→Nat→Prop},Tr n w S→Tr n (nxtH now h w l) (fun a i=>S a i∨a=h∧(l.any fun o=>hld n now o i)=true)
 | [],_,w,S,ht=>Tr.same (w:=Go.Eng.nxtH now h w []) ht fun a i _ _=>by simp
 | o::l,hl,w,S,ht=>by
  have h1:=Tr.nxtH ho h0 hh l (fun x hx=>hl x (List.mem_cons_of_mem _ hx)) (Tr.nxtR ho h0 hh (hl o List.mem_cons_self) ht 8 (Nat.le_refl _))
  refine Tr.same (w:=Go.Eng.nxtH now h w (o::l)) h1 fun a i _ hi=>?_
  have hf:=zBz ho i hi
  have uL:=ho.nl.2
  simp only [List.any_cons,Bool.or_eq_true,and_or_left,or_assoc]
  refine or_congr Iff.rfl (or_congr (and_congr Iff.rfl ⟨fun x=>x.2,fun x=>⟨by omega,x⟩⟩) Iff.rfl)
theorem Tr.nxtN {n:Nw} {now:List Int} {S0:Nat→Nat→Prop} (ho:NwOk n) (h0:Tr n now S0):∀ k,k≤n.h.toNat→Tr n (nxtN n now k) (fun a i=>S0 a i∨a<k∧((zHT n a n.h.toNat).any fun o=>hld n now o i)=true)
 | 0,_=>Tr.same (w:=Go.Eng.nxtN n now 0) h0 fun a i _ _=>by simp
 | k + 1,hk=>by
  have ih:=Tr.nxtN ho h0 k (by omega)
  have e:Go.Eng.nxtN n now (k+1)=Go.Eng.nxtH now k (Go.Eng.nxtN n now k) (zHT n k n.h.toNat):=by
   simp only [Go.Eng.nxtN,List.range_succ,List.foldl_append,List.foldl_cons,List.foldl_nil]
  rw [e]
  refine (Tr.nxtH ho h0 (by omega) _ (fun o hm=>List.mem_range.1 (List.mem_filter.1 hm).1) ih).same fun a i _ _=>?_
  constructor
  ·rintro ((x | ⟨x,y⟩) | ⟨rfl,y⟩)
   ·exact .inl x
   ·exact .inr ⟨by omega,y⟩
   ·exact .inr ⟨by omega,y⟩
  ·rintro (x | ⟨x,y⟩)
   ·exact .inl (.inl x)
   ·by_cases ea:a=k
    ·subst ea;exact .inr ⟨rfl,y⟩
    ·exact .inl (.inr ⟨by omega,y⟩)
theorem zTz {n:Nw} (ho:NwOk n) {K:List (List Bool)} {w:List Int} (h:RelK n K w):RelK n (zPG n K w) (zCZ n w):=by
 refine RelK.of_tr (by simp [zPG]) (fun r hr=>?_) ?_
 ·obtain ⟨h,_,rfl⟩:=List.mem_map.1 hr
  simp [zMv]
 ·refine (Tr.nxtN ho h.tr n.h.toNat (Nat.le_refl _)).same fun a i ha hi=>?_
  rw [zUH ha hi,nxB,Bool.or_eq_true]
  exact or_congr Iff.rfl ⟨fun x=>x.2,fun x=>⟨ha,x⟩⟩
end Go.Eng
set_option maxRecDepth 10000
set_option maxHeartbeats 4000000
namespace Go.Eng
open Go Go.Proofs
instance (n:Nw) (i j:Nat):Decidable (chn n i j):=inferInstanceAs (Decidable ((zAh n).getD i 0=(zAh n).getD j 0))
def zYl (n:Nw) (K:List (List Bool)) (h i:Nat):Bool:=kn K h i && !((List.range n.n.length).any fun k=>decide (i<k)&&(decide (chn n k i)&&kn K h k))
theorem zYn {n:Nw} {K:List (List Bool)} {w:List Int} {h i:Nat} (ho:NwOk n) (hr:RelK n K w) (hh:h<n.h.toNat) (hi:i<n.n.length):zYl n K h i=hld n w h i:=by
 unfold zYl
 cases h1:kn K h i
 ·rw [zWj ho hr hh hi (.inl h1)];rfl
 ·cases h2:(List.range n.n.length).any fun k=>decide (i<k)&&(decide (chn n k i)&&kn K h k)
  ·rw [zYr ho hr hh hi h1 fun k hk hc hik=>?_]
   ·rfl
   ·have h3:=(List.any_eq_false.1 h2) k (List.mem_range.2 hk)
    simpa [hik,hc] using h3
  ·obtain ⟨k,hk,h3⟩:=List.any_eq_true.1 h2
   simp only [Bool.and_eq_true,decide_eq_true_eq] at h3
   rw [zWj ho hr hh hi (.inr ⟨k,List.mem_range.1 hk,h3.2.1,h3.1,h3.2.2⟩)];rfl
end Go.Eng
set_option maxRecDepth 10000
set_option maxHeartbeats 4000000
namespace Go.Eng
open Go Go.Proofs
def zTy (n:Nw) (K:List (List Bool)):List (List Bool):=(List.range n.h.toNat).map fun h=>(List.range n.n.length).map fun i=>kn K h i||(zHT n h n.h.toNat).any fun o=>zYl n K o i
theorem zTR {n:Nw} {K:List (List Bool)} {w:List Int} (ho:NwOk n) (hr:RelK n K w):zTy n K=zPG n K w:=by
 unfold zTy zPG zMv nxB
 refine List.map_congr_left fun h _=>List.map_congr_left fun i hi=>?_
 congr 1
 rw [Bool.eq_iff_iff,List.any_eq_true,List.any_eq_true]
 refine exists_congr fun o=>and_congr_right fun hm=>?_
 rw [zYn ho hr (List.mem_range.1 (List.mem_filter.1 hm).1) (List.mem_range.1 hi)]
def zXz (n:Nw) (cs:List (Int×Int)):Nat→List (List Bool)
 | 0=>zW1 n cs n.h.toNat
 | k+1=>zTy n (zXz n cs k)
theorem zRj {n:Nw} {cs:List (Int×Int)} (ho:CrW n cs):∀ k,RelK n (zXz n cs k) (zBl n cs k)
 | 0=>zUN ho
 | k+1=>by
  have ih:=zRj ho k
  show RelK n (zTy n (zXz n cs k)) (zCZ n (zBl n cs k))
  rw [zTR ho.nw ih]
  exact zTz ho.nw ih
end Go.Eng
set_option maxRecDepth 10000
set_option maxHeartbeats 4000000
namespace Go.Eng
open Go Go.Proofs
def zT8 (n:Nw) (i:Nat):Bool:=decide ((zAW n).getD i 0=i) && !(n.n.getD i default).2
def zBR (p:Nat→Bool) (k:Nat):List Int:=((List.range k).filter p).map fun (i:Nat)=>(i:Int)
theorem zD5 {p:Nat→Bool} {k:Nat}:zBR p (k+1)=if p k=true then zBR p k++[(k:Int)] else zBR p k:=by
 unfold zBR;rw [List.range_succ,List.filter_append,List.map_append]
 by_cases hn:p k=true
 ·rw [if_pos hn];simp [hn]
 ·rw [if_neg hn];simp [hn]
theorem zG2 {p:Nat→Bool} {k:Nat}:(zBR p k).length≤k:=by
 unfold zBR;rw [List.length_map];exact Nat.le_trans (List.length_filter_le _ _) (by simp)
theorem f86_1 (n:Nw) (ho:NwOk n):FG 86 [nwV n] (.tup [.own 1 ((zBR (zT8 n) n.n.length).map I),I 0]):=by
 have uL:=ho.nl
 refine zAe Tryz.f86 ?_
 refine zAd 3<|zAa<|zAd 1<|S_a [(6,.ret (PV.tup [(zCv n (PV.own 2 []) (zUw (List.map pr2 n.l)) (zAh n) (zAW n)).box,I 0]) [])] (ap (f139_1 n (by omega)) an)<|zAc 5<|zAa<|zAi<|zAd 2<|zAa<|zAG<|zAl<|zAd 1<|zAa<|zAi<|zAd 2<|S_a [(0,.n n.n.length)] (ap (lnS ntV n.n) an)<|zAc 1<|zAa<|zAk 0 ?_
 refine zAA (fun (i,l)=>i≤n.n.length∧l=zBR (zT8 n) i) (fun (i,l)=>[(6,.own 1 (l.map I)),(20,I (i:Nat))]) (fun (i,_)=>n.n.length-i) ((0:Nat),([]:List Int)) ⟨by omega,by simp [zBR]⟩ fun (i,l) ⟨hi,hl⟩=>?_
 have wc:l.length≤i:=by rw [hl];exact zG2
 by_cases yV:i<n.n.length
 ·have yW:=zD5 (p:=zT8 n) (k:=i)
  rw [← hl] at yW
  have kU:zT8 n i=false→l=zBR (zT8 n) (i+1):=fun h=>by rw [yW,if_neg (by rw [h];simp)]
  refine zAd 1<|zAa<|zAi<|zA8 ((↑i:Int)<(↑n.n.length:Int)) (by omega)<|zAl<|zAi<|zAk 1<|zAd 1<|S_a [(2,.v (PV.agg [I (n.n.getD i default).fst,PV.bool (n.n.getD i default).snd]))] (ap (zCI default (by omega):(List.map ntV n.n)[i]? = some (PV.agg [I (n.n.getD i default).fst,PV.bool (n.n.getD i default).snd])) an)<|zAc 4<|zAa<|zAd 4<|S_a [(2,.ob),(1,.v (PV.addr 4 [] 0 (14+i) none))] (ap ((by exact zAs (by omega)):decide (i<8)=true)<|ap ((zEw (by kernel_rfl)):PV.addr 4 [] 0 (14+i*(fun x=>x.size) Tryz.prog.types[3]) none=PV.addr 4 [] 0 (14+i) none) an)<|S_a [(0,.cs true ([I ((zAW n).getD i 0)]))] (ap (zC8 (q:=(PV.agg (I n.h::prs n.l::PV.sl (List.map ntV n.n)::PV.sl (List.map zA9 n.s)::PV.own 2 []::PV.omap (List.map zBx (List.map pr2 n.l))::(zAM (zAh n) 8++zAM (zAW n) 8))).box) (xs:=[PV.agg (I n.h::prs n.l::PV.sl (List.map ntV n.n)::PV.sl (List.map zA9 n.s)::PV.own 2 []::PV.omap (List.map zBx (List.map pr2 n.l))::(zAM (zAh n) 8++zAM (zAW n) 8))]) (x:=PV.agg (I n.h::prs n.l::PV.sl (List.map ntV n.n)::PV.sl (List.map zA9 n.s)::PV.own 2 []::PV.omap (List.map zBx (List.map pr2 n.l))::(zAM (zAh n) 8++zAM (zAW n) 8))) rfl rfl (zH4 (A:=I n.h::prs n.l::PV.sl (List.map ntV n.n)::PV.sl (List.map zA9 n.s)::PV.own 2 []::PV.omap (List.map zBx (List.map pr2 n.l))::zAM (zAh n) 8) (B:=[]) (F:=zAW n) (m:=8) (j:=i) (by first | rfl | exact zBT (by kernel_rfl) | exact zBW (by kernel_rfl) | exact zC9 (by kernel_rfl) (by kernel_rfl) | exact zC3 (by kernel_rfl) | exact zDq (by kernel_rfl) (by kernel_rfl) | exact zDh (by kernel_rfl) | (simp;done)) (by omega)):zAr 4 (PV.agg (I n.h::prs n.l::PV.sl (List.map ntV n.n)::PV.sl (List.map zA9 n.s)::PV.own 2 []::PV.omap (List.map zBx (List.map pr2 n.l))::(zAM (zAh n) 8++zAM (zAW n) 8))).box [] 0 (14+i) 1=some (true,[I ((zAW n).getD i 0)])) an)<|zAc 3<|zLY 33 ((zAW n).getD i 0=(↑i:Int)) (fun k0=>(zAc 4<|zAa<|zFe (!(n.n.getD i default).snd) (fun k1=>(zAg<|zAc 3<|S_a [(4,.ob),(0,.ob),(0,.yes),(2,.v (PV.own 1 (List.map I (l++[(↑i:Int)]))))] (ap (blz (List.map I l))<|ap ((by exact zA0 (by simp only [List.length_map,zzLn,zAU]<;>omega)):((List.map I l).length + [I (↑i:Int)].length).ble zAU=true)<|ap ((by exact zBB (by simp<;>omega)):(0+(List.map I l).length).beq (List.map I l).length=true)<|ap ((zAY (zBE (by kernel_rfl))):PV.own 1 (List.map I l++[I (↑i:Int)])=PV.own 1 (List.map I (l++[(↑i:Int)]))) an)<|zAc 1<|zAa<|zAg<|S_a [(1,.v (I (↑(i+1):Int)))] (ap (wrN i) an)<|zAc 1<|zAa ?_)) (fun k1=>(zAl<|zAg<|S_a [(1,.v (I (↑(i+1):Int)))] (ap (wrN i) an)<|zAc 1<|zAa ?_)))) (fun k0=>(zAc 4<|zAa<|zAG<|zAl<|zAg<|S_a [(1,.v (I (↑(i+1):Int)))] (ap (wrN i) an)<|zAc 1<|zAa ?_))
  ·rw [if_pos (by simp only [zT8,decide_eq_true k0,k1];rfl)] at yW
   exact ⟨(i+1,l++[(i:Int)]),⟨by omega,yW.symm⟩,by simp only;omega,by kernel_rfl,by kernel_rfl⟩
  ·exact ⟨(i+1,l),⟨by omega,kU (by simp only [zT8,decide_eq_true k0,k1];rfl)⟩,by simp only;omega,by kernel_rfl,by kernel_rfl⟩
  ·exact ⟨(i+1,l),⟨by omega,kU (by simp only [zT8,decide_eq_false k0,Bool.false_and])⟩,by simp only;omega,by kernel_rfl,by kernel_rfl⟩
 ·refine zAd 1<|zAa<|zAi<|zBk ((↑i:Int)<(↑n.n.length:Int)) (by omega)<|zAS 0<|zAd 1<|S_a [(2,.yes)] (ap ((by exact zBB (by simp<;>omega)):(Nat.beq 0 0&&(List.map I l).length.beq (List.map I l).length)=true) an)<|zAc 1<|zAa<|zAn<|E_a [(1,.yes),(1,.v (PV.own 1 (List.map I l)))] (ap (blz (List.map I l))<|ap ((zAY zBi):PV.own 1 (List.take (List.map I l).length (List.drop 0 (List.map I l)))=PV.own 1 (List.map I l)) an) (PV.tup [PV.own 1 (List.map I l),I 0]) [] ?_ rfl
  rw [hl,show i=n.n.length by omega]
def zF0 (n:Nw) (x:Int) (i:Nat):Bool:=decide ((zAh n).getD i 0=(zAh n).getD x.toNat 0)
theorem f63_1 (n:Nw) (x:Int) (ho:NwOk n) (hx:0≤x∧x<n.n.length):FG 63 [nwV n,I x] (.tup [.own 1 ((zBR (zF0 n x) n.n.length).map I),I 0]):=by
 have uL:=ho.nl
 have hin:inB x 0 (n.n.length-1)=true:=by simp only [inB,Bool.and_eq_true,decide_eq_true_eq];omega
 refine zAe Tryz.f63 ?_
 refine zAd 3<|zAa<|zAd 1<|S_a [(6,.ret (PV.tup [(zCv n (PV.own 2 []) (zUw (List.map pr2 n.l)) (zAh n) (zAW n)).box,I 0]) [])] (ap (f139_1 n (by omega)) an)<|zAc 5<|zAa<|zAi<|zAk 0<|zAd 3<|zAa<|zAG<|zAd 2<|S_a [(8,.ret (PV.bool (inB x 0 ((↑n.n.length:Int)-1))) [])] (ap (f106 n x (by first | omega | (simp<;>omega))) an)<|zAc 2<|zAa<|zFe (!inB x 0 ((↑n.n.length:Int)-1)) (fun k0=>(zAd 2<|zAa<|zAn<|E_a [] an (PV.tup [PV.own 1 [],I 1]) [] ?_ rfl)) (fun k0=>(zAl<|zAd 1<|zAa<|zAi<|zAd 2<|S_a [(0,.n n.n.length)] (ap (lnS ntV n.n) an)<|zAc 1<|zAa<|zAk 1 ?_))
 ·rw [hin] at k0;cases k0
 ·refine zAA (fun (i,l)=>i≤n.n.length∧l=zBR (zF0 n x) i) (fun (i,l)=>[(8,.own 1 (l.map I)),(27,I (i:Nat))]) (fun (i,_)=>n.n.length-i) ((0:Nat),([]:List Int)) ⟨by omega,by simp [zBR]⟩ fun (i,l) ⟨hi,hl⟩=>?_
  have wc:l.length≤i:=by rw [hl];exact zG2
  by_cases yV:i<n.n.length
  ·have yW:=zD5 (p:=zF0 n x) (k:=i)
   rw [← hl] at yW
   refine zAd 1<|zAa<|zAi<|zA8 ((↑i:Int)<(↑n.n.length:Int)) (by omega)<|zAl<|zAi<|zAk 2<|zAd 2<|zAa<|zAd 4<|S_a [(2,.ob),(1,.v (PV.addr 6 [] 0 (6+i) none))] (ap ((by exact zAs (by omega)):decide (i<8)=true)<|ap ((zEw (by kernel_rfl)):PV.addr 6 [] 0 (6+i*(fun x=>x.size) Tryz.prog.types[3]) none=PV.addr 6 [] 0 (6+i) none) an)<|S_a [(0,.cs true ([I ((zAh n).getD i 0)]))] (ap (zC8 (q:=(PV.agg (I n.h::prs n.l::PV.sl (List.map ntV n.n)::PV.sl (List.map zA9 n.s)::PV.own 2 []::PV.omap (List.map zBx (List.map pr2 n.l))::(zAM (zAh n) 8++zAM (zAW n) 8))).box) (xs:=[PV.agg (I n.h::prs n.l::PV.sl (List.map ntV n.n)::PV.sl (List.map zA9 n.s)::PV.own 2 []::PV.omap (List.map zBx (List.map pr2 n.l))::(zAM (zAh n) 8++zAM (zAW n) 8))]) (x:=PV.agg (I n.h::prs n.l::PV.sl (List.map ntV n.n)::PV.sl (List.map zA9 n.s)::PV.own 2 []::PV.omap (List.map zBx (List.map pr2 n.l))::(zAM (zAh n) 8++zAM (zAW n) 8))) rfl rfl (zH4 (A:=[I n.h,prs n.l,PV.sl (List.map ntV n.n),PV.sl (List.map zA9 n.s),PV.own 2 [],PV.omap (List.map zBx (List.map pr2 n.l))]) (B:=zAM (zAW n) 8) (F:=zAh n) (m:=8) (j:=i) (by first | rfl | exact zBT (by kernel_rfl) | exact zBW (by kernel_rfl) | exact zC9 (by kernel_rfl) (by kernel_rfl) | exact zC3 (by kernel_rfl) | exact zDq (by kernel_rfl) (by kernel_rfl) | exact zDh (by kernel_rfl) | (simp;done)) (by omega)):zAr 6 (PV.agg (I n.h::prs n.l::PV.sl (List.map ntV n.n)::PV.sl (List.map zA9 n.s)::PV.own 2 []::PV.omap (List.map zBx (List.map pr2 n.l))::(zAM (zAh n) 8++zAM (zAW n) 8))).box [] 0 (6+i) 1=some (true,[I ((zAh n).getD i 0)])) an)<|zAc 4<|S_a [(0,.ob),(1,.ob),(1,.v (PV.addr 6 [] 0 (6+x.toNat) none))] (ap ((by exact zAs (by omega)):decide (0≤x)=true)<|ap ((by exact zAs (by omega)):decide (x.toNat<8)=true)<|ap ((zEw (by kernel_rfl)):PV.addr 6 [] 0 (6+x.toNat*(fun x=>x.size) Tryz.prog.types[3]) none=PV.addr 6 [] 0 (6+x.toNat) none) an)<|S_a [(0,.cs true ([I ((zAh n).getD x.toNat 0)]))] (ap (zC8 (q:=(PV.agg (I n.h::prs n.l::PV.sl (List.map ntV n.n)::PV.sl (List.map zA9 n.s)::PV.own 2 []::PV.omap (List.map zBx (List.map pr2 n.l))::(zAM (zAh n) 8++zAM (zAW n) 8))).box) (xs:=[PV.agg (I n.h::prs n.l::PV.sl (List.map ntV n.n)::PV.sl (List.map zA9 n.s)::PV.own 2 []::PV.omap (List.map zBx (List.map pr2 n.l))::(zAM (zAh n) 8++zAM (zAW n) 8))]) (x:=PV.agg (I n.h::prs n.l::PV.sl (List.map ntV n.n)::PV.sl (List.map zA9 n.s)::PV.own 2 []::PV.omap (List.map zBx (List.map pr2 n.l))::(zAM (zAh n) 8++zAM (zAW n) 8))) rfl rfl (zH4 (A:=[I n.h,prs n.l,PV.sl (List.map ntV n.n),PV.sl (List.map zA9 n.s),PV.own 2 [],PV.omap (List.map zBx (List.map pr2 n.l))]) (B:=zAM (zAW n) 8) (F:=zAh n) (m:=8) (j:=x.toNat) (by first | rfl | exact zBT (by kernel_rfl) | exact zBW (by kernel_rfl) | exact zC9 (by kernel_rfl) (by kernel_rfl) | exact zC3 (by kernel_rfl) | exact zDq (by kernel_rfl) (by kernel_rfl) | exact zDh (by kernel_rfl) | (simp;done)) (by omega)):zAr 6 (PV.agg (I n.h::prs n.l::PV.sl (List.map ntV n.n)::PV.sl (List.map zA9 n.s)::PV.own 2 []::PV.omap (List.map zBx (List.map pr2 n.l))::(zAM (zAh n) 8++zAM (zAW n) 8))).box [] 0 (6+x.toNat) 1=some (true,[I ((zAh n).getD x.toNat 0)])) an)<|zAc 1<|zAa<|zDo ((zAh n).getD i 0=(zAh n).getD x.toNat 0) (fun k1=>(zAg<|zAc 3<|S_a [(4,.ob),(0,.ob),(0,.yes),(2,.v (PV.own 1 (List.map I (l++[(↑i:Int)]))))] (ap (blz (List.map I l))<|ap ((by exact zA0 (by simp only [List.length_map,zzLn,zAU]<;>omega)):((List.map I l).length + [I (↑i:Int)].length).ble zAU=true)<|ap ((by exact zBB (by simp<;>omega)):(0+(List.map I l).length).beq (List.map I l).length=true)<|ap ((zAY (zBE (by kernel_rfl))):PV.own 1 (List.map I l++[I (↑i:Int)])=PV.own 1 (List.map I (l++[(↑i:Int)]))) an)<|zAc 1<|zAa<|zAg<|S_a [(1,.v (I (↑(i+1):Int)))] (ap (wrN i) an)<|zAc 1<|zAa ?_)) (fun k1=>(zAl<|zAg<|S_a [(1,.v (I (↑(i+1):Int)))] (ap (wrN i) an)<|zAc 1<|zAa ?_))
   ·rw [if_pos (by simp only [zF0,decide_eq_true k1])] at yW
    exact ⟨(i+1,l++[(i:Int)]),⟨by omega,yW.symm⟩,by simp only;omega,by kernel_rfl,by kernel_rfl⟩
   ·rw [if_neg (by simp only [zF0,decide_eq_false k1];simp)] at yW
    exact ⟨(i+1,l),⟨by omega,yW.symm⟩,by simp only;omega,by kernel_rfl,by kernel_rfl⟩
  ·refine zAd 1<|zAa<|zAi<|zBk ((↑i:Int)<(↑n.n.length:Int)) (by omega)<|zAS 1<|zAd 1<|S_a [(2,.yes)] (ap ((by exact zBB (by simp<;>omega)):(Nat.beq 0 0&&(List.map I l).length.beq (List.map I l).length)=true) an)<|zAc 1<|zAa<|zAn<|E_a [(1,.yes),(1,.v (PV.own 1 (List.map I l)))] (ap (blz (List.map I l))<|ap ((zAY zBi):PV.own 1 (List.take (List.map I l).length (List.drop 0 (List.map I l)))=PV.own 1 (List.map I l)) an) (PV.tup [PV.own 1 (List.map I l),I 0]) [] ?_ rfl
   rw [hl,show i=n.n.length by omega]
def bkL (n:Nw) (cs:List (Int×Int)) (c:Nat) (x:Int):Nat→List Int→List Int
 | 0,out=>out
 | k+1,out=>bkL n cs c x k (match (zHT n (out.getD 0 0).toNat n.h.toNat).find? fun o=>decide ((zBl n cs k).getD (o*8+c) 0=x) with | some o=>(o:Int)::out | none=>out)
abbrev zUl (S:List (List Int)):PV := .box (.own 80 (S.map hdV))
def zRx (n:Nw) (cs:List (Int×Int)) (k:Nat):List (List Int):=(List.range k).map fun k=>zBl n cs k
theorem zMb {n:Nw} {cs:List (Int×Int)} {k:Nat}:zRx n cs (k+1)=zRx n cs k++[zBl n cs k]:=by
 simp only [zRx,List.range_succ,List.map_append,List.map_cons,List.map_nil]
theorem zLe {n:Nw} {cs:List (Int×Int)} {k j:Nat} (h:j<k):(zRx n cs k).getD j []=zBl n cs j:=by
 simp [zRx,List.getD_eq_getElem?_getD,h]
theorem zUZ (n:Nw) (cs:List (Int×Int)) (h:Int) (ho:NwOk n) (hh:0≤h∧h<n.h):zFS 169 [] [.ref (zDN n cs),.ref (I h)] (zJj n h.toNat n.h.toNat):=by
 obtain ⟨g,rfl⟩:∃ g:Nat,h=g:=⟨h.toNat,by omega⟩
 exact zUj n cs g ho hh.2
theorem zKN {p:Nat→Bool}:∀ {l:List Nat} {j o:Nat},l[j]? = some o→p o=true→(∀ i,i<j→p (l.getD i 0)=false)→l.find? p=some o
 | [],j,o,h,_,_=>by cases h
 | x::l,0,o,h,hp,_=>by
  simp only [List.getElem?_cons_zero,Option.some.injEq] at h
  subst h;rw [List.find?_cons,hp]
 | x::l,j+1,o,h,hp,ha=>by
  have h0:=ha 0 (by omega)
  simp only [List.getD_cons_zero] at h0
  rw [List.find?_cons,h0]
  exact zKN (by simpa using h) hp fun i hi=>by simpa using ha (i+1) (by omega)
theorem zPL {p:Nat→Bool} {l:List Nat} (ha:∀ i,i<l.length→p (l.getD i 0)=false):l.find? p=none:=by
 rw [List.find?_eq_none]
 intro x hx
 obtain ⟨i,hi,rfl⟩:=List.getElem_of_mem hx
 have:=ha i hi
 rw [zAy hi] at this
 simp [this]
theorem f38_1 (n:Nw) (cs:List (Int×Int)) (h:Int) (x:Int) (k:Nat) (ho:CrOk n cs) (hh:0≤h∧h<n.h) (hx:0≤x∧x<n.n.length) (hk:k≤12) (kD:(zBl n cs k).getD (h.toNat*8+((zAh n).getD x.toNat 0).toNat) 0=x) (hm:∀ j,j<k→(zBl n cs j).getD (h.toNat*8+((zAh n).getD x.toNat 0).toNat) 0≠x):FG 38 [nwV n,prs cs,I h,I x] (.tup [.own 1 ((bkL n cs ((zAh n).getD x.toNat 0).toNat x k [h]).map I),I 0]):=by
 have hn:=ho.nw
 have vQ:=ho.w
 have hb:=hn.h
 have uL:=hn.nl
 have hin:inB x 0 (n.n.length-1)=true:=by simp only [inB,Bool.and_eq_true,decide_eq_true_eq];omega
 have hih:inB h 0 (n.h-1)=true:=by simp only [inB,Bool.and_eq_true,decide_eq_true_eq];omega
 have qn:=zBz hn x.toNat (by omega)
 refine zAe Tryz.f38 ?_
 refine zAd 4<|zAa<|zAd 2<|S_a [(8,.ret (PV.tup [zDN n cs,I 0]) [])] (ap (f99_1 n cs (by omega)) an)<|zAc 5<|zAa<|zAi<|zAk 0<|zAd 3<|zAa<|zAG<|zAd 2<|S_a [(8,.ret (PV.bool (inB h 0 (n.h-1))) [])] (ap (f109 n h (by omega)) an)<|zAc 2<|zGi 32 (!inB h 0 (n.h-1)) (fun k1=>(zAc 6<|zAa<|zDR<|zAd 2<|zAa<|zAn<|E_a [] an (PV.tup [PV.own 1 [],I 1]) [] ?_ rfl)) (fun k1=>(zAc 2<|S_a [(8,.ret (PV.bool (inB x 0 ((↑n.n.length:Int)-1))) [])] (ap (f106 n x (by first | omega | (simp<;>omega))) an)<|zAc 3<|zAa<|zFe (!inB x 0 ((↑n.n.length:Int)-1)) (fun k2=>(zAd 2<|zAa<|zAn<|E_a [] an (PV.tup [PV.own 1 [],I 1]) [] ?_ rfl)) (fun k2=>(zAl<|zAd 4<|S_a [(0,.ob),(1,.ob),(0,.v ((I ((zAh n).getD x.toNat 0)).ref))] (ap ((by exact zAs (by omega)):decide (0≤x)=true)<|ap ((by exact zAs (by omega)):decide (x.toNat<8)=true)<|ap (zGr (F:=zAh n) (m:=8) (j:=x.toNat) (by omega):zCl (PV.agg (zAM (zAh n) 8)).ref (x.toNat*(fun x=>x.size) Tryz.prog.types[3]) none=some (I ((zAh n).getD x.toNat 0)).ref) an)<|zAc 3<|zAa<|zAd 1<|S_a [(5,.ret (hdV (zLL n cs)) [])] (ap (f100 n cs (by omega)) an)<|zAc 3<|zAa<|zAi<|zAk 1 ?_))))
 ·rw [hih] at k1;cases k1
 ·rw [hin] at k2;cases k2
 ·generalize hc:((zAh n).getD x.toNat 0)=c at *
  refine zAA (fun (j,S)=>j≤k∧S=zRx n cs (j+1)) (fun (j,S)=>[(13,zUl S)]) (fun (j,_)=>k-j) ((0:Nat),[zLL n cs]) ⟨by omega,rfl⟩ fun (j,S) ⟨hj,hS⟩=>?_
  have wa:S.length=j+1:=by rw [hS];simp [zRx]
  have qH:S.getD (S.length-1) []=zBl n cs j:=by rw [wa,hS];exact zLe (by omega)
  have gk:(S.getD (S.length-1) []).length=80:=by rw [qH];exact zB6 j
  by_cases gl:j<k
  ·have hI:=hm j gl
   rw [← qH] at hI
   have hSS:S++[zCZ n (S.getD (S.length-1) [])]=zRx n cs (j+1+1):=by rw [zMb (k:=j+1),← hS,qH];rfl
   refine zAi<|zAi<|zAg<|S_a [(1,.v (PV.bor 13 [(0,0)] 80 0 S.length))] (ap ((by simp):PV.bor 13 [(0,0)] 80 0 (List.map hdV S).length=PV.bor 13 [(0,0)] 80 0 S.length) an)<|S_a [(1,.v (PV.bor 13 [(0,0)] 80 0 S.length))] (ap ((by simp):PV.bor 13 [(0,0)] 80 0 (List.map hdV S).length=PV.bor 13 [(0,0)] 80 0 S.length) an)<|zAc 1<|S_a [(1,.v (I (↑(S.length-1):Int)))] (ap ((zCe (by omega) (by omega)):I (IntKind.i64.wrap ((↑S.length:Int)-1))=I (↑(S.length-1):Int)) an)<|zAc 2<|S_a [(2,.ob),(1,.n (S.length-1))] (ap ((by exact zAs (by omega)):decide (S.length-1<S.length)=true)<|ap ((by simp):some (0+(S.length-1))=some (S.length-1)) an)<|S_a [(0,.ob),(1,.ob)] (ap ((by exact zAs (by omega)):decide (0≤h)=true)<|ap ((by exact zAs (by omega)):decide (h.toNat<10)=true) an)<|S_a [(0,.ob),(1,.ob)] (ap ((by exact zAs (by omega)):decide (0≤c)=true)<|ap ((by exact zAs (by omega)):decide (c.toNat<8)=true) an)<|S_a [(0,.cs true ([I ((S.getD (S.length-1) []).getD (h.toNat*8+c.toNat) 0)]))] (ap (zC8 (q:=PV.own 80 (List.map hdV S)) (xs:=List.map hdV S) (x:=PV.agg (zAM (S.getD (S.length-1) []) 80)) (zL5 (xs:=[PV.own 80 (List.map hdV S)]) (x:=PV.own 80 (List.map hdV S)) (y:=PV.own 80 (List.map hdV S)) rfl rfl) (zCI [] (by omega)) (zES (F:=S.getD (S.length-1) []) (m:=80) (j:=h.toNat*8+c.toNat) (by first | rfl | exact zBT (by kernel_rfl) | exact zBW (by kernel_rfl) | exact zC9 (by kernel_rfl) (by kernel_rfl) | exact zC3 (by kernel_rfl) | exact zDq (by kernel_rfl) (by kernel_rfl) | exact zDh (by kernel_rfl) | (simp;done)) (by omega)):zAr 13 (PV.own 80 (List.map hdV S)).box [(0,0)] (S.length-1) (0+h.toNat*(fun x=>x.size) Tryz.prog.types[128]+c.toNat*(fun x=>x.size) Tryz.prog.types[3]) 1=some (true,[I ((S.getD (S.length-1) []).getD (h.toNat*8+c.toNat) 0)])) an)<|zAc 2<|zAa<|zIK ((S.getD (S.length-1) []).getD (h.toNat*8+c.toNat) 0=x) (by omega)<|zAl<|zAk 2<|zAi<|zAi<|zAg<|S_a [(1,.v (PV.bor 13 [(0,0)] 80 0 S.length))] (ap ((by simp):PV.bor 13 [(0,0)] 80 0 (List.map hdV S).length=PV.bor 13 [(0,0)] 80 0 S.length) an)<|zAc 2<|zAa<|zBk ((↑S.length:Int)>12) (by omega)<|zAl<|zAg<|S_a [(1,.v (PV.bor 13 [(0,0)] 80 0 S.length))] (ap ((by simp):PV.bor 13 [(0,0)] 80 0 (List.map hdV S).length=PV.bor 13 [(0,0)] 80 0 S.length) an)<|zAc 1<|S_a [(1,.v (PV.bor 13 [(0,0)] 80 0 S.length))] (ap ((by simp):PV.bor 13 [(0,0)] 80 0 (List.map hdV S).length=PV.bor 13 [(0,0)] 80 0 S.length) an)<|S_a [(1,.v (PV.bor 13 [(0,0)] 80 0 S.length))] (ap ((by simp):PV.bor 13 [(0,0)] 80 0 (List.map hdV S).length=PV.bor 13 [(0,0)] 80 0 S.length) an)<|zAc 1<|S_a [(1,.v (I (↑(S.length-1):Int)))] (ap ((zCe (by omega) (by omega)):I (IntKind.i64.wrap ((↑S.length:Int)-1))=I (↑(S.length-1):Int)) an)<|S_a [(2,.ob),(1,.n (S.length-1))] (ap ((by exact zAs (by omega)):decide (S.length-1<S.length)=true)<|ap ((by simp):some (0+(S.length-1))=some (S.length-1)) an)<|S_a [(0,.cs true (zAM (S.getD (S.length-1) []) 80))] (ap (zC8 (q:=PV.own 80 (List.map hdV S)) (xs:=List.map hdV S) (x:=PV.agg (zAM (S.getD (S.length-1) []) 80)) (zL5 (xs:=[PV.own 80 (List.map hdV S)]) (x:=PV.own 80 (List.map hdV S)) (y:=PV.own 80 (List.map hdV S)) rfl rfl) (zCI [] (by omega)):zAr 13 (PV.own 80 (List.map hdV S)).box [(0,0)] (S.length-1) 0 Tryz.prog.types[130].size=some (true,zAM (S.getD (S.length-1) []) 80)) an)<|S_a [(7,.ret (hdV (zCZ n (S.getD (S.length-1) []))) [])] (ap (f101 n cs (S.getD (S.length-1) []) (by omega) (by omega)) an)<|zAc 1<|S_a [(4,.ob),(0,.ob),(0,.yes),(2,.v (PV.own 80 (List.map hdV (S++[zCZ n (S.getD (S.length-1) [])]))))] (ap ((by exact zA0 (by simp only [List.length_map,zzLn,zAU]<;>omega)):(0+S.length).ble (List.map hdV S).length=true)<|ap ((by exact zA0 (by simp only [List.length_map,zzLn,zAU]<;>omega)):((List.map hdV S).length + [PV.agg (zAM (zCZ n (S.getD (S.length-1) [])) 80)].length).ble zAU=true)<|ap ((by exact zBB (by simp<;>omega)):(0+S.length).beq (List.map hdV S).length=true)<|ap ((zAY (zBE (by kernel_rfl))):PV.own 80 (List.map hdV S++[PV.agg (zAM (zCZ n (S.getD (S.length-1) [])) 80)])=PV.own 80 (List.map hdV (S++[zCZ n (S.getD (S.length-1) [])]))) an)<|zAc 1<|zAa ?_
   exact ⟨(j+1,S++[zCZ n (S.getD (S.length-1) [])]),⟨by omega,hSS⟩,by simp only;omega,by kernel_rfl,by kernel_rfl⟩
  ·have e:j=k:=by omega
   subst e
   rw [← qH] at kD
   refine zAi<|zAi<|zAg<|S_a [(1,.v (PV.bor 13 [(0,0)] 80 0 S.length))] (ap ((by simp):PV.bor 13 [(0,0)] 80 0 (List.map hdV S).length=PV.bor 13 [(0,0)] 80 0 S.length) an)<|S_a [(1,.v (PV.bor 13 [(0,0)] 80 0 S.length))] (ap ((by simp):PV.bor 13 [(0,0)] 80 0 (List.map hdV S).length=PV.bor 13 [(0,0)] 80 0 S.length) an)<|zAc 1<|S_a [(1,.v (I (↑(S.length-1):Int)))] (ap ((zCe (by omega) (by omega)):I (IntKind.i64.wrap ((↑S.length:Int)-1))=I (↑(S.length-1):Int)) an)<|zAc 2<|S_a [(2,.ob),(1,.n (S.length-1))] (ap ((by exact zAs (by omega)):decide (S.length-1<S.length)=true)<|ap ((by simp):some (0+(S.length-1))=some (S.length-1)) an)<|S_a [(0,.ob),(1,.ob)] (ap ((by exact zAs (by omega)):decide (0≤h)=true)<|ap ((by exact zAs (by omega)):decide (h.toNat<10)=true) an)<|S_a [(0,.ob),(1,.ob)] (ap ((by exact zAs (by omega)):decide (0≤c)=true)<|ap ((by exact zAs (by omega)):decide (c.toNat<8)=true) an)<|S_a [(0,.cs true ([I ((S.getD (S.length-1) []).getD (h.toNat*8+c.toNat) 0)]))] (ap (zC8 (q:=PV.own 80 (List.map hdV S)) (xs:=List.map hdV S) (x:=PV.agg (zAM (S.getD (S.length-1) []) 80)) (zL5 (xs:=[PV.own 80 (List.map hdV S)]) (x:=PV.own 80 (List.map hdV S)) (y:=PV.own 80 (List.map hdV S)) rfl rfl) (zCI [] (by omega)) (zES (F:=S.getD (S.length-1) []) (m:=80) (j:=h.toNat*8+c.toNat) (by first | rfl | exact zBT (by kernel_rfl) | exact zBW (by kernel_rfl) | exact zC9 (by kernel_rfl) (by kernel_rfl) | exact zC3 (by kernel_rfl) | exact zDq (by kernel_rfl) (by kernel_rfl) | exact zDh (by kernel_rfl) | (simp;done)) (by omega)):zAr 13 (PV.own 80 (List.map hdV S)).box [(0,0)] (S.length-1) (0+h.toNat*(fun x=>x.size) Tryz.prog.types[128]+c.toNat*(fun x=>x.size) Tryz.prog.types[3]) 1=some (true,[I ((S.getD (S.length-1) []).getD (h.toNat*8+c.toNat) 0)])) an)<|zAc 2<|zAa<|zGE ((S.getD (S.length-1) []).getD (h.toNat*8+c.toNat) 0=x) (by omega)<|zAS 1<|zAd 4<|zAa<|zAi<|zAi<|zAg<|S_a [(1,.v (PV.bor 13 [(0,0)] 80 0 S.length))] (ap ((by simp):PV.bor 13 [(0,0)] 80 0 (List.map hdV S).length=PV.bor 13 [(0,0)] 80 0 S.length) an)<|zAc 1<|S_a [(1,.v (I ((↑S.length:Int)-2)))] (ap ((zCe rfl (by omega)):I (IntKind.i64.wrap ((↑S.length:Int)-2))=I ((↑S.length:Int)-2)) an)<|zAc 2<|zAa<|zAk 3 ?_
   have hS0:∀ r:Nat,r<S.length→(S.getD r []).length=80∧S.getD r []=zBl n cs r:=fun r hr=>by
    rw [hS,zLe (by omega)];exact ⟨zB6 r,rfl⟩
   have hSm:((S.length:Nat):Int)-2=(j:Int)-1:=by omega
   generalize yK:bkL n cs c.toNat x j [h]=fin
   clear hS qH gk kD hm
   refine zAA (fun ((m:Int),(out:List Int))=>-1≤m∧m<j∧out.length≤20-m∧0<out.length∧(0≤out.getD 0 0∧out.getD 0 0<n.h)∧bkL n cs c.toNat x (m+1).toNat out=fin) (fun (m,out)=>[(14,.box (.own 1 (out.map I))),(15,.box (I m))]) (fun (m,_)=>(m+1).toNat) (((S.length:Nat):Int)-2,[h]) ⟨by omega,by omega,by simp only [List.length_cons,List.length_nil];omega,by simp,by simpa using hh,by rw [← yK];congr 1;omega⟩ fun (m,out) ⟨hm1,vP,ho1,ho2,ho3,gm⟩=>?_
   by_cases wY:0≤m
   ·have hA:=zUZ n cs (out.getD 0 0) hn ho3
    obtain ⟨ud,uQ⟩:=hS0 m.toNat (by omega)
    rw [show (m+1).toNat=m.toNat+1 by omega,bkL,← uQ] at gm
    refine zAi<|zAd 2<|zAa<|zA8 (m≥0) (by omega)<|zAl<|zAi<|zAk 4<|zVS<|zAi<|zUG (zAd 1<|S_a [(1,.v (PV.bor 14 [(0,0)] 1 0 out.length))] (ap ((by simp):PV.bor 14 [(0,0)] 1 0 (List.map I out).length=PV.bor 14 [(0,0)] 1 0 out.length) an)<|S_a [(2,.ob)] (ap ((by exact zAs (by omega)):decide (0<out.length)=true) an)<|S_a [(0,.cs false ([I (out.getD 0 0)]))] (ap (zC8 (q:=PV.own 1 (List.map I out)) (xs:=List.map I out) (x:=I (out.getD 0 0)) (zL5 (xs:=[PV.own 1 (List.map I out)]) (x:=PV.own 1 (List.map I out)) (y:=PV.own 1 (List.map I out)) rfl rfl) (zCI (0) (by omega)):zAr 14 (PV.own 1 (List.map I out)).box [(0,0)] 0 0 1=some (false,[I (out.getD 0 0)])) an)<|S_a [(7,.ret (PV.func 169 [] [(zDN n cs).ref,(I (out.getD 0 0)).ref]) [])] (ap (f116 n cs (out.getD 0 0)) an)<|zAa<|zAk 5 ?_)
    refine zOJ (t:=86) hA (fun i (_:Unit)=>∀ r,r<i→decide ((S.getD m.toNat []).getD ((zHT n (out.getD 0 0).toNat n.h.toNat).getD r 0*8+c.toNat) 0=x)=false) (fun _=>[]) () (fun r hr=>absurd hr (Nat.not_lt_zero r)) (fun i y _ hy hi=>?_) (fun _ hi=>?_)
    ·rw [List.getElem?_map] at hy
     obtain ⟨o,hmo,rfl⟩:=Option.map_eq_some_iff.1 hy
     have hol:o<n.h.toNat:=zJM (List.mem_of_getElem? hmo)
     refine zOF ?_
     refine zAg<|zAc 1<|zAa ?_
     have jU:(zHT n (out.getD 0 0).toNat n.h.toNat).getD i 0=o:=by rw [List.getD_eq_getElem?_getD,hmo];rfl
     refine ⟨rfl,by kernel_rfl,?_⟩
     refine zAk 6<|zAi<|zAg<|S_a [(1,.v (PV.bor 13 [(0,0)] 80 0 S.length))] (ap ((by simp):PV.bor 13 [(0,0)] 80 0 (List.map hdV S).length=PV.bor 13 [(0,0)] 80 0 S.length) an)<|zAc 3<|S_a [(0,.ob),(1,.ob),(1,.n m.toNat)] (ap ((by exact zAs (by omega)):decide (0≤m)=true)<|ap ((by exact zAs (by omega)):decide (m.toNat<S.length)=true)<|ap ((by simp):some (0+m.toNat)=some m.toNat) an)<|S_a [(2,.ob)] (ap ((by exact zAs (by omega)):decide (o<10)=true) an)<|S_a [(0,.ob),(1,.ob)] (ap ((by exact zAs (by omega)):decide (0≤c)=true)<|ap ((by exact zAs (by omega)):decide (c.toNat<8)=true) an)<|S_a [(0,.cs true ([I ((S.getD m.toNat []).getD (o*8+c.toNat) 0)]))] (ap (zC8 (q:=PV.own 80 (List.map hdV S)) (xs:=List.map hdV S) (x:=PV.agg (zAM (S.getD m.toNat []) 80)) (zL5 (xs:=[PV.own 80 (List.map hdV S)]) (x:=PV.own 80 (List.map hdV S)) (y:=PV.own 80 (List.map hdV S)) rfl rfl) (zCI [] (by omega)) (zES (F:=S.getD m.toNat []) (m:=80) (j:=o*8+c.toNat) (by first | rfl | exact zBT (by kernel_rfl) | exact zBW (by kernel_rfl) | exact zC9 (by kernel_rfl) (by kernel_rfl) | exact zC3 (by kernel_rfl) | exact zDq (by kernel_rfl) (by kernel_rfl) | exact zDh (by kernel_rfl) | (simp;done)) (by omega)):zAr 13 (PV.own 80 (List.map hdV S)).box [(0,0)] m.toNat (0+(↑o:Int).toNat*(fun x=>x.size) Tryz.prog.types[128]+c.toNat*(fun x=>x.size) Tryz.prog.types[3]) 1=some (true,[I ((S.getD m.toNat []).getD (o*8+c.toNat) 0)])) an)<|zAc 2<|zAa<|zDo ((S.getD m.toNat []).getD (o*8+c.toNat) 0=x) (fun k2=>(zAd 2<|S_a [(1,.v (PV.bor 14 [(0,0)] 1 0 out.length))] (ap ((by simp):PV.bor 14 [(0,0)] 1 0 (List.map I out).length=PV.bor 14 [(0,0)] 1 0 out.length) an)<|S_a [(1,.ob),(0,.vs (List.map I out)),(0,.ob),(0,.ob),(0,.ob),(3,.ob)] (ap ((by exact zA0 (by simp only [List.length_map,zzLn,zAU]<;>omega)):(0+out.length).ble (List.map I out).length=true)<|ap ((by simp [zDe]):List.take out.length (List.drop 0 (List.map I out))=List.map I out)<|ap ((by exact all_map _):((List.map I out).all fun x=>x.plain)=true)<|ap ((by exact all_map _):((List.map I out).all fun y=>y.cells.length.beq ((fun x=>x.size) Tryz.prog.types[3])&&y.cells.all fun q=>q.oneCell)=true)<|ap ((by exact List.isEmpty_iff.2 (zSq _)):(zBw (List.map I out)).isEmpty=true)<|ap ((by exact zA0 (by simp only [List.length_map,zzLn,zAU]<;>omega)):([I (↑o:Int)].length+(List.map I out).length).ble zAU=true) an)<|zAc 1<|zAa<|zAS 5 ?_)) (fun k2=>(zAl ?_))
     ·rw [zKN hmo (decide_eq_true (by assumption)) hi] at gm
      clear hi hmo hA
      refine ⟨by kernel_rfl,?_⟩
      refine zAi<|zAd 1<|zAa<|zAg<|zAc 2<|zAa<|zAg<|zAc 1<|S_a [(1,.v (I (m-1)))] (ap ((zCe rfl (by omega)):I (IntKind.i64.wrap (m-1))=I (m-1)) an)<|zAc 1<|zAa ?_
      exact ⟨(m-1,(o:Int)::out),⟨by omega,by omega,by simp only [List.length_cons];omega,by simp,by simp only [List.getD_cons_zero];omega,by rw [show (m-1+1).toNat=m.toNat by omega];exact gm⟩,by simp only;omega,by kernel_rfl,by kernel_rfl⟩
     ·refine ⟨by kernel_rfl,(),fun r hr=>?_,by kernel_rfl⟩
      rcases Nat.lt_succ_iff_lt_or_eq.1 hr with h | rfl
      ·exact hi r h
      ·rw [jU];exact decide_eq_false (by assumption)
    ·rw [zPL (by simpa using hi)] at gm
     clear hi hA
     show W _ _ _ _ _ _ _ _
     refine zAi<|zAd 1<|zAa<|zAg<|zAc 2<|zAa<|zAg<|zAc 1<|S_a [(1,.v (I (m-1)))] (ap ((zCe rfl (by omega)):I (IntKind.i64.wrap (m-1))=I (m-1)) an)<|zAc 1<|zAa ?_
     exact ⟨(m-1,out),⟨by omega,by omega,by omega,ho2,ho3,by rw [show (m-1+1).toNat=m.toNat by omega];exact gm⟩,by simp only;omega,by kernel_rfl,by kernel_rfl⟩
   ·have hm3:(m+1).toNat=0:=by omega
    rw [hm3,bkL] at gm
    rw [← gm]
    refine zAi<|zAd 2<|zAa<|zBk (m≥0) (by omega)<|zAS 3<|zAi<|zAg<|S_a [(1,.v (PV.bor 14 [(0,0)] 1 0 out.length))] (ap ((by simp):PV.bor 14 [(0,0)] 1 0 (List.map I out).length=PV.bor 14 [(0,0)] 1 0 out.length) an)<|S_a [(2,.yes)] (ap ((by exact zBB (by simp<;>omega)):(Nat.beq 0 0&&out.length.beq (List.map I out).length)=true) an)<|zAc 1<|zAa<|zAn<|E_a [(1,.yes),(1,.v (PV.own 1 (List.map I out)))] (ap (blz (List.map I out))<|ap ((zAY zBi):PV.own 1 (List.take (List.map I out).length (List.drop 0 (List.map I out)))=PV.own 1 (List.map I out)) an) (PV.tup [PV.own 1 (List.map I out),I 0]) [] rfl rfl
end Go.Eng
set_option maxHeartbeats 1000000
namespace Go.Eng
open Go
theorem zND:∀ {a b:List Int},a.Pairwise (· < ·)→b.Pairwise (· < ·)→(∀ x,x∈a↔x∈b)→a=b
 | [],[],_,_,_=>rfl
 | [],y::b,_,_,h=>absurd ((h y).2 (by simp)) (by simp)
 | x::a,[],_,_,h=>absurd ((h x).1 (by simp)) (by simp)
 | x :: a,y::b,ha,hb,h=>by
  rw [List.pairwise_cons] at ha hb
  have e:x=y:=by
   have h1:=(h x).1 (by simp)
   have h2:=(h y).2 (by simp)
   rcases List.mem_cons.1 h1 with h1 | h1
   ·exact h1
   rcases List.mem_cons.1 h2 with h2 | h2
   ·exact h2.symm
   have:=ha.1 y h2
   have:=hb.1 x h1
   omega
  subst e
  rw [zND ha.2 hb.2 fun z=>?_]
  constructor
  ·intro hz
   rcases List.mem_cons.1 ((h z).1 (List.mem_cons_of_mem _ hz)) with rfl | h1
   ·exact absurd (ha.1 z hz) (by omega)
   ·exact h1
  ·intro hz
   rcases List.mem_cons.1 ((h z).2 (List.mem_cons_of_mem _ hz)) with rfl | h1
   ·exact absurd (hb.1 z hz) (by omega)
   ·exact h1
theorem zNb {p:Nat→Bool} {k:Nat} {x:Int}:x∈zBR p k↔∃ i:Nat,i<k∧p i=true∧x=i:=by
 simp only [zBR,List.mem_map,List.mem_filter,List.mem_range]
 constructor
 ·rintro ⟨i,⟨h1,h2⟩,rfl⟩;exact ⟨i,h1,h2,rfl⟩
 ·rintro ⟨i,h1,h2,rfl⟩;exact ⟨i,⟨h1,h2⟩,rfl⟩
theorem zFm {p:Nat→Bool}:∀ k,(zBR p k).Pairwise (· < ·)
 | 0=>by simp [zBR]
 | k + 1=>by
  rw [zD5]
  split
  ·rw [List.pairwise_append]
   refine ⟨zFm k,by simp,fun a ha b hb=>?_⟩
   have:=zNb.1 ha
   obtain ⟨i,hi,_,rfl⟩:=this
   have:=List.mem_singleton.1 hb
   omega
  ·exact zFm k
theorem zSR {l:List Int} {x:Int}:x∈zFn l↔x∈l:=by simp [zFn]
theorem zS0 {l:List Int}:(zFn l).length=l.length:=by simp [zFn]
theorem zVU (l:List Int):(zFn l).Pairwise (· ≤ ·):=by
 have:=List.pairwise_mergeSort (le:=fun (x y:Int)=>decide (x≤y)) (fun a b c h1 h2=>by simp at *;omega) (fun a b=>by simp;omega) l
 exact this.imp (by simp)
theorem zTA {l:List Int} (h:l.Nodup):(zFn l).Pairwise (· < ·):=by
 have h1:=zVU l
 have h2:(zFn l).Nodup:=(List.mergeSort_perm l _).nodup_iff.2 h
 have:=h1.and h2
 exact this.imp (fun ⟨a,b⟩=>by omega)
theorem zT5 {l:List Int} {p:Nat→Bool} {k:Nat} (yU:l.Nodup) (hm:∀ x,x∈l↔∃ i:Nat,i<k∧p i=true∧x=i):zFn l=zBR p k :=
 zND (zTA yU) (zFm k) fun x=>by rw [zSR,hm,zNb]
def zSG (w:List Int) (h:Nat):List Int:=(w.drop (h*8)).take 8
def zXn (w:List Int) (h:Nat):List Int:=(zSG w h).filter fun x=>decide (x≠-1)
theorem zUb {n:Nw} {K:List (List Bool)} {w:List Int} {h:Nat} (ho:NwOk n) (hr:RelK n K w) (hh:h<n.h.toNat):zFn (zXn w h)=zBR (hld n w h) n.n.length:=by
 have hH:=ho.h
 have gk:=hr.wl
 have hrl:(zSG w h).length=8:=by simp [zSG];omega
 have j5:∀ c,c<8→(zSG w h).getD c 0=w.getD (h*8+c) 0:=fun c hc=>zOp hc
 refine zT5 ?_ fun x=>?_
 ·unfold zXn
  rw [List.Nodup,List.pairwise_filter,List.pairwise_iff_getElem]
  intro i j hi hj gi h1 h2
  have e1:=j5 i (by omega)
  have e2:=j5 j (by omega)
  rw [zAy hi] at e1
  rw [zAy hj] at e2
  rw [e1] at h1 ⊢
  rw [e2] at h2 ⊢
  simp only [decide_eq_true_eq] at h1 h2
  intro he
  rcases hr.at_ h i hh (by omega) with h3 | ⟨a,_,h4,h5,_⟩
  ·exact h1 h3
  rcases hr.at_ h j hh (by omega) with h6 | ⟨b,_,h7,h8,_⟩
  ·exact h2 h6
  have:a=b:=by omega
  subst this
  omega
 ·simp only [zXn,List.mem_filter,decide_eq_true_eq,hld]
  constructor
  ·rintro ⟨h1,h2⟩
   obtain ⟨c,hc,rfl⟩:=List.getElem_of_mem h1
   have e1:=j5 c (by omega)
   rw [zAy hc] at e1
   rw [e1] at h2 ⊢
   rcases hr.at_ h c hh (by omega) with h3 | ⟨a,ha,h4,h5,_⟩
   ·exact absurd h3 h2
   refine ⟨a,ha,?_,h5⟩
   rw [h4]
   simpa using h5
  ·rintro ⟨i,hi,h1,rfl⟩
   have hf:=zBz ho i hi
   have uL:=ho.nl
   refine ⟨?_,by omega⟩
   have e1:=j5 ((zAh n).getD i 0).toNat (by omega)
   rw [h1] at e1
   have yG:((zAh n).getD i 0).toNat<(zSG w h).length:=by omega
   rw [zAy yG] at e1
   rw [← e1]
   exact List.getElem_mem yG
end Go.Eng
set_option maxRecDepth 10000
set_option maxHeartbeats 4000000
namespace Go.Eng
open Go Go.Proofs
end Go.Eng
set_option maxRecDepth 10000
set_option maxHeartbeats 4000000
namespace Go.Eng
open Go Go.Proofs
end Go.Eng
namespace Go.Eng
open Go Go.Proofs
end Go.Eng
namespace Go.Eng
open Go Go.Proofs
theorem zVj {a b v:Int}:v≤max a b↔v≤a∨v≤b:=by omega
theorem zR7 {now w:List Int} {h o:Nat} (hw:w.length=80) (hh:h<10) {j:Nat} {v:Int}:∀ k,k≤8→(v≤(nxtR now h o w k).getD j 0↔v≤w.getD j 0∨∃ c,c<k∧j=h*8+c∧v≤now.getD (o*8+c) 0)
 | 0,_=>by
  refine ⟨.inl,fun h=>h.elim id fun ⟨c,h,_⟩=>absurd h (Nat.not_lt_zero c)⟩
 | k + 1,hk=>by
  have ih:=zR7 (now:=now) (o:=o) hw hh (j:=j) (v:=v) k (by omega)
  rw [zIN,zIu (by rw [zHi,hw];omega)]
  split
  ·rename_i e
   rw [zVj,ih]
   constructor
   ·rintro ((h1 | ⟨c,h1,h2,h3⟩) | h1)
    ·exact .inl h1
    ·exact .inr ⟨c,by omega,h2,h3⟩
    ·exact .inr ⟨k,by omega,e.symm,h1⟩
   ·rintro (h1 | ⟨c,h1,h2,h3⟩)
    ·exact .inl (.inl h1)
    ·obtain rfl:c=k:=by omega
     exact .inr h3
  ·rename_i e
   rw [ih]
   refine or_congr Iff.rfl ⟨fun ⟨c,h1,h2,h3⟩=>⟨c,by omega,h2,h3⟩,fun ⟨c,h1,h2,h3⟩=>⟨c,?_,h2,h3⟩⟩
   by_cases hc:c=k
   ·subst hc;exact absurd h2.symm e
   ·omega
theorem zQZ {now:List Int} {h:Nat} (hh:h<10) {j:Nat} {v:Int}:∀ (l:List Nat) {w:List Int},w.length=80→(v≤(nxtH now h w l).getD j 0↔v≤w.getD j 0∨∃ o∈l,∃ c,c<8∧j=h*8+c∧v≤now.getD (o*8+c) 0)
 | [],w,hw=>⟨.inl,fun h=>h.elim id fun ⟨o,h,_⟩=>absurd h List.not_mem_nil⟩
 | o :: l,w,hw=>by
  have ih:=zQZ (now:=now) hh (j:=j) (v:=v) l (w:=nxtR now h o w 8) (by rw [zHi,hw])
  show v≤(nxtH now h (nxtR now h o w 8) l).getD j 0↔_
  rw [ih,zR7 hw hh 8 (Nat.le_refl _)]
  constructor
  ·rintro ((h1 | h1) | ⟨o2,h1,h2⟩)
   ·exact .inl h1
   ·exact .inr ⟨o,List.mem_cons_self,h1⟩
   ·exact .inr ⟨o2,List.mem_cons_of_mem _ h1,h2⟩
  ·rintro (h1 | ⟨o2,h1,h2⟩)
   ·exact .inl (.inl h1)
   ·rcases List.mem_cons.1 h1 with e | h3
    ·subst e;exact .inl (.inr h2)
    ·exact .inr ⟨o2,h3,h2⟩
theorem zQY {n:Nw} {now:List Int} (hw:now.length=80) {j:Nat} {v:Int}:∀ k,k≤10→(v≤(nxtN n now k).getD j 0↔v≤now.getD j 0∨∃ h,h<k∧∃ o∈zHT n h n.h.toNat,∃ c,c<8∧j=h*8+c∧v≤now.getD (o*8+c) 0)
 | 0,_=>⟨.inl,fun h=>h.elim id fun ⟨c,h,_⟩=>absurd h (Nat.not_lt_zero c)⟩
 | k + 1,hk=>by
  have ih:=zQY (n:=n) hw (j:=j) (v:=v) k (by omega)
  rw [zJb,zQZ (by omega) _ (by rw [zIw,hw]),ih]
  constructor
  ·rintro ((h1 | ⟨h,h1,h2⟩) | h2)
   ·exact .inl h1
   ·exact .inr ⟨h,by omega,h2⟩
   ·exact .inr ⟨k,by omega,h2⟩
  ·rintro (h1 | ⟨h,h1,h2⟩)
   ·exact .inl (.inl h1)
   ·by_cases e:h=k
    ·subst e;exact .inr h2
    ·exact .inl (.inr ⟨h,by omega,h2⟩)
theorem zNm {n:Nw} (ho:NwOk n) {w:List Int} (hw:w.length=80) {h c:Nat} (hh:h<n.h.toNat) (hc:c<8) {v:Int}:v≤(zCZ n w).getD (h*8+c) 0↔v≤w.getD (h*8+c) 0∨∃ o∈zHT n h n.h.toNat,v≤w.getD (o*8+c) 0:=by
 have hH:=ho.h
 unfold zCZ
 rw [zQY hw _ (by omega)]
 refine or_congr Iff.rfl ⟨fun ⟨h2,h3,o,h4,c2,h5,h6,h7⟩=>?_,fun ⟨o,h1,h2⟩=>⟨h,hh,o,h1,c,hc,rfl,h2⟩⟩
 obtain rfl:h2=h:=by omega
 obtain rfl:c2=c:=by omega
 exact ⟨o,h4,h7⟩
end Go.Eng
namespace Go.Eng
open Go Go.Proofs
theorem zFK {p:Nat→Bool} {k:Nat} {x:Int}:x∈zBR p k↔∃ i:Nat,i<k∧p i=true∧x=i:=by
 simp only [zBR,List.mem_map,List.mem_filter,List.mem_range]
 exact ⟨fun ⟨i,⟨h1,h2⟩,h3⟩=>⟨i,h1,h2,h3.symm⟩,fun ⟨i,h1,h2,h3⟩=>⟨i,⟨h1,h2⟩,h3.symm⟩⟩
theorem zFR {p:Nat→Bool} {a:Nat}:∀ b,a≤b→(∀ i,a≤i→i<b→p i=false)→zBR p b=zBR p a
 | 0,h,_=>by rw [show a=0 by omega]
 | b + 1,h,hp=>by
  by_cases e:a=b+1
  ·rw [e]
  ·rw [zD5,hp b (by omega) (by omega),if_neg (by simp)]
   exact zFR b (by omega) fun i h1 h2=>hp i h1 (by omega)
theorem zRE {n:Nw} (ho:NwOk n) {i m:Nat} (hi:i<n.n.length) (hm:(zAh n).getD i 0=m):zBR (zF0 n i) (m+1)=[(m:Int)]:=by
 have hb:=zBz ho i hi
 have hmm:zF0 n i m=true:=by
  simp only [zF0,decide_eq_true_eq,Int.toNat_natCast]
  have:=zJp ho i hi
  rw [hm] at this ⊢
  simpa using this
 rw [zD5,if_pos hmm,zFR (p:=zF0 n i) (a:=0) m (by omega) fun k _ hk=>?_]
 ·rfl
 ·simp only [zF0,decide_eq_false_iff_not,Int.toNat_natCast,hm]
  have:=zBz ho k (by omega)
  omega
theorem zWA {n:Nw} (ho:NwOk n) {i m:Nat} (hi:i<n.n.length) (hm:m<n.n.length) (hc:chn n m i):(zSE n m = -1∧zBR (zF0 n i) n.n.length=zBR (zF0 n i) (m+1))∨∃ k:Nat,zSE n m=k∧m<k∧k<n.n.length∧chn n k i∧zBR (zF0 n i) (k+1)=zBR (zF0 n i) (m+1)++[(k:Int)]:=by
 have kZ:∀ k,zF0 n i k=true→chn n k m:=fun k h=>by
  simp only [zF0,decide_eq_true_eq,Int.toNat_natCast] at h
  unfold chn at *;omega
 rcases zTt ho hm with ⟨g1,g2⟩ | ⟨k,g1,g2,g3,g4,g5⟩
 ·refine .inl ⟨g1,zFR _ (by omega) fun k h1 h2=>?_⟩
  cases hx:zF0 n i k
  ·rfl
  ·exact absurd (by omega:m<k) (g2 k h2 (kZ k hx))
 ·have u4:chn n k i:=by unfold chn at *;omega
  refine .inr ⟨k,g1,g2,g3,u4,?_⟩
  rw [zD5,if_pos (by simp only [zF0,decide_eq_true_eq,Int.toNat_natCast];exact u4),zFR (a:=m+1) k (by omega) fun j h1 h2=>?_]
  cases hx:zF0 n i j
  ·rfl
  ·have:=g5 j (by omega) (kZ j hx) (by omega)
   omega
end Go.Eng
set_option maxHeartbeats 1000000
namespace Go.Eng
open Go
def hoL (n:Nw) (cs:List (Int×Int)) (k h:Nat):List Int:=zBR (hld n (zBl n cs k) h) n.n.length
theorem zN1 {n:Nw} {cs:List (Int×Int)} {k h:Nat} {x:Int}:x∈hoL n cs k h↔∃ i:Nat,i<n.n.length∧(zBl n cs k).getD (h*8+((zAh n).getD i 0).toNat) 0=i∧x=i:=by
 unfold hoL
 rw [zFK]
 constructor
 ·rintro ⟨i,h1,h2,h3⟩;exact ⟨i,h1,of_decide_eq_true h2,h3⟩
 ·rintro ⟨i,h1,h2,h3⟩;exact ⟨i,h1,decide_eq_true h2,h3⟩
theorem zUO {n:Nw} {cs:List (Int×Int)} {k h:Nat}:(hoL n cs k h).length≤n.n.length:=zG2
end Go.Eng
