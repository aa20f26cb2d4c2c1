/- For any news, cries and evenings the law NewsSpare ends in true: the cries that can be left out, or the error, are as specified; without conditions. -/
import Derived.Test.YtppbomajegnkeaaGreatPf
import Derived.Test.YtppbomajegnkeaaGreatPd
set_option linter.unusedVariables false
set_option linter.unusedSimpArgs false
set_option linter.unusedSectionVars false
set_option maxRecDepth 10000
set_option maxHeartbeats 4000000
namespace Go.Eng
open Go Go.Proofs
abbrev hdV (w:List Int):PV := .agg (zAS w 80)
def zPo (w:List Int) (i:Nat) (x:Int):List Int:=w.set i (max (w.getD i 0) x)
theorem zIo {w:List Int} {i:Nat} {x:Int}:(zPo w i x).length=w.length:=by simp [zPo]
def begC (n:Nw) (h:Nat) (w:List Int) (c:Int×Int):List Int:=if has (n.s.getD c.2.toNat []) h=true then zPo w (h*8+((zAl n).getD c.1.toNat 0).toNat) c.1 else w
def begH (n:Nw) (h:Nat) (w:List Int) (cs:List (Int×Int)):List Int:=cs.foldl (begC n h) w
def begN (n:Nw) (cs:List (Int×Int)) (h:Nat):List Int:=(List.range h).foldl (fun w h=>begH n h w cs) (List.replicate 80 (-1))
def nxtR (now:List Int) (h o:Nat) (w:List Int) (k:Nat):List Int:=(List.range k).foldl (fun w i=>zPo w (h*8+i) (now.getD (o*8+i) 0)) w
def nxtH (now:List Int) (h:Nat) (w:List Int) (l:List Nat):List Int:=l.foldl (fun w o=>nxtR now h o w 8) w
def nxtN (n:Nw) (now:List Int) (h:Nat):List Int:=(List.range h).foldl (fun w h=>nxtH now h w (zHF n h n.h.toNat)) now
def zOL (n:Nw) (cs:List (Int×Int)):List Int:=begN n cs n.h.toNat
def zC2 (n:Nw) (now:List Int):List Int:=nxtN n now n.h.toNat
def zBh (n:Nw) (cs:List (Int×Int)):Nat→List Int
 | 0=>zOL n cs
 | k+1=>zC2 n (zBh n cs k)
theorem zS8 {n:Nw} {h:Nat} {w:List Int} {c:Int×Int}:(begC n h w c).length=w.length:=by unfold begC;split<;>simp [zIo]
theorem zK3 {n:Nw} {h:Nat}:∀ {cs:List (Int×Int)} {w:List Int},(begH n h w cs).length=w.length
 | [],w=>rfl
 | c::cs,w=>by
  show (begH n h (begC n h w c) cs).length=_
  rw [zK3,zS8]
theorem zGI {n:Nw} {cs:List (Int×Int)} {h:Nat}:begN n cs (h+1)=begH n h (begN n cs h) cs:=by
 simp only [begN,List.range_succ,List.foldl_append,List.foldl_cons,List.foldl_nil]
theorem zLF {n:Nw} {cs:List (Int×Int)}:∀ h,(begN n cs h).length=80
 | 0=>by simp [begN]
 | h+1=>by rw [zGI,zK3];exact zLF h
theorem zRq {n:Nw} {h:Nat} {w:List Int} {cs:List (Int×Int)} {i:Nat} (hi:i<cs.length):begH n h w (cs.take (i+1))=begC n h (begH n h w (cs.take i)) (cs.getD i default):=zGp hi
theorem zJP {now w:List Int} {h o k:Nat}:nxtR now h o w (k+1)=zPo (nxtR now h o w k) (h*8+k) (now.getD (o*8+k) 0):=by
 simp only [nxtR,List.range_succ,List.foldl_append,List.foldl_cons,List.foldl_nil]
theorem zGW {now w:List Int} {h o:Nat}:∀ k,(nxtR now h o w k).length=w.length
 | 0=>rfl
 | k+1=>by rw [zJP,zIo];exact zGW k
theorem zLb {now:List Int} {h:Nat}:∀ {l:List Nat} {w:List Int},(nxtH now h w l).length=w.length
 | [],_=>rfl
 | o::l,w=>by
  show (nxtH now h (nxtR now h o w 8) l).length=_
  rw [zLb,zGW]
theorem zJE {n:Nw} {now:List Int} {h:Nat}:nxtN n now (h+1)=nxtH now h (nxtN n now h) (zHF n h n.h.toNat):=by
 simp only [nxtN,List.range_succ,List.foldl_append,List.foldl_cons,List.foldl_nil]
theorem zIn {n:Nw} {now:List Int}:∀ h,(nxtN n now h).length=now.length
 | 0=>rfl
 | h+1=>by rw [zJE,zLb];exact zIn h
theorem zQ7 {now:List Int} {h:Nat} {w:List Int} {l:List Nat} {i:Nat} (hi:i<l.length):nxtH now h w (l.take (i+1))=nxtR now h (l.getD i 0) (nxtH now h w (l.take i)) 8:=zGp hi
theorem zOD {n:Nw} {cs:List (Int×Int)}:(zOL n cs).length=80:=zLF _
theorem zQZ {n:Nw} {w:List Int} (h:w.length=80):(zC2 n w).length=80:=by rw [zC2,zIn,h]
theorem zCe {n:Nw} {cs:List (Int×Int)}:∀ k,(zBh n cs k).length=80
 | 0=>zOD
 | k+1=>zQZ (zCe k)
theorem zJA {F:List Int} {i:Nat} {a:Int} (hF:F.length=8) (hi:i<8) (ha : -1≤a∧a<i) (j:Nat):(zMC F i a).getD j 0=if j=i then (if a = -1 then (i:Int) else F.getD a.toNat 0) else F.getD j 0:=by
 unfold zMC
 by_cases hj:j=i
 ·subst hj
  rw [if_pos rfl]
  split
  ·rw [zC5,if_pos ⟨rfl,by omega⟩]
  ·rw [zC5,if_pos ⟨rfl,by simp;omega⟩,zC5,if_neg (by omega)]
 ·rw [if_neg hj]
  split
  ·rw [zC5,if_neg (fun h=>hj h.1.symm)]
  ·rw [zC5,if_neg (fun h=>hj h.1.symm),zC5,if_neg (fun h=>hj h.1.symm)]
theorem zND {n:Nw} (ho:NwOk n):∀ i,i≤n.n.length→∀ j,j<i→0≤(zO2 n.n i).getD j 0∧(zO2 n.n i).getD j 0≤j
 | 0,_,j,hj=>absurd hj (Nat.not_lt_zero j)
 | i + 1,hi,j,hj=>by
  have h8:=ho.nl.2
  have ha:=ho.na i (by omega)
  rw [zO2,zJA (zGT i) (by omega) ha]
  split
  ·subst j
   split
   ·omega
   ·have:=zND ho i (by omega) ((n.n.getD i default).1.toNat) (by omega)
    omega
  ·exact zND ho i (by omega) j (by omega)
theorem zB0 {n:Nw} (ho:NwOk n) (j:Nat) (hj:j<n.n.length):0≤(zAl n).getD j 0∧(zAl n).getD j 0≤j:=zND ho _ (Nat.le_refl _) j hj
theorem f100 (n:Nw) (cs:List (Int×Int)) (ho:CrW n cs):FG 100 [zDL n cs] (hdV (zOL n cs)):=by
 have hb:=ho.nw.h
 have hn:=ho.nw
 have yN:=ho.len
 refine zAe Tryz.f100 ?_
 refine zAc 1<|zAa<|zAc 1<|zAa<|zAh<|zAc 1<|zAa<|zAi 0 ?_
 refine zAq (fun (h,w)=>h≤10∧w.length=80∧∀ j,j<h*8→w.getD j 0 = -1) (fun (h,w)=>[(3,.box (hdV w)),(11,I (h:Nat))]) (fun (h,_)=>10-h) ((0:Nat),List.replicate 80 0) ⟨by omega,rfl,fun j h=>by omega⟩ fun (h,w) ⟨hh,hw,ha⟩=>?_
 by_cases gb:h<10
 ·refine zAc 1<|zAa<|zAh<|zAU ((↑h:Int)<10) (by omega)<|zAk<|zAh<|zAi 1<|zAc 2<|zAa<|zAc 1<|zAa<|zAi 2 ?_
  refine zAq (fun (i,v)=>i≤8∧v.length=80∧∀ j,j<h*8+i→v.getD j 0 = -1) (fun (i,v)=>[(3,.box (hdV v)),(14,I (i:Nat))]) (fun (i,_)=>8-i) ((0:Nat),w) ⟨by omega,hw,fun j h=>ha j (by omega)⟩ fun (i,v) ⟨hi,hv,hav⟩=>?_
  by_cases yI:i<8
  ·refine zAc 1<|zAa<|zAh<|zAU ((↑i:Int)<8) (by omega)<|zAk<|zAh<|zAi 3<|zAc 2<|zAa<|zAf<|zAd 2<|S_a [(2,.ob)] (ap ((by exact zAs (by omega)):decide (h<10)=true) an)<|S_a [(2,.ob)] (ap ((by exact zAs (by omega)):decide (i<8)=true) an)<|S_a [(7,.root ((PV.agg (zAS (v.set (h*8+i) (-1)) 80)).box) true)] (ap (zPM (zKb (q:=(PV.agg (zAS v 80)).box) (xs:=[PV.agg (zAS v 80)]) (x:=PV.agg (zAS v 80)) (y:=PV.agg (zAS (v.set (h*8+i) (-1)) 80)) (q':=(PV.agg (zAS (v.set (h*8+i) (-1)) 80)).box) rfl (zNJ (F:=v) (m:=80) (j:=h*8+i) (u:=-1) (by first | rfl | exact zBU (by kernel_rfl) | exact zBV (by kernel_rfl) | exact zDF (by kernel_rfl) (by kernel_rfl) | exact zDz (by kernel_rfl) | exact zDO (by kernel_rfl) (by kernel_rfl) | exact zDJ (by kernel_rfl) | (simp;done)) (by omega) (by omega)) rfl (hb:=zNQ (F:=v) (m:=80) (j:=h*8+i) (by first | rfl | exact zBU (by kernel_rfl) | exact zBV (by kernel_rfl) | exact zDF (by kernel_rfl) (by kernel_rfl) | exact zDz (by kernel_rfl) | exact zDO (by kernel_rfl) (by kernel_rfl) | exact zDJ (by kernel_rfl) | (simp;done)) (by omega))) rfl:zBw (PV.agg (zAS v 80)).box [] 0 (0+(↑h:Int).toNat*(fun x=>x.size) Tryz.prog.types[128]+(↑i:Int).toNat*(fun x=>x.size) Tryz.prog.types[3]) (I (-1)).cells=some (PV.agg (zAS (v.set (h*8+i) (-1)) 80)).box∧zAE (PV.agg (zAS v 80)).box (PV.agg (zAS (v.set (h*8+i) (-1)) 80)).box []=true) an)<|zAa<|zAf<|S_a [(1,.v (I (↑(i+1):Int)))] (ap (wrN i) an)<|zAd 1<|zAa ?_
   refine ⟨(i+1,v.set (h*8+i) (-1)),⟨by omega,by simpa using hv,fun j hj=>?_⟩,by simp only;omega,by kernel_rfl,by kernel_rfl⟩
   rw [zC5]
   split
   ·rfl
   ·exact hav j (by omega)
  ·refine zAc 1<|zAa<|zAh<|zAT ((↑i:Int)<8) (by omega)<|zAA 2<|zAf<|S_a [(1,.v (I (↑(h+1):Int)))] (ap (wrN h) an)<|zAd 1<|zAa ?_
   exact ⟨(h+1,v),⟨by omega,hv,fun j hj=>hav j (by omega)⟩,by simp only;omega,by kernel_rfl,by kernel_rfl⟩
 ·have hw0:w=List.replicate 80 (-1):=by
   refine List.ext_getElem (by simp [hw]) fun j h1 h2=>?_
   have:=ha j (by omega)
   rw [zAt h1] at this
   rw [this,List.getElem_replicate]
  clear ha
  have hw0':begN n cs 0=w:=by rw [hw0];rfl
  clear hw0
  refine zAc 1<|zAa<|zAh<|zAT ((↑h:Int)<10) (by omega)<|zAA 0<|zAc 3<|zAa<|zAh<|zAc 6<|zAa<|zAi 4 ?_
  refine zAq (fun (h,v)=>h≤n.h.toNat∧v=begN n cs h) (fun (h,v)=>[(3,.box (hdV v)),(30,I (h:Nat))]) (fun (h,_)=>n.h.toNat-h) ((0:Nat),w) ⟨by omega,hw0'.symm⟩ fun (h,v) ⟨hh,hv⟩=>?_
  have jy:v.length=80:=by rw [hv];exact zLF h
  by_cases gb:(h:Int)<n.h
  ·have yK:=zGI (n:=n) (cs:=cs) (h:=h)
   rw [← hv] at yK
   refine zAc 1<|zAa<|zAh<|zAU ((↑h:Int)<n.h) (by omega)<|zAk<|zAh<|zAi 5<|zAc 2<|zAa<|zAc 4<|S_a [(0,.n cs.length)] (ap (lnS prV cs) an)<|zAd 1<|zAa<|zAi 6 ?_
   refine zAq (fun (i,q)=>i≤cs.length∧q=begH n h v (cs.take i)) (fun (i,q)=>[(3,.box (hdV q)),(38,I (i:Nat))]) (fun (i,_)=>cs.length-i) ((0:Nat),v) ⟨by omega,rfl⟩ fun (i,q) ⟨hi,hq⟩=>?_
   have ua:q.length=80:=by rw [hq,zK3];exact jy
   by_cases yI:i<cs.length
   ·have hci:=zBK (d:=default) ho.cs i yI
    have yZ:=zRq (n:=n) (h:=h) (w:=v) yI
    rw [← hq] at yZ
    have LF:=zB0 hn (cs.getD i default).1.toNat (by omega)
    have ub:=hn.nl
    have jE:=hci.2
    have vV:0≤(cs.getD i default).1∧(cs.getD i default).1<8:=by omega
    have gv:((zAl n).getD (cs.getD i default).1.toNat 0).toNat<8:=by have:=hn.nl;omega
    clear yK hv hq
    refine zAc 1<|zAa<|zAh<|zAU ((↑i:Int)<(↑cs.length:Int)) (by omega)<|zAk<|zAh<|zAi 7<|zAh<|zAf<|S_a [(2,.v (PV.agg [I (cs.getD i default).fst,I (cs.getD i default).snd]))] (ap (zBJ default (by omega):(List.map prV cs)[i]? = some (PV.agg [I (cs.getD i default).fst,I (cs.getD i default).snd])) an)<|zAd 3<|zAa<|zAc 4<|S_a [(9,.ret (PV.bool (has (n.s.getD (cs.getD i default).snd.toNat []) (↑h:Int))) [])] (ap (f140 n (prs cs) (List.map pr2 n.l) (zAl n) (zA8 n) (by omega) ((↑h:Int)) ((cs.getD i default).snd) (by omega)) an)<|zAa<|zEb (has (n.s.getD (cs.getD i default).snd.toNat []) (↑h:Int)) (fun k0=>(zAc 5<|S_a [(0,.ob),(1,.ob),(0,.v ((I ((zAl n).getD (cs.getD i default).fst.toNat 0)).ref))] (ap ((by exact zAs (by omega)):decide (0≤(cs.getD i default).fst)=true)<|ap ((by exact zAs (by omega)):decide ((cs.getD i default).fst.toNat<8)=true)<|ap (zGw (F:=zAl n) (m:=8) (j:=(cs.getD i default).fst.toNat) (by omega):zCd (PV.agg (zAS (zAl n) 8)).ref ((cs.getD i default).fst.toNat*(fun x=>x.size) Tryz.prog.types[3]) none=some (I ((zAl n).getD (cs.getD i default).fst.toNat 0)).ref) an)<|zAd 2<|zAa<|zAf<|zAd 4<|S_a [(2,.ob)] (ap ((by exact zAs (by omega)):decide (h<10)=true) an)<|S_a [(0,.ob),(1,.ob)] (ap ((by exact zAs (by omega)):decide (0≤(zAl n).getD (cs.getD i default).fst.toNat 0)=true)<|ap ((by exact zAs (by omega)):decide (((zAl n).getD (cs.getD i default).fst.toNat 0).toNat<8)=true) an)<|S_a [(0,.cs true ([I (q.getD (h*8+((zAl n).getD (cs.getD i default).fst.toNat 0).toNat) 0)]))] (ap (zDy (q:=(PV.agg (zAS q 80)).box) (xs:=[PV.agg (zAS q 80)]) (x:=PV.agg (zAS q 80)) rfl rfl (zE1 (F:=q) (m:=80) (j:=h*8+((zAl n).getD (cs.getD i default).fst.toNat 0).toNat) (by first | rfl | exact zBU (by kernel_rfl) | exact zBV (by kernel_rfl) | exact zDF (by kernel_rfl) (by kernel_rfl) | exact zDz (by kernel_rfl) | exact zDO (by kernel_rfl) (by kernel_rfl) | exact zDJ (by kernel_rfl) | (simp;done)) (by omega)):zAw 3 (PV.agg (zAS q 80)).box [] 0 (0+(↑h:Int).toNat*(fun x=>x.size) Tryz.prog.types[128]+((zAl n).getD (cs.getD i default).fst.toNat 0).toNat*(fun x=>x.size) Tryz.prog.types[3]) 1=some (true,[I (q.getD (h*8+((zAl n).getD (cs.getD i default).fst.toNat 0).toNat) 0)])) an)<|zAd 3<|S_a [(9,.ret (I (max (q.getD (h*8+((zAl n).getD (cs.getD i default).fst.toNat 0).toNat) 0) (cs.getD i default).fst)) [])] (ap (f165 (q.getD (h*8+((zAl n).getD (cs.getD i default).fst.toNat 0).toNat) 0) ((cs.getD i default).fst)) an)<|S_a [(2,.ob)] (ap ((by exact zAs (by omega)):decide (h<10)=true) an)<|S_a [(0,.ob),(1,.ob)] (ap ((by exact zAs (by omega)):decide (0≤(zAl n).getD (cs.getD i default).fst.toNat 0)=true)<|ap ((by exact zAs (by omega)):decide (((zAl n).getD (cs.getD i default).fst.toNat 0).toNat<8)=true) an)<|S_a [(8,.root ((PV.agg (zAS (q.set (h*8+((zAl n).getD (cs.getD i default).fst.toNat 0).toNat) (max (q.getD (h*8+((zAl n).getD (cs.getD i default).fst.toNat 0).toNat) 0) (cs.getD i default).fst)) 80)).box) true)] (ap (zPM (zKb (q:=(PV.agg (zAS q 80)).box) (xs:=[PV.agg (zAS q 80)]) (x:=PV.agg (zAS q 80)) (y:=PV.agg (zAS (q.set (h*8+((zAl n).getD (cs.getD i default).fst.toNat 0).toNat) (max (q.getD (h*8+((zAl n).getD (cs.getD i default).fst.toNat 0).toNat) 0) (cs.getD i default).fst)) 80)) (q':=(PV.agg (zAS (q.set (h*8+((zAl n).getD (cs.getD i default).fst.toNat 0).toNat) (max (q.getD (h*8+((zAl n).getD (cs.getD i default).fst.toNat 0).toNat) 0) (cs.getD i default).fst)) 80)).box) rfl (zNJ (F:=q) (m:=80) (j:=h*8+((zAl n).getD (cs.getD i default).fst.toNat 0).toNat) (u:=max (q.getD (h*8+((zAl n).getD (cs.getD i default).fst.toNat 0).toNat) 0) (cs.getD i default).fst) (by first | rfl | exact zBU (by kernel_rfl) | exact zBV (by kernel_rfl) | exact zDF (by kernel_rfl) (by kernel_rfl) | exact zDz (by kernel_rfl) | exact zDO (by kernel_rfl) (by kernel_rfl) | exact zDJ (by kernel_rfl) | (simp;done)) (by omega) (by omega)) rfl (hb:=zNQ (F:=q) (m:=80) (j:=h*8+((zAl n).getD (cs.getD i default).fst.toNat 0).toNat) (by first | rfl | exact zBU (by kernel_rfl) | exact zBV (by kernel_rfl) | exact zDF (by kernel_rfl) (by kernel_rfl) | exact zDz (by kernel_rfl) | exact zDO (by kernel_rfl) (by kernel_rfl) | exact zDJ (by kernel_rfl) | (simp;done)) (by omega))) rfl:zBw (PV.agg (zAS q 80)).box [] 0 (0+(↑h:Int).toNat*(fun x=>x.size) Tryz.prog.types[128]+((zAl n).getD (cs.getD i default).fst.toNat 0).toNat*(fun x=>x.size) Tryz.prog.types[3]) (I (max (q.getD (h*8+((zAl n).getD (cs.getD i default).fst.toNat 0).toNat) 0) (cs.getD i default).fst)).cells=some (PV.agg (zAS (q.set (h*8+((zAl n).getD (cs.getD i default).fst.toNat 0).toNat) (max (q.getD (h*8+((zAl n).getD (cs.getD i default).fst.toNat 0).toNat) 0) (cs.getD i default).fst)) 80)).box∧zAE (PV.agg (zAS q 80)).box (PV.agg (zAS (q.set (h*8+((zAl n).getD (cs.getD i default).fst.toNat 0).toNat) (max (q.getD (h*8+((zAl n).getD (cs.getD i default).fst.toNat 0).toNat) 0) (cs.getD i default).fst)) 80)).box []=true) an)<|zAa<|zAf<|S_a [(1,.v (I (↑(i+1):Int)))] (ap (wrN i) an)<|zAd 1<|zAa ?_)) (fun k0=>(zAk<|zAf<|S_a [(1,.v (I (↑(i+1):Int)))] (ap (wrN i) an)<|zAd 1<|zAa ?_))
    ·rw [begC,if_pos k0] at yZ
     exact ⟨(i+1,zPo q (h*8+((zAl n).getD (cs.getD i default).1.toNat 0).toNat) (cs.getD i default).1),⟨by omega,yZ.symm⟩,by simp only;omega,by kernel_rfl,by kernel_rfl⟩
    ·rw [begC,if_neg (by rw [k0];simp)] at yZ
     exact ⟨(i+1,q),⟨by omega,yZ.symm⟩,by simp only;omega,by kernel_rfl,by kernel_rfl⟩
   ·refine zAc 1<|zAa<|zAh<|zAT ((↑i:Int)<(↑cs.length:Int)) (by omega)<|zAA 6<|zAf<|S_a [(1,.v (I (↑(h+1):Int)))] (ap (wrN h) an)<|zAd 1<|zAa ?_
    rw [List.take_of_length_le (by omega)] at hq
    exact ⟨(h+1,q),⟨by omega,by rw [yK,hq]⟩,by simp only;omega,by kernel_rfl,by kernel_rfl⟩
  ·have e:h=n.h.toNat:=by omega
   subst e
   refine zAc 1<|zAa<|zAh<|zAT ((↑n.h.toNat:Int)<n.h) (by omega)<|zAA 4<|zAc 2<|zAa<|zAn<|E_a [] an (PV.agg (zAS v 80)) [] ?_ rfl
   rw [hv];rfl
theorem zQY {n:Nw} {h o m:Nat} (ho:o∈zHF n h m):o<m:=by
 simp only [zHF,List.mem_filter,List.mem_range] at ho;exact ho.1
theorem zTa {w:List Int} {o i:Nat} (hi:i<8):((w.drop o).take 8).getD i 0=w.getD (o+i) 0:=by
 simp [List.getD_eq_getElem?_getD,List.getElem?_take,hi]
theorem f101 (n:Nw) (cs:List (Int×Int)) (now:List Int) (ho:NwOk n) (hw:now.length=80):FG 101 [zDL n cs,hdV now] (hdV (zC2 n now)):=by
 have hb:=ho.h
 refine zAe Tryz.f101 ?_
 refine zAc 2<|zAa<|zAc 3<|zAa<|zAh<|zAc 6<|zAa<|zAi 0 ?_
 refine zAq (fun (h,v)=>h≤n.h.toNat∧v=nxtN n now h) (fun (h,v)=>[(5,.box (hdV v)),(16,I (h:Nat))]) (fun (h,_)=>n.h.toNat-h) ((0:Nat),now) ⟨by omega,rfl⟩ fun (h,v) ⟨hh,hv⟩=>?_
 have jy:v.length=80:=by rw [hv,zIn];exact hw
 by_cases gb:(h:Int)<n.h
 ·have yK:=zJE (n:=n) (now:=now) (h:=h)
  rw [← hv] at yK
  have hA:=zT3 n cs h ho gb
  refine zAc 1<|zAa<|zAh<|zAU ((↑h:Int)<n.h) (by omega)<|zAk<|zAh<|zAi 1<|zAc 3<|zAa<|zAc 2<|S_a [(7,.ret (PV.func 169 [] [(zDL n cs).ref,(I (↑h:Int)).ref]) [])] (ap (f116 n cs ((↑h:Int))) an)<|zAa<|zAi 2 ?_
  refine zOj (t:=21) hA (fun j q=>q=nxtH now h v ((zHF n h n.h.toNat).take j)) (fun q=>[(5,.box (hdV q))]) v rfl (fun j x q hx hq=>?_) (fun q hq=>?_)
  ·rw [List.getElem?_map] at hx
   obtain ⟨o,hm,rfl⟩:=Option.map_eq_some_iff.1 hx
   have hj:j<(zHF n h n.h.toNat).length:=(List.getElem?_eq_some_iff.1 hm).1
   have hol:o<n.h.toNat:=zQY (List.mem_of_getElem? hm)
   have ua:q.length=80:=by rw [hq,zLb];exact jy
   have yZ:=zQ7 (now:=now) (h:=h) (w:=v) hj
   rw [← hq,show (zHF n h n.h.toNat).getD j 0=o by simp [List.getD_eq_getElem?_getD,hm]] at yZ
   clear yK hv hA hq hm hj
   refine zOB ?_
   refine zAf<|zAd 1<|zAa ?_
   refine ⟨rfl,by kernel_rfl,?_⟩
   refine zAi 3<|zAc 1<|S_a [(2,.ob)] (ap ((by exact zAs (by omega)):decide (o<10)=true) an)<|S_a [(0,.cs true (zAS (List.take 8 (List.drop (o*8) now)) 8))] (ap (zDy (q:=(PV.agg (zAS now 80)).box) (xs:=[PV.agg (zAS now 80)]) (x:=PV.agg (zAS now 80)) rfl rfl (zU9 (K:=8) (c:=o*8) (by omega) (by first | rfl | exact zBU (by kernel_rfl) | exact zBV (by kernel_rfl) | exact zDJ (by kernel_rfl) | (simp;done)) (by omega) (by kernel_rfl)):zAw 3 (PV.agg (zAS now 80)).box [] 0 (0+(↑o:Int).toNat*(fun x=>x.size) Tryz.prog.types[128]) Tryz.prog.types[128].size=some (true,zAS (List.take 8 (List.drop (o*8) now)) 8)) an)<|zAd 1<|zAa<|zAi 4 ?_
   refine zAq (fun (i,p)=>i≤8∧p=nxtR now h o q i) (fun (i,p)=>[(5,.box (hdV p)),(26,I (i:Nat))]) (fun (i,_)=>8-i) ((0:Nat),q) ⟨by omega,rfl⟩ fun (i,p) ⟨hi,hp⟩=>?_
   have uq:p.length=80:=by rw [hp,zGW];exact ua
   by_cases yI:i<8
   ·have yg:=zJP (now:=now) (w:=q) (h:=h) (o:=o) (k:=i)
    rw [← hp,← zTa yI] at yg
    refine zAc 1<|zAa<|zAh<|zAU ((↑i:Int)<8) (by omega)<|zAk<|zAh<|zAi 5<|zAc 1<|S_a [(2,.ob),(0,.v (I ((List.take 8 (List.drop (o*8) now)).getD i 0)))] (ap ((by exact zAs (by omega)):decide (i<8)=true)<|ap (zTJ (F:=List.take 8 (List.drop (o*8) now)) (m:=8) (j:=i) (by omega):sub (PV.agg (zAS (List.take 8 (List.drop (o*8) now)) 8)) (i*(fun x=>x.size) Tryz.prog.types[3]) none=some (I ((List.take 8 (List.drop (o*8) now)).getD i 0))) an)<|zAd 2<|zAa<|zAf<|zAd 4<|S_a [(2,.ob)] (ap ((by exact zAs (by omega)):decide (h<10)=true) an)<|S_a [(2,.ob)] (ap ((by exact zAs (by omega)):decide (i<8)=true) an)<|S_a [(0,.cs true ([I (p.getD (h*8+i) 0)]))] (ap (zDy (q:=(PV.agg (zAS p 80)).box) (xs:=[PV.agg (zAS p 80)]) (x:=PV.agg (zAS p 80)) rfl rfl (zE1 (F:=p) (m:=80) (j:=h*8+i) (by first | rfl | exact zBU (by kernel_rfl) | exact zBV (by kernel_rfl) | exact zDF (by kernel_rfl) (by kernel_rfl) | exact zDz (by kernel_rfl) | exact zDO (by kernel_rfl) (by kernel_rfl) | exact zDJ (by kernel_rfl) | (simp;done)) (by omega)):zAw 5 (PV.agg (zAS p 80)).box [] 0 (0+(↑h:Int).toNat*(fun x=>x.size) Tryz.prog.types[128]+(↑i:Int).toNat*(fun x=>x.size) Tryz.prog.types[3]) 1=some (true,[I (p.getD (h*8+i) 0)])) an)<|zAd 2<|S_a [(9,.ret (I (max (p.getD (h*8+i) 0) ((List.take 8 (List.drop (o*8) now)).getD i 0))) [])] (ap (f165 (p.getD (h*8+i) 0) ((List.take 8 (List.drop (o*8) now)).getD i 0)) an)<|S_a [(2,.ob)] (ap ((by exact zAs (by omega)):decide (h<10)=true) an)<|S_a [(2,.ob)] (ap ((by exact zAs (by omega)):decide (i<8)=true) an)<|S_a [(8,.root ((PV.agg (zAS (p.set (h*8+i) (max (p.getD (h*8+i) 0) ((List.take 8 (List.drop (o*8) now)).getD i 0))) 80)).box) true)] (ap (zPM (zKb (q:=(PV.agg (zAS p 80)).box) (xs:=[PV.agg (zAS p 80)]) (x:=PV.agg (zAS p 80)) (y:=PV.agg (zAS (p.set (h*8+i) (max (p.getD (h*8+i) 0) ((List.take 8 (List.drop (o*8) now)).getD i 0))) 80)) (q':=(PV.agg (zAS (p.set (h*8+i) (max (p.getD (h*8+i) 0) ((List.take 8 (List.drop (o*8) now)).getD i 0))) 80)).box) rfl (zNJ (F:=p) (m:=80) (j:=h*8+i) (u:=max (p.getD (h*8+i) 0) ((List.take 8 (List.drop (o*8) now)).getD i 0)) (by first | rfl | exact zBU (by kernel_rfl) | exact zBV (by kernel_rfl) | exact zDF (by kernel_rfl) (by kernel_rfl) | exact zDz (by kernel_rfl) | exact zDO (by kernel_rfl) (by kernel_rfl) | exact zDJ (by kernel_rfl) | (simp;done)) (by omega) (by omega)) rfl (hb:=zNQ (F:=p) (m:=80) (j:=h*8+i) (by first | rfl | exact zBU (by kernel_rfl) | exact zBV (by kernel_rfl) | exact zDF (by kernel_rfl) (by kernel_rfl) | exact zDz (by kernel_rfl) | exact zDO (by kernel_rfl) (by kernel_rfl) | exact zDJ (by kernel_rfl) | (simp;done)) (by omega))) rfl:zBw (PV.agg (zAS p 80)).box [] 0 (0+(↑h:Int).toNat*(fun x=>x.size) Tryz.prog.types[128]+(↑i:Int).toNat*(fun x=>x.size) Tryz.prog.types[3]) (I (max (p.getD (h*8+i) 0) ((List.take 8 (List.drop (o*8) now)).getD i 0))).cells=some (PV.agg (zAS (p.set (h*8+i) (max (p.getD (h*8+i) 0) ((List.take 8 (List.drop (o*8) now)).getD i 0))) 80)).box∧zAE (PV.agg (zAS p 80)).box (PV.agg (zAS (p.set (h*8+i) (max (p.getD (h*8+i) 0) ((List.take 8 (List.drop (o*8) now)).getD i 0))) 80)).box []=true) an)<|zAa<|zAf<|S_a [(1,.v (I (↑(i+1):Int)))] (ap (wrN i) an)<|zAd 1<|zAa ?_
    exact ⟨(i+1,_),⟨by omega,yg.symm⟩,by simp only;omega,by kernel_rfl,by kernel_rfl⟩
   ·refine zAc 1<|zAa<|zAh<|zAT ((↑i:Int)<8) (by omega)<|zAA 4 ?_
    rw [show i=8 by omega] at hp
    exact ⟨by kernel_rfl,p,by rw [yZ,hp],by kernel_rfl⟩
  ·rw [List.length_map,List.take_length] at hq
   show W _ _ _ _ _ _ _ _
   refine zAf<|S_a [(1,.v (I (↑(h+1):Int)))] (ap (wrN h) an)<|zAd 1<|zAa ?_
   exact ⟨(h+1,q),⟨by omega,by rw [yK,hq]⟩,by simp only;omega,by kernel_rfl,by kernel_rfl⟩
 ·have e:h=n.h.toNat:=by omega
  subst e
  refine zAc 1<|zAa<|zAh<|zAT ((↑n.h.toNat:Int)<n.h) (by omega)<|zAA 0<|zAc 2<|zAa<|zAn<|E_a [] an (PV.agg (zAS v 80)) [] ?_ rfl
  rw [hv];rfl
end Go.Eng
set_option maxRecDepth 10000
set_option maxHeartbeats 4000000
namespace Go.Eng
open Go Go.Proofs
def zSS (n:Nw) (w:List Int) (h i:Nat):Bool:=decide (w.getD (h*8+((zAl n).getD i 0).toNat) 0=i)&&decide ((zA8 n).getD i 0≠i)
def zP8 (n:Nw) (w:List Int) (h k:Nat):List (Int×Int):=((List.range k).filter fun i=>zSS n w h i).map fun (i:Nat)=>((h:Int),(i:Int))
def zUe (n:Nw) (w:List Int) (h:Nat):List (Int×Int):=(List.range h).flatMap fun h=>zP8 n w h n.n.length
def zBS (n:Nw) (w:List Int):List (Int×Int):=zUe n w n.h.toNat
theorem zQv {n:Nw} {w:List Int} {h k:Nat}:zP8 n w h (k+1)=if zSS n w h k=true then zP8 n w h k++[((h:Int),(k:Int))] else zP8 n w h k:=by
 unfold zP8;rw [List.range_succ,List.filter_append,List.map_append]
 by_cases hn:zSS n w h k=true
 ·rw [if_pos hn];simp [hn]
 ·rw [if_neg hn];simp [hn]
theorem zMZ {n:Nw} {w:List Int} {h:Nat}:zUe n w (h+1)=zUe n w h++zP8 n w h n.n.length:=by
 unfold zUe;rw [List.range_succ,List.flatMap_append];simp
theorem zN3 {n:Nw} {w:List Int} {h k:Nat}:(zP8 n w h k).length≤k:=by
 unfold zP8;rw [List.length_map];exact Nat.le_trans (List.length_filter_le _ _) (by simp)
theorem zLf {n:Nw} {w:List Int}:∀ h,(zUe n w h).length≤h*n.n.length
 | 0=>by simp [zUe]
 | h+1=>by
  have h1:=zLf (n:=n) (w:=w) h
  have h2:=zN3 (n:=n) (w:=w) (h:=h) (k:=n.n.length)
  rw [zMZ,List.length_append,Nat.succ_mul];omega
theorem zJq {n:Nw} {w:List Int} (ho:NwOk n):(zBS n w).length≤80:=by
 have h1:=zLf (n:=n) (w:=w) n.h.toNat
 have h2:=ho.h
 have h3:=ho.nl
 have h4:n.h.toNat*n.n.length≤10*8:=Nat.mul_le_mul (by omega) (by omega)
 unfold zBS;omega
theorem f92 (n:Nw) (cs:List (Int×Int)) (e:Int) (ho:CrW n cs) (he:0≤e∧e≤1000):FG 92 [zDL n cs,I e] (hdV (zBh n cs e.toNat)):=by
 have hn:=ho.nw
 refine zAe Tryz.f92 ?_
 refine zAc 1<|zAa<|zAc 1<|S_a [(5,.ret (hdV (zOL n cs)) [])] (ap (f100 n cs (by omega)) an)<|zAd 2<|zAa<|zAh<|zAc 2<|zAa<|zAi 0 ?_
 refine zAq (fun (k,w)=>k≤e.toNat∧w=zBh n cs k) (fun (k,w)=>[(5,.box (hdV w)),(9,I (k:Nat))]) (fun (k,_)=>e.toNat-k) ((0:Nat),zOL n cs) ⟨by omega,rfl⟩ fun (k,w) ⟨hk,hw⟩=>?_
 have LG:w.length=80:=by rw [hw];exact zCe k
 by_cases uM:(k:Int)<e
 ·refine zAc 1<|zAa<|zAh<|zAU ((↑k:Int)<e) (by omega)<|zAk<|zAh<|zAi 1<|zAf<|zAd 2<|S_a [(7,.ret (hdV (zC2 n w)) [])] (ap (f101 n cs w (by omega) (by omega)) an)<|zAd 1<|zAa<|zAf<|S_a [(1,.v (I (↑(k+1):Int)))] (ap (wrN k) an)<|zAd 1<|zAa ?_
  exact ⟨(k+1,zC2 n w),⟨by omega,by rw [hw];rfl⟩,by simp only;omega,by kernel_rfl,by kernel_rfl⟩
 ·refine zAc 1<|zAa<|zAh<|zAT ((↑k:Int)<e) (by omega)<|zAA 0<|zAc 2<|zAa<|zAn<|E_a [] an (PV.agg (zAS w 80)) [] ?_ rfl
  rw [hw,show k=e.toNat by omega]
theorem f91 (n:Nw) (cs:List (Int×Int)) (w:List Int) (ho:NwOk n) (hw:w.length=80):FG 91 [zDL n cs,hdV w] (.own 2 ((zBS n w).map prV)):=by
 have hb:=ho.h
 have ub:=ho.nl
 refine zAe Tryz.f91 ?_
 refine zAc 2<|zAa<|zAc 1<|zAa<|zAh<|zAc 6<|zAa<|zAi 0 ?_
 refine zAq (fun (h,l)=>h≤n.h.toNat∧l=zUe n w h) (fun (h,l)=>[(5,.own 2 (l.map prV)),(13,I (h:Nat))]) (fun (h,_)=>n.h.toNat-h) ((0:Nat),([]:List (Int×Int))) ⟨by omega,rfl⟩ fun (h,l) ⟨hh,hl⟩=>?_
 have w5:l.length≤h*8:=by
  have h1:=zLf (n:=n) (w:=w) h
  rw [← hl] at h1
  exact Nat.le_trans h1 (Nat.mul_le_mul (Nat.le_refl _) (by omega))
 by_cases gb:(h:Int)<n.h
 ·have yK:=zMZ (n:=n) (w:=w) (h:=h)
  rw [← hl] at yK
  refine zAc 1<|zAa<|zAh<|zAU ((↑h:Int)<n.h) (by omega)<|zAk<|zAh<|zAi 1<|zAc 2<|zAa<|zAc 5<|S_a [(0,.n n.n.length)] (ap (lnS ntV n.n) an)<|zAd 1<|zAa<|zAi 2 ?_
  refine zAq (fun (i,m)=>i≤n.n.length∧m=l++zP8 n w h i) (fun (i,m)=>[(5,.own 2 (m.map prV)),(22,I (i:Nat))]) (fun (i,_)=>n.n.length-i) ((0:Nat),l) ⟨by omega,by simp [zP8]⟩ fun (i,m) ⟨hi,hm⟩=>?_
  have hml:m.length≤88:=by
   have:=zN3 (n:=n) (w:=w) (h:=h) (k:=i)
   rw [hm,List.length_append];omega
  by_cases yI:i<n.n.length
  ·have yg:=zQv (n:=n) (w:=w) (h:=h) (k:=i)
   have LF:=zB0 ho i yI
   have gv:0≤(zAl n).getD i 0∧(zAl n).getD i 0<8:=by omega
   clear yK
   have kE:zSS n w h i=false→m=l++zP8 n w h (i+1):=fun hg=>by rw [yg,if_neg (by rw [hg];simp)];exact hm
   refine zAc 1<|zAa<|zAh<|zAU ((↑i:Int)<(↑n.n.length:Int)) (by omega)<|zAk<|zAh<|zAi 3<|zAc 2<|zAa<|zAc 5<|S_a [(2,.ob),(0,.v ((I ((zAl n).getD i 0)).ref))] (ap ((by exact zAs (by omega)):decide (i<8)=true)<|ap (zGw (F:=zAl n) (m:=8) (j:=i) (by omega):zCd (PV.agg (zAS (zAl n) 8)).ref (i*(fun x=>x.size) Tryz.prog.types[3]) none=some (I ((zAl n).getD i 0)).ref) an)<|zAd 1<|S_a [(2,.ob)] (ap ((by exact zAs (by omega)):decide (h<10)=true) an)<|S_a [(0,.ob),(1,.ob)] (ap ((by exact zAs (by omega)):decide (0≤(zAl n).getD i 0)=true)<|ap ((by exact zAs (by omega)):decide (((zAl n).getD i 0).toNat<8)=true) an)<|S_a [(0,.cs true ([I (w.getD (h*8+((zAl n).getD i 0).toNat) 0)]))] (ap (zDy (q:=(PV.agg (zAS w 80)).box) (xs:=[PV.agg (zAS w 80)]) (x:=PV.agg (zAS w 80)) rfl rfl (zE1 (F:=w) (m:=80) (j:=h*8+((zAl n).getD i 0).toNat) (by first | rfl | exact zBU (by kernel_rfl) | exact zBV (by kernel_rfl) | exact zDF (by kernel_rfl) (by kernel_rfl) | exact zDz (by kernel_rfl) | exact zDO (by kernel_rfl) (by kernel_rfl) | exact zDJ (by kernel_rfl) | (simp;done)) (by omega)):zAw 3 (PV.agg (zAS w 80)).box [] 0 (0+(↑h:Int).toNat*(fun x=>x.size) Tryz.prog.types[128]+((zAl n).getD i 0).toNat*(fun x=>x.size) Tryz.prog.types[3]) 1=some (true,[I (w.getD (h*8+((zAl n).getD i 0).toNat) 0)])) an)<|zAd 3<|zEM 37 (w.getD (h*8+((zAl n).getD i 0).toNat) 0=(↑i:Int)) (fun k0=>(zAd 4<|S_a [(2,.ob),(0,.v ((I ((zA8 n).getD i 0)).ref))] (ap ((by exact zAs (by omega)):decide (i<8)=true)<|ap (zGw (F:=zA8 n) (m:=8) (j:=i) (by omega):zCd (PV.agg (zAS (zA8 n) 8)).ref (i*(fun x=>x.size) Tryz.prog.types[3]) none=some (I ((zA8 n).getD i 0)).ref) an)<|zAd 4<|zAa<|zDh ((zA8 n).getD i 0=(↑i:Int)) (fun k1=>(zAf<|zAd 5<|S_a [(4,.ob),(0,.ob),(0,.yes),(2,.v (PV.own 2 (List.map prV (m++[((↑h:Int),(↑i:Int))]))))] (ap (blz (List.map prV m))<|ap ((by exact zBi (by simp only [List.length_map,zzLn,zAY]<;>omega)):((List.map prV m).length + [PV.agg [I (↑h:Int),I (↑i:Int)]].length).ble zAY=true)<|ap ((by exact zBu (by simp<;>omega)):(0+(List.map prV m).length).beq (List.map prV m).length=true)<|ap ((zAW (zCI (by kernel_rfl))):PV.own 2 (List.map prV m++[PV.agg [I (↑h:Int),I (↑i:Int)]])=PV.own 2 (List.map prV (m++[((↑h:Int),(↑i:Int))]))) an)<|zAd 1<|zAa<|zAf<|S_a [(1,.v (I (↑(i+1):Int)))] (ap (wrN i) an)<|zAd 1<|zAa ?_)) (fun k1=>(zAk<|zAf<|S_a [(1,.v (I (↑(i+1):Int)))] (ap (wrN i) an)<|zAd 1<|zAa ?_)))) (fun k0=>(zAd 9<|zAa<|zA0<|zAk<|zAf<|S_a [(1,.v (I (↑(i+1):Int)))] (ap (wrN i) an)<|zAd 1<|zAa ?_))
   ·have hg:zSS n w h i=true:=by simp only [zSS,decide_eq_true k0,Bool.true_and,decide_eq_true_eq];exact k1
    exact ⟨(i+1,m++[((h:Int),(i:Int))]),⟨by omega,by rw [yg,if_pos hg,hm,List.append_assoc]⟩,by simp only;omega,by kernel_rfl,by kernel_rfl⟩
   ·exact ⟨(i+1,m),⟨by omega,kE (by simp only [zSS,decide_eq_true k0,Bool.true_and,decide_eq_false_iff_not];exact fun h=>h k1)⟩,by simp only;omega,by kernel_rfl,by kernel_rfl⟩
   ·exact ⟨(i+1,m),⟨by omega,kE (by simp only [zSS,decide_eq_false k0,Bool.false_and])⟩,by simp only;omega,by kernel_rfl,by kernel_rfl⟩
  ·refine zAc 1<|zAa<|zAh<|zAT ((↑i:Int)<(↑n.n.length:Int)) (by omega)<|zAA 2<|zAf<|S_a [(1,.v (I (↑(h+1):Int)))] (ap (wrN h) an)<|zAd 1<|zAa ?_
   exact ⟨(h+1,m),⟨by omega,by rw [yK,hm,show i=n.n.length by omega]⟩,by simp only;omega,by kernel_rfl,by kernel_rfl⟩
 ·have e:h=n.h.toNat:=by omega
  subst e
  refine zAc 1<|zAa<|zAh<|zAT ((↑n.h.toNat:Int)<n.h) (by omega)<|zAA 0<|zAc 1<|S_a [(2,.yes)] (ap ((by exact zBu (by simp<;>omega)):(Nat.beq 0 0&&(List.map prV l).length.beq (List.map prV l).length)=true) an)<|zAa<|zAn<|E_a [(1,.yes),(1,.v (PV.own 2 (List.map prV l)))] (ap (blz (List.map prV l))<|ap ((zAW zAQ):PV.own 2 (List.take (List.map prV l).length (List.drop 0 (List.map prV l)))=PV.own 2 (List.map prV l)) an) (PV.own 2 (List.map prV l)) [] ?_ rfl
  rw [hl];rfl
theorem f22_1 (n:Nw) (cs:List (Int×Int)) (e:Int) (ho:EvOk n cs e):FG 22 [nwV n,prs cs,I e] (.tup [.own 2 ((zBS n (zBh n cs e.toNat)).map prV),I 0]):=by
 have hc:=ho.cr
 have vE:=hc.w
 have hn:=hc.nw
 have he:=ho.ev
 have hw:=zCe (n:=n) (cs:=cs) e.toNat
 refine zAe Tryz.f22 ?_
 refine zAc 3<|zAa<|zAc 3<|S_a [(10,.ret (PV.tup [zDL n cs,I 0]) [])] (ap (f90_1 n cs e (by omega)) an)<|zAd 5<|zAa<|zAh<|zAc 2<|zAa<|zA0<|zAk<|zAc 3<|S_a [(7,.ret (hdV (zBh n cs e.toNat)) [])] (ap (f92 n cs e (by omega) (by omega)) an)<|S_a [(7,.ret (PV.own 2 (List.map prV (zBS n (zBh n cs e.toNat)))) [])] (ap (f91 n cs (zBh n cs e.toNat) (by omega) (by omega)) an)<|zAd 2<|zAa<|zAn<|E_a [(1,.yes),(1,.v (PV.own 2 (List.map prV (zBS n (zBh n cs e.toNat)))))] (ap (blz (List.map prV (zBS n (zBh n cs e.toNat))))<|ap ((zAW zAQ):PV.own 2 (List.take (List.map prV (zBS n (zBh n cs e.toNat))).length (List.drop 0 (List.map prV (zBS n (zBh n cs e.toNat)))))=PV.own 2 (List.map prV (zBS n (zBh n cs e.toNat)))) an) (PV.tup [PV.own 2 (List.map prV (zBS n (zBh n cs e.toNat))),I 0]) [] rfl rfl
def msl (n:Nw) (l:List (Int×Int)):List Int:=(l.filter fun g => !(n.n.getD g.2.toNat default).2).map Prod.fst
theorem zS3 {n:Nw} {l:List (Int×Int)} {i:Nat} (hi:i<l.length):msl n (l.take (i+1))=if (n.n.getD (l.getD i default).2.toNat default).2=true then msl n (l.take i) else msl n (l.take i)++[(l.getD i default).1]:=by
 unfold msl;rw [zB2 (d:=default) hi,List.filter_append,List.map_append]
 generalize l.getD i default=g
 cases hb:(n.n.getD g.2.toNat default).2
 ·rw [List.filter_cons_of_pos (by rw [hb];rfl)];rfl
 ·rw [List.filter_cons_of_neg (by rw [hb];simp)];simp
theorem zVR {n:Nw} {w:List Int} {g:Int×Int} (hg:g∈zBS n w):∃ h i:Nat,h<n.h.toNat∧i<n.n.length∧g=((h:Int),(i:Int))∧zSS n w h i=true:=by
 simp only [zBS,zUe,List.mem_flatMap,List.mem_range,zP8,List.mem_map,List.mem_filter] at hg
 obtain ⟨h,hh,i,⟨hi,hb⟩,rfl⟩:=hg
 exact ⟨h,i,hh,hi,rfl,hb⟩
theorem f26_1 (n:Nw) (cs:List (Int×Int)) (e:Int) (ho:EvOk n cs e):FG 26 [nwV n,prs cs,I e] (.tup [.own 1 ((zGE (msl n (zBS n (zBh n cs e.toNat)))).map I),I 0]):=by
 have hn:=ho.cr.nw
 have hZ:=zJq (w:=zBh n cs e.toNat) hn
 have yv:∀ g∈zBS n (zBh n cs e.toNat),0≤g.2∧g.2<n.n.length:=fun g hg=>by
  obtain ⟨h,i,h1,h2,rfl,_⟩:=zVR hg
  simp only;omega
 have h1:=f22_1 n cs e ho
 generalize zBS n (zBh n cs e.toNat)=G at *
 refine zAe Tryz.f26 ?_
 refine zAc 3<|zAa<|zAc 3<|S_a [(10,.ret (PV.tup [PV.own 2 (List.map prV G),I 0]) [])] (ap h1 an)<|zAd 5<|zAa<|zAh<|zAc 2<|zAa<|zA0<|zAk<|zAc 1<|zAa<|zAh<|zAc 1<|S_a [(0,.n G.length)] (ap (lnS prV G) an)<|zAd 1<|zAa<|zAi 0 ?_
 refine zAq (fun (i,l)=>i≤G.length∧l=msl n (G.take i)) (fun (i,l)=>[(10,.own 1 (l.map I)),(25,I (i:Nat))]) (fun (i,_)=>G.length-i) ((0:Nat),([]:List Int)) ⟨by omega,by simp [msl]⟩ fun (i,l) ⟨hi,hl⟩=>?_
 have w5:l.length≤i:=by
  rw [hl,msl,List.length_map]
  exact Nat.le_trans (List.length_filter_le _ _) (by rw [List.length_take];omega)
 by_cases yI:i<G.length
 ·have yZ:=zS3 (n:=n) yI
  rw [← hl] at yZ
  have hgi:=zBK (d:=default) yv i yI
  clear h1 yv
  refine zAc 1<|zAa<|zAh<|zAU ((↑i:Int)<(↑G.length:Int)) (by omega)<|zAk<|zAh<|zAi 1<|zAh<|zAf<|S_a [(2,.ob),(1,.n i)] (ap ((by exact zAs (by simp only [List.length_map,zzLn]<;>omega)):decide (i<(List.map prV G).length)=true)<|ap ((by simp):some (0+i)=some i) an)<|S_a [(0,.cs true ([I (G.getD i default).fst,I (G.getD i default).snd]))] (ap (zDy (q:=PV.own 2 (List.map prV G)) (xs:=List.map prV G) (x:=PV.agg [I (G.getD i default).fst,I (G.getD i default).snd]) rfl (zBJ default (by omega)):zAw 8 (PV.own 2 (List.map prV G)) [] i 0 Tryz.prog.types[108].size=some (true,[I (G.getD i default).fst,I (G.getD i default).snd])) an)<|zAd 2<|zAa<|zAc 4<|S_a [(0,.ob),(1,.v (PV.agg [I (n.n.getD (G.getD i default).snd.toNat default).fst,PV.bool (n.n.getD (G.getD i default).snd.toNat default).snd]))] (ap ((by exact zAs (by omega)):decide (0≤(G.getD i default).snd)=true)<|ap (zBJ default (by omega):(List.map ntV n.n)[(G.getD i default).snd.toNat]? = some (PV.agg [I (n.n.getD (G.getD i default).snd.toNat default).fst,PV.bool (n.n.getD (G.getD i default).snd.toNat default).snd])) an)<|zAd 3<|zAa<|zEb (!(n.n.getD (G.getD i default).snd.toNat default).snd) (fun k0=>(zAf<|zAd 4<|S_a [(4,.ob),(0,.ob),(0,.yes),(2,.v (PV.own 1 (List.map I (l++[(G.getD i default).fst]))))] (ap (blz (List.map I l))<|ap ((by exact zBi (by simp only [List.length_map,zzLn,zAY]<;>omega)):((List.map I l).length + [I (G.getD i default).fst].length).ble zAY=true)<|ap ((by exact zBu (by simp<;>omega)):(0+(List.map I l).length).beq (List.map I l).length=true)<|ap ((zAW (zCI (by kernel_rfl))):PV.own 1 (List.map I l++[I (G.getD i default).fst])=PV.own 1 (List.map I (l++[(G.getD i default).fst]))) an)<|zAd 1<|zAa<|zAf<|S_a [(1,.v (I (↑(i+1):Int)))] (ap (wrN i) an)<|zAd 1<|zAa ?_)) (fun k0=>(zAk<|zAf<|S_a [(1,.v (I (↑(i+1):Int)))] (ap (wrN i) an)<|zAd 1<|zAa ?_))
  ·rw [Bool.not_eq_true'] at k0
   rw [if_neg (by rw [k0];simp)] at yZ
   exact ⟨(i+1,l++[(G.getD i default).1]),⟨by omega,yZ.symm⟩,by simp only;omega,by kernel_rfl,by kernel_rfl⟩
  ·rw [Bool.not_eq_false'] at k0
   rw [if_pos k0] at yZ
   exact ⟨(i+1,l),⟨by omega,yZ.symm⟩,by simp only;omega,by kernel_rfl,by kernel_rfl⟩
 ·rw [List.take_of_length_le (by omega)] at hl
  rw [← hl]
  clear h1 yv
  refine zAc 1<|zAa<|zAh<|zAT ((↑i:Int)<(↑G.length:Int)) (by omega)<|zAA 0<|zAc 1<|S_a [(3,.ob),(1,.v (PV.own 1 (List.map I l))),(2,.ret (PV.own 1 (List.map I (zGE l))) [])] (ap ((by exact zBi (by simp only [List.length_map,zzLn,zAY]<;>omega)):(List.map I l).length.ble (List.map I l).length=true)<|ap ((zAW zAQ):PV.own 1 (List.take (List.map I l).length (List.drop 0 (List.map I l)))=PV.own 1 (List.map I l))<|ap (f97 l (by omega)) an)<|zAd 2<|zAa<|zAn<|E_a [(1,.yes),(1,.v (PV.own 1 (List.map I (zGE l))))] (ap (blz (List.map I (zGE l)))<|ap ((zAW zAQ):PV.own 1 (List.take (List.map I (zGE l)).length (List.drop 0 (List.map I (zGE l))))=PV.own 1 (List.map I (zGE l))) an) (PV.tup [PV.own 1 (List.map I (zGE l)),I 0]) [] rfl rfl
theorem f29_1 (n:Nw) (cs:List (Int×Int)) (k:Nat) (ho:CrOk n cs) (hk:k≤1000) (he:zBh n cs (k+1)=zBh n cs k) (hm:∀ j,j<k→zBh n cs (j+1)≠zBh n cs j):FG 29 [nwV n,prs cs] (.tup [I k,I 0]):=by
 have hn:=ho.nw
 have vE:=ho.w
 have y6:=zOD (n:=n) (cs:=cs)
 refine zAe Tryz.f29 ?_
 refine zAc 3<|zAa<|zAc 2<|S_a [(8,.ret (PV.tup [zDL n cs,I 0]) [])] (ap (f99_1 n cs (by omega)) an)<|zAd 5<|zAa<|zAh<|zAc 2<|zAa<|zA0<|zAk<|zAc 1<|S_a [(5,.ret (hdV (zOL n cs)) [])] (ap (f100 n cs (by omega)) an)<|zAd 3<|zAa<|zAh<|zAc 2<|S_a [(7,.ret (hdV (zC2 n (zOL n cs))) [])] (ap (f101 n cs (zOL n cs) (by omega) (by omega)) an)<|zAd 2<|zAa<|zAi 0 ?_
 refine zAq (fun j=>j≤k) (fun (j:Nat)=>[(8,I (j:Nat)),(9,.box (hdV (zBh n cs j))),(10,.box (hdV (zBh n cs (j+1))))]) (fun j=>k-j) (0:Nat) (by omega) fun j hj=>?_
 have wd:=zCe (n:=n) (cs:=cs) j
 have hl2:=zCe (n:=n) (cs:=cs) (j+1)
 by_cases qi:j<k
 ·have hI:=hm j qi
  refine zAh<|zAc 2<|S_a [(0,.v (PV.bool !decide (zBh n cs (j+1)=zBh n cs j)))] (ap (zQp 80 (by omega) (by omega):zHM Tryz.prog BinOp.neq 130 (PV.agg (zAS (zBh n cs (j+1)) 80)) (PV.agg (zAS (zBh n cs j) 80))=some (PV.bool !decide (zBh n cs (j+1)=zBh n cs j))) an)<|zAa<|zD8 (zBh n cs (j+1)=zBh n cs j) (by omega)<|zAk<|zAh<|zAi 1<|zAc 2<|zAa<|zAf<|zAd 1<|S_a [(1,.v (I (↑(j+1):Int)))] (ap (wrN j) an)<|zAd 1<|zAa<|zAh<|zAc 1<|zAa<|zAf<|zAd 2<|zAa<|zAf<|zAd 2<|S_a [(7,.ret (hdV (zC2 n (zBh n cs (j+1)))) [])] (ap (f101 n cs (zBh n cs (j+1)) (by omega) (by omega)) an)<|zAd 1<|zAa ?_
  exact ⟨j+1,by omega,by omega,by kernel_rfl,by kernel_rfl⟩
 ·have e:j=k:=by omega
  subst e
  refine zAh<|zAc 2<|S_a [(0,.v (PV.bool !decide (zBh n cs (j+1)=zBh n cs j)))] (ap (zQp 80 (by omega) (by omega):zHM Tryz.prog BinOp.neq 130 (PV.agg (zAS (zBh n cs (j+1)) 80)) (PV.agg (zAS (zBh n cs j) 80))=some (PV.bool !decide (zBh n cs (j+1)=zBh n cs j))) an)<|zAa<|zHm (zBh n cs (j+1)=zBh n cs j) (by omega)<|zAA 0<|zAc 3<|zAa<|zAn<|E_a [] an (PV.tup [I (↑j:Int),I 0]) [] rfl rfl
def zVu (n:Nw) (cs:List (Int×Int)) (k:Nat):Int:=(List.range k).foldl (fun a k=>if zBS n (zBh n cs k)=[] then a else (k:Int)+1) 0
theorem zQh {n:Nw} {cs:List (Int×Int)} {k:Nat}:zVu n cs (k+1)=if zBS n (zBh n cs k)=[] then zVu n cs k else (k:Int)+1:=by
 simp only [zVu,List.range_succ,List.foldl_append,List.foldl_cons,List.foldl_nil]
theorem f31_1 (n:Nw) (cs:List (Int×Int)) (ho:CrOk n cs):FG 31 [nwV n,prs cs] (.tup [if zBS n (zBh n cs 12)=[] then I (zVu n cs 12) else I 0,if zBS n (zBh n cs 12)=[] then I 0 else I 6]):=by
 have hn:=ho.nw
 have vE:=ho.w
 refine zAe Tryz.f31 ?_
 refine zAc 3<|zAa<|zAc 2<|S_a [(8,.ret (PV.tup [zDL n cs,I 0]) [])] (ap (f99_1 n cs (by omega)) an)<|zAd 5<|zAa<|zAh<|zAc 2<|zAa<|zA0<|zAk<|zAc 1<|S_a [(5,.ret (hdV (zOL n cs)) [])] (ap (f100 n cs (by omega)) an)<|zAd 3<|zAa<|zAh<|zAc 1<|zAa<|zAi 0 ?_
 refine zAq (fun k=>k≤12) (fun (k:Nat)=>[(8,I (zVu n cs k)),(9,.box (hdV (zBh n cs k))),(22,I (k:Nat))]) (fun k=>12-k) (0:Nat) (by omega) fun k hk=>?_
 have wd:=zCe (n:=n) (cs:=cs) k
 have hgl:=zJq (w:=zBh n cs k) hn
 by_cases uM:k<12
 ·have yg:=zQh (n:=n) (cs:=cs) (k:=k)
  refine zAc 1<|zAa<|zAh<|zAU ((↑k:Int)<12) (by omega)<|zAk<|zAh<|zAi 1<|zAc 2<|zAa<|zAh<|zAc 2<|S_a [(7,.ret (PV.own 2 (List.map prV (zBS n (zBh n cs k)))) [])] (ap (f91 n cs (zBh n cs k) (by omega) (by omega)) an)<|S_a [(0,.n ((zBS n (zBh n cs k)).length))] (ap (lnS prV (zBS n (zBh n cs k))) an)<|zAd 1<|zAa<|zB3 ((↑(zBS n (zBh n cs k)).length:Int)>0) (fun k1=>(zAf<|zAd 1<|S_a [(1,.v (I (↑(k+1):Int)))] (ap (wrN k) an)<|zAd 1<|zAa<|zAf<|zAd 2<|S_a [(7,.ret (hdV (zC2 n (zBh n cs k))) [])] (ap (f101 n cs (zBh n cs k) (by omega) (by omega)) an)<|zAd 1<|zAa<|zAf<|S_a [(1,.v (I (↑(k+1):Int)))] (ap (wrN k) an)<|zAd 1<|zAa ?_)) (fun k1=>(zAk<|zAf<|zAd 2<|S_a [(7,.ret (hdV (zC2 n (zBh n cs k))) [])] (ap (f101 n cs (zBh n cs k) (by omega) (by omega)) an)<|zAd 1<|zAa<|zAf<|S_a [(1,.v (I (↑(k+1):Int)))] (ap (wrN k) an)<|zAd 1<|zAa ?_))
  ·rw [if_neg (by intro h;rw [h] at k1;simp at k1)] at yg
   exact ⟨k+1,by omega,by omega,by rw [yg];kernel_rfl,by kernel_rfl⟩
  ·rw [if_pos (List.eq_nil_of_length_eq_zero (by omega))] at yg
   exact ⟨k+1,by omega,by omega,by rw [yg];kernel_rfl,by kernel_rfl⟩
 ·have e:k=12:=by omega
  subst e
  refine zAc 1<|zAa<|zAh<|zA0<|zAA 0<|zAh<|zAc 2<|S_a [(7,.ret (PV.own 2 (List.map prV (zBS n (zBh n cs 12)))) [])] (ap (f91 n cs (zBh n cs 12) (by omega) (by omega)) an)<|S_a [(0,.n ((zBS n (zBh n cs 12)).length))] (ap (lnS prV (zBS n (zBh n cs 12))) an)<|zAd 1<|zAa<|zB3 ((↑(zBS n (zBh n cs 12)).length:Int)>0) (fun k0=>(zAc 2<|zAa<|zAn<|E_a [] an (PV.tup [I 0,I 6]) [] ?_ rfl)) (fun k0=>(zAk<|zAc 3<|zAa<|zAn<|E_a [] an (PV.tup [I (zVu n cs 12),I 0]) [] ?_ rfl))
  ·have h:¬ zBS n (zBh n cs 12)=[]:=by intro h;rw [h] at k0;simp at k0
   rw [if_neg h,if_neg h]
  ·have h:zBS n (zBh n cs 12)=[]:=List.eq_nil_of_length_eq_zero (by omega)
   rw [if_pos h,if_pos h]
end Go.Eng
set_option maxRecDepth 10000
set_option maxHeartbeats 4000000
namespace Go.Eng
open Go Go.Proofs
theorem zSU {n:Nw} {cs:List (Int×Int)} {c:Int×Int} (h:CrW n cs) (hl:cs.length<1000) (hc:(0≤c.1∧c.1<n.n.length)∧(0≤c.2∧c.2<n.s.length)):CrW n (cs++[c]) :=
 ⟨h.nw,by simp;omega,fun x hx=>by
  rcases List.mem_append.1 hx with h1 | h1
  ·exact h.cs x h1
  ·rw [List.mem_singleton] at h1;subst h1;exact hc⟩
theorem zX4 (n:Nw) (c:Int×Int):FG 171 [zDL n [],prV c] (.box (zCs n (.own 2 (([]++[c]).map prV)) (mapM (n.l.map pr2)) (zAl n) (zA8 n))):=by
 refine zAe Tryz.f171 ?_
 refine zAc 2<|zAa<|zAc 5<|zAa<|zAc 4<|zAd 1<|zAd 4<|zAd 1<|zAd 1<|zAd 3<|zAa<|zAc 1<|zAd 1<|zAd 4<|zAd 1<|zAa<|zAc 1<|zAd 1<|zAd 5<|zAa<|zAc 1<|zAa<|zAn<|E_a [] an ((PV.agg (I n.h::prs n.l::PV.sl (List.map ntV n.n)::PV.sl (List.map zAR n.s)::PV.own 2 [PV.agg [I c.fst,I c.snd]]::PV.map (List.map zBy (List.map pr2 n.l))::(zAS (zAl n) 8++zAS (zA8 n) 8))).box) [] rfl rfl
theorem zYc (n:Nw) (c:Int×Int) (x0:Int×Int):FG 171 [zDL n [x0],prV c] (.box (zCs n (.own 2 (([x0]++[c]).map prV)) (mapM (n.l.map pr2)) (zAl n) (zA8 n))):=by
 refine zAe Tryz.f171 ?_
 refine zAc 2<|zAa<|zAc 5<|zAa<|zAc 4<|zAd 1<|zAd 4<|zAd 1<|zAd 1<|zAd 3<|zAa<|zAc 1<|zAd 1<|zAd 4<|zAd 1<|zAa<|zAc 1<|zAd 1<|zAd 5<|zAa<|zAc 1<|zAa<|zAn<|E_a [] an ((PV.agg (I n.h::prs n.l::PV.sl (List.map ntV n.n)::PV.sl (List.map zAR n.s)::PV.own 2 [PV.agg [I x0.fst,I x0.snd],PV.agg [I c.fst,I c.snd]]::PV.map (List.map zBy (List.map pr2 n.l))::(zAS (zAl n) 8++zAS (zA8 n) 8))).box) [] rfl rfl
theorem zYK (n:Nw) (c:Int×Int) (x0 x1:Int×Int):FG 171 [zDL n [x0,x1],prV c] (.box (zCs n (.own 2 (([x0,x1]++[c]).map prV)) (mapM (n.l.map pr2)) (zAl n) (zA8 n))):=by
 refine zAe Tryz.f171 ?_
 refine zAc 2<|zAa<|zAc 5<|zAa<|zAc 4<|zAd 1<|zAd 4<|zAd 1<|zAd 1<|zAd 3<|zAa<|zAc 1<|zAd 1<|zAd 4<|zAd 1<|zAa<|zAc 1<|zAd 1<|zAd 5<|zAa<|zAc 1<|zAa<|zAn<|E_a [] an ((PV.agg (I n.h::prs n.l::PV.sl (List.map ntV n.n)::PV.sl (List.map zAR n.s)::PV.own 2 [PV.agg [I x0.fst,I x0.snd],PV.agg [I x1.fst,I x1.snd],PV.agg [I c.fst,I c.snd]]::PV.map (List.map zBy (List.map pr2 n.l))::(zAS (zAl n) 8++zAS (zA8 n) 8))).box) [] rfl rfl
theorem zX3 (n:Nw) (c:Int×Int) (x0 x1 x2:Int×Int):FG 171 [zDL n [x0,x1,x2],prV c] (.box (zCs n (.own 2 (([x0,x1,x2]++[c]).map prV)) (mapM (n.l.map pr2)) (zAl n) (zA8 n))):=by
 refine zAe Tryz.f171 ?_
 refine zAc 2<|zAa<|zAc 5<|zAa<|zAc 4<|zAd 1<|zAd 4<|zAd 1<|zAd 1<|zAd 3<|zAa<|zAc 1<|zAd 1<|zAd 4<|zAd 1<|zAa<|zAc 1<|zAd 1<|zAd 5<|zAa<|zAc 1<|zAa<|zAn<|E_a [] an ((PV.agg (I n.h::prs n.l::PV.sl (List.map ntV n.n)::PV.sl (List.map zAR n.s)::PV.own 2 [PV.agg [I x0.fst,I x0.snd],PV.agg [I x1.fst,I x1.snd],PV.agg [I x2.fst,I x2.snd],PV.agg [I c.fst,I c.snd]]::PV.map (List.map zBy (List.map pr2 n.l))::(zAS (zAl n) 8++zAS (zA8 n) 8))).box) [] rfl rfl
theorem zXD (n:Nw) (c:Int×Int) (x0 x1 x2 x3:Int×Int):FG 171 [zDL n [x0,x1,x2,x3],prV c] (.box (zCs n (.own 2 (([x0,x1,x2,x3]++[c]).map prV)) (mapM (n.l.map pr2)) (zAl n) (zA8 n))):=by
 refine zAe Tryz.f171 ?_
 refine zAc 2<|zAa<|zAc 5<|zAa<|zAc 4<|zAd 1<|zAd 4<|zAd 1<|zAd 1<|zAd 3<|zAa<|zAc 1<|zAd 1<|zAd 4<|zAd 1<|zAa<|zAc 1<|zAd 1<|zAd 5<|zAa<|zAc 1<|zAa<|zAn<|E_a [] an ((PV.agg (I n.h::prs n.l::PV.sl (List.map ntV n.n)::PV.sl (List.map zAR n.s)::PV.own 2 [PV.agg [I x0.fst,I x0.snd],PV.agg [I x1.fst,I x1.snd],PV.agg [I x2.fst,I x2.snd],PV.agg [I x3.fst,I x3.snd],PV.agg [I c.fst,I c.snd]]::PV.map (List.map zBy (List.map pr2 n.l))::(zAS (zAl n) 8++zAS (zA8 n) 8))).box) [] rfl rfl
theorem zYS (n:Nw) (c:Int×Int) (x0 x1 x2 x3 x4:Int×Int):FG 171 [zDL n [x0,x1,x2,x3,x4],prV c] (.box (zCs n (.own 2 (([x0,x1,x2,x3,x4]++[c]).map prV)) (mapM (n.l.map pr2)) (zAl n) (zA8 n))):=by
 refine zAe Tryz.f171 ?_
 refine zAc 2<|zAa<|zAc 5<|zAa<|zAc 4<|zAd 1<|zAd 4<|zAd 1<|zAd 1<|zAd 3<|zAa<|zAc 1<|zAd 1<|zAd 4<|zAd 1<|zAa<|zAc 1<|zAd 1<|zAd 5<|zAa<|zAc 1<|zAa<|zAn<|E_a [] an ((PV.agg (I n.h::prs n.l::PV.sl (List.map ntV n.n)::PV.sl (List.map zAR n.s)::PV.own 2 [PV.agg [I x0.fst,I x0.snd],PV.agg [I x1.fst,I x1.snd],PV.agg [I x2.fst,I x2.snd],PV.agg [I x3.fst,I x3.snd],PV.agg [I x4.fst,I x4.snd],PV.agg [I c.fst,I c.snd]]::PV.map (List.map zBy (List.map pr2 n.l))::(zAS (zAl n) 8++zAS (zA8 n) 8))).box) [] rfl rfl
theorem zYq (n:Nw) (c:Int×Int) (x0 x1 x2 x3 x4 x5:Int×Int):FG 171 [zDL n [x0,x1,x2,x3,x4,x5],prV c] (.box (zCs n (.own 2 (([x0,x1,x2,x3,x4,x5]++[c]).map prV)) (mapM (n.l.map pr2)) (zAl n) (zA8 n))):=by
 refine zAe Tryz.f171 ?_
 refine zAc 2<|zAa<|zAc 5<|zAa<|zAc 4<|zAd 1<|zAd 4<|zAd 1<|zAd 1<|zAd 3<|zAa<|zAc 1<|zAd 1<|zAd 4<|zAd 1<|zAa<|zAc 1<|zAd 1<|zAd 5<|zAa<|zAc 1<|zAa<|zAn<|E_a [] an ((PV.agg (I n.h::prs n.l::PV.sl (List.map ntV n.n)::PV.sl (List.map zAR n.s)::PV.own 2 [PV.agg [I x0.fst,I x0.snd],PV.agg [I x1.fst,I x1.snd],PV.agg [I x2.fst,I x2.snd],PV.agg [I x3.fst,I x3.snd],PV.agg [I x4.fst,I x4.snd],PV.agg [I x5.fst,I x5.snd],PV.agg [I c.fst,I c.snd]]::PV.map (List.map zBy (List.map pr2 n.l))::(zAS (zAl n) 8++zAS (zA8 n) 8))).box) [] rfl rfl
theorem zYo (n:Nw) (c:Int×Int) (x0 x1 x2 x3 x4 x5 x6:Int×Int):FG 171 [zDL n [x0,x1,x2,x3,x4,x5,x6],prV c] (.box (zCs n (.own 2 (([x0,x1,x2,x3,x4,x5,x6]++[c]).map prV)) (mapM (n.l.map pr2)) (zAl n) (zA8 n))):=by
 refine zAe Tryz.f171 ?_
 refine zAc 2<|zAa<|zAc 5<|zAa<|zAc 4<|zAd 1<|zAd 4<|zAd 1<|zAd 1<|zAd 3<|zAa<|zAc 1<|zAd 1<|zAd 4<|zAd 1<|zAa<|zAc 1<|zAd 1<|zAd 5<|zAa<|zAc 1<|zAa<|zAn<|E_a [] an ((PV.agg (I n.h::prs n.l::PV.sl (List.map ntV n.n)::PV.sl (List.map zAR n.s)::PV.own 2 [PV.agg [I x0.fst,I x0.snd],PV.agg [I x1.fst,I x1.snd],PV.agg [I x2.fst,I x2.snd],PV.agg [I x3.fst,I x3.snd],PV.agg [I x4.fst,I x4.snd],PV.agg [I x5.fst,I x5.snd],PV.agg [I x6.fst,I x6.snd],PV.agg [I c.fst,I c.snd]]::PV.map (List.map zBy (List.map pr2 n.l))::(zAS (zAl n) 8++zAS (zA8 n) 8))).box) [] rfl rfl
theorem zYu (n:Nw) (c:Int×Int) (x0 x1 x2 x3 x4 x5 x6 x7:Int×Int):FG 171 [zDL n [x0,x1,x2,x3,x4,x5,x6,x7],prV c] (.box (zCs n (.own 2 (([x0,x1,x2,x3,x4,x5,x6,x7]++[c]).map prV)) (mapM (n.l.map pr2)) (zAl n) (zA8 n))):=by
 refine zAe Tryz.f171 ?_
 refine zAc 2<|zAa<|zAc 5<|zAa<|zAc 4<|zAd 1<|zAd 4<|zAd 1<|zAd 1<|zAd 3<|zAa<|zAc 1<|zAd 1<|zAd 4<|zAd 1<|zAa<|zAc 1<|zAd 1<|zAd 5<|zAa<|zAc 1<|zAa<|zAn<|E_a [] an ((PV.agg (I n.h::prs n.l::PV.sl (List.map ntV n.n)::PV.sl (List.map zAR n.s)::PV.own 2 [PV.agg [I x0.fst,I x0.snd],PV.agg [I x1.fst,I x1.snd],PV.agg [I x2.fst,I x2.snd],PV.agg [I x3.fst,I x3.snd],PV.agg [I x4.fst,I x4.snd],PV.agg [I x5.fst,I x5.snd],PV.agg [I x6.fst,I x6.snd],PV.agg [I x7.fst,I x7.snd],PV.agg [I c.fst,I c.snd]]::PV.map (List.map zBy (List.map pr2 n.l))::(zAS (zAl n) 8++zAS (zA8 n) 8))).box) [] rfl rfl
theorem zYd (n:Nw) (c:Int×Int) (x0 x1 x2 x3 x4 x5 x6 x7 x8:Int×Int):FG 171 [zDL n [x0,x1,x2,x3,x4,x5,x6,x7,x8],prV c] (.box (zCs n (.own 2 (([x0,x1,x2,x3,x4,x5,x6,x7,x8]++[c]).map prV)) (mapM (n.l.map pr2)) (zAl n) (zA8 n))):=by
 refine zAe Tryz.f171 ?_
 refine zAc 2<|zAa<|zAc 5<|zAa<|zAc 4<|zAd 1<|zAd 4<|zAd 1<|zAd 1<|zAd 3<|zAa<|zAc 1<|zAd 1<|zAd 4<|zAd 1<|zAa<|zAc 1<|zAd 1<|zAd 5<|zAa<|zAc 1<|zAa<|zAn<|E_a [] an ((PV.agg (I n.h::prs n.l::PV.sl (List.map ntV n.n)::PV.sl (List.map zAR n.s)::PV.own 2 [PV.agg [I x0.fst,I x0.snd],PV.agg [I x1.fst,I x1.snd],PV.agg [I x2.fst,I x2.snd],PV.agg [I x3.fst,I x3.snd],PV.agg [I x4.fst,I x4.snd],PV.agg [I x5.fst,I x5.snd],PV.agg [I x6.fst,I x6.snd],PV.agg [I x7.fst,I x7.snd],PV.agg [I x8.fst,I x8.snd],PV.agg [I c.fst,I c.snd]]::PV.map (List.map zBy (List.map pr2 n.l))::(zAS (zAl n) 8++zAS (zA8 n) 8))).box) [] rfl rfl
theorem zWa (n:Nw) (c:Int×Int) (x0 x1 x2 x3 x4 x5 x6 x7 x8 x9:Int×Int):FG 171 [zDL n [x0,x1,x2,x3,x4,x5,x6,x7,x8,x9],prV c] (.box (zCs n (.own 2 (([x0,x1,x2,x3,x4,x5,x6,x7,x8,x9]++[c]).map prV)) (mapM (n.l.map pr2)) (zAl n) (zA8 n))):=by
 refine zAe Tryz.f171 ?_
 refine zAc 2<|zAa<|zAc 5<|zAa<|zAc 4<|zAd 1<|zAd 4<|zAd 1<|zAd 1<|zAd 3<|zAa<|zAc 1<|zAd 1<|zAd 4<|zAd 1<|zAa<|zAc 1<|zAd 1<|zAd 5<|zAa<|zAc 1<|zAa<|zAn<|E_a [] an ((PV.agg (I n.h::prs n.l::PV.sl (List.map ntV n.n)::PV.sl (List.map zAR n.s)::PV.own 2 [PV.agg [I x0.fst,I x0.snd],PV.agg [I x1.fst,I x1.snd],PV.agg [I x2.fst,I x2.snd],PV.agg [I x3.fst,I x3.snd],PV.agg [I x4.fst,I x4.snd],PV.agg [I x5.fst,I x5.snd],PV.agg [I x6.fst,I x6.snd],PV.agg [I x7.fst,I x7.snd],PV.agg [I x8.fst,I x8.snd],PV.agg [I x9.fst,I x9.snd],PV.agg [I c.fst,I c.snd]]::PV.map (List.map zBy (List.map pr2 n.l))::(zAS (zAl n) 8++zAS (zA8 n) 8))).box) [] rfl rfl
theorem zWj (n:Nw) (c:Int×Int) (x0 x1 x2 x3 x4 x5 x6 x7 x8 x9 x10:Int×Int):FG 171 [zDL n [x0,x1,x2,x3,x4,x5,x6,x7,x8,x9,x10],prV c] (.box (zCs n (.own 2 (([x0,x1,x2,x3,x4,x5,x6,x7,x8,x9,x10]++[c]).map prV)) (mapM (n.l.map pr2)) (zAl n) (zA8 n))):=by
 refine zAe Tryz.f171 ?_
 refine zAc 2<|zAa<|zAc 5<|zAa<|zAc 4<|zAd 1<|zAd 4<|zAd 1<|zAd 1<|zAd 3<|zAa<|zAc 1<|zAd 1<|zAd 4<|zAd 1<|zAa<|zAc 1<|zAd 1<|zAd 5<|zAa<|zAc 1<|zAa<|zAn<|E_a [] an ((PV.agg (I n.h::prs n.l::PV.sl (List.map ntV n.n)::PV.sl (List.map zAR n.s)::PV.own 2 [PV.agg [I x0.fst,I x0.snd],PV.agg [I x1.fst,I x1.snd],PV.agg [I x2.fst,I x2.snd],PV.agg [I x3.fst,I x3.snd],PV.agg [I x4.fst,I x4.snd],PV.agg [I x5.fst,I x5.snd],PV.agg [I x6.fst,I x6.snd],PV.agg [I x7.fst,I x7.snd],PV.agg [I x8.fst,I x8.snd],PV.agg [I x9.fst,I x9.snd],PV.agg [I x10.fst,I x10.snd],PV.agg [I c.fst,I c.snd]]::PV.map (List.map zBy (List.map pr2 n.l))::(zAS (zAl n) 8++zAS (zA8 n) 8))).box) [] rfl rfl
theorem zV5 (n:Nw) (c:Int×Int) (x0 x1 x2 x3 x4 x5 x6 x7 x8 x9 x10 x11:Int×Int):FG 171 [zDL n [x0,x1,x2,x3,x4,x5,x6,x7,x8,x9,x10,x11],prV c] (.box (zCs n (.own 2 (([x0,x1,x2,x3,x4,x5,x6,x7,x8,x9,x10,x11]++[c]).map prV)) (mapM (n.l.map pr2)) (zAl n) (zA8 n))):=by
 refine zAe Tryz.f171 ?_
 refine zAc 2<|zAa<|zAc 5<|zAa<|zAc 4<|zAd 1<|zAd 4<|zAd 1<|zAd 1<|zAd 3<|zAa<|zAc 1<|zAd 1<|zAd 4<|zAd 1<|zAa<|zAc 1<|zAd 1<|zAd 5<|zAa<|zAc 1<|zAa<|zAn<|E_a [] an ((PV.agg (I n.h::prs n.l::PV.sl (List.map ntV n.n)::PV.sl (List.map zAR n.s)::PV.own 2 [PV.agg [I x0.fst,I x0.snd],PV.agg [I x1.fst,I x1.snd],PV.agg [I x2.fst,I x2.snd],PV.agg [I x3.fst,I x3.snd],PV.agg [I x4.fst,I x4.snd],PV.agg [I x5.fst,I x5.snd],PV.agg [I x6.fst,I x6.snd],PV.agg [I x7.fst,I x7.snd],PV.agg [I x8.fst,I x8.snd],PV.agg [I x9.fst,I x9.snd],PV.agg [I x10.fst,I x10.snd],PV.agg [I x11.fst,I x11.snd],PV.agg [I c.fst,I c.snd]]::PV.map (List.map zBy (List.map pr2 n.l))::(zAS (zAl n) 8++zAS (zA8 n) 8))).box) [] rfl rfl
theorem zWm (n:Nw) (c:Int×Int) (x0 x1 x2 x3 x4 x5 x6 x7 x8 x9 x10 x11 x12:Int×Int):FG 171 [zDL n [x0,x1,x2,x3,x4,x5,x6,x7,x8,x9,x10,x11,x12],prV c] (.box (zCs n (.own 2 (([x0,x1,x2,x3,x4,x5,x6,x7,x8,x9,x10,x11,x12]++[c]).map prV)) (mapM (n.l.map pr2)) (zAl n) (zA8 n))):=by
 refine zAe Tryz.f171 ?_
 refine zAc 2<|zAa<|zAc 5<|zAa<|zAc 4<|zAd 1<|zAd 4<|zAd 1<|zAd 1<|zAd 3<|zAa<|zAc 1<|zAd 1<|zAd 4<|zAd 1<|zAa<|zAc 1<|zAd 1<|zAd 5<|zAa<|zAc 1<|zAa<|zAn<|E_a [] an ((PV.agg (I n.h::prs n.l::PV.sl (List.map ntV n.n)::PV.sl (List.map zAR n.s)::PV.own 2 [PV.agg [I x0.fst,I x0.snd],PV.agg [I x1.fst,I x1.snd],PV.agg [I x2.fst,I x2.snd],PV.agg [I x3.fst,I x3.snd],PV.agg [I x4.fst,I x4.snd],PV.agg [I x5.fst,I x5.snd],PV.agg [I x6.fst,I x6.snd],PV.agg [I x7.fst,I x7.snd],PV.agg [I x8.fst,I x8.snd],PV.agg [I x9.fst,I x9.snd],PV.agg [I x10.fst,I x10.snd],PV.agg [I x11.fst,I x11.snd],PV.agg [I x12.fst,I x12.snd],PV.agg [I c.fst,I c.snd]]::PV.map (List.map zBy (List.map pr2 n.l))::(zAS (zAl n) 8++zAS (zA8 n) 8))).box) [] rfl rfl
theorem zWk (n:Nw) (c:Int×Int) (x0 x1 x2 x3 x4 x5 x6 x7 x8 x9 x10 x11 x12 x13:Int×Int):FG 171 [zDL n [x0,x1,x2,x3,x4,x5,x6,x7,x8,x9,x10,x11,x12,x13],prV c] (.box (zCs n (.own 2 (([x0,x1,x2,x3,x4,x5,x6,x7,x8,x9,x10,x11,x12,x13]++[c]).map prV)) (mapM (n.l.map pr2)) (zAl n) (zA8 n))):=by
 refine zAe Tryz.f171 ?_
 refine zAc 2<|zAa<|zAc 5<|zAa<|zAc 4<|zAd 1<|zAd 4<|zAd 1<|zAd 1<|zAd 3<|zAa<|zAc 1<|zAd 1<|zAd 4<|zAd 1<|zAa<|zAc 1<|zAd 1<|zAd 5<|zAa<|zAc 1<|zAa<|zAn<|E_a [] an ((PV.agg (I n.h::prs n.l::PV.sl (List.map ntV n.n)::PV.sl (List.map zAR n.s)::PV.own 2 [PV.agg [I x0.fst,I x0.snd],PV.agg [I x1.fst,I x1.snd],PV.agg [I x2.fst,I x2.snd],PV.agg [I x3.fst,I x3.snd],PV.agg [I x4.fst,I x4.snd],PV.agg [I x5.fst,I x5.snd],PV.agg [I x6.fst,I x6.snd],PV.agg [I x7.fst,I x7.snd],PV.agg [I x8.fst,I x8.snd],PV.agg [I x9.fst,I x9.snd],PV.agg [I x10.fst,I x10.snd],PV.agg [I x11.fst,I x11.snd],PV.agg [I x12.fst,I x12.snd],PV.agg [I x13.fst,I x13.snd],PV.agg [I c.fst,I c.snd]]::PV.map (List.map zBy (List.map pr2 n.l))::(zAS (zAl n) 8++zAS (zA8 n) 8))).box) [] rfl rfl
theorem zWH (n:Nw) (c:Int×Int) (x0 x1 x2 x3 x4 x5 x6 x7 x8 x9 x10 x11 x12 x13 x14:Int×Int):FG 171 [zDL n [x0,x1,x2,x3,x4,x5,x6,x7,x8,x9,x10,x11,x12,x13,x14],prV c] (.box (zCs n (.own 2 (([x0,x1,x2,x3,x4,x5,x6,x7,x8,x9,x10,x11,x12,x13,x14]++[c]).map prV)) (mapM (n.l.map pr2)) (zAl n) (zA8 n))):=by
 refine zAe Tryz.f171 ?_
 refine zAc 2<|zAa<|zAc 5<|zAa<|zAc 4<|zAd 1<|zAd 4<|zAd 1<|zAd 1<|zAd 3<|zAa<|zAc 1<|zAd 1<|zAd 4<|zAd 1<|zAa<|zAc 1<|zAd 1<|zAd 5<|zAa<|zAc 1<|zAa<|zAn<|E_a [] an ((PV.agg (I n.h::prs n.l::PV.sl (List.map ntV n.n)::PV.sl (List.map zAR n.s)::PV.own 2 [PV.agg [I x0.fst,I x0.snd],PV.agg [I x1.fst,I x1.snd],PV.agg [I x2.fst,I x2.snd],PV.agg [I x3.fst,I x3.snd],PV.agg [I x4.fst,I x4.snd],PV.agg [I x5.fst,I x5.snd],PV.agg [I x6.fst,I x6.snd],PV.agg [I x7.fst,I x7.snd],PV.agg [I x8.fst,I x8.snd],PV.agg [I x9.fst,I x9.snd],PV.agg [I x10.fst,I x10.snd],PV.agg [I x11.fst,I x11.snd],PV.agg [I x12.fst,I x12.snd],PV.agg [I x13.fst,I x13.snd],PV.agg [I x14.fst,I x14.snd],PV.agg [I c.fst,I c.snd]]::PV.map (List.map zBy (List.map pr2 n.l))::(zAS (zAl n) 8++zAS (zA8 n) 8))).box) [] rfl rfl
theorem zWp (n:Nw) (c:Int×Int) (x0 x1 x2 x3 x4 x5 x6 x7 x8 x9 x10 x11 x12 x13 x14 x15:Int×Int):FG 171 [zDL n [x0,x1,x2,x3,x4,x5,x6,x7,x8,x9,x10,x11,x12,x13,x14,x15],prV c] (.box (zCs n (.own 2 (([x0,x1,x2,x3,x4,x5,x6,x7,x8,x9,x10,x11,x12,x13,x14,x15]++[c]).map prV)) (mapM (n.l.map pr2)) (zAl n) (zA8 n))):=by
 refine zAe Tryz.f171 ?_
 refine zAc 2<|zAa<|zAc 5<|zAa<|zAc 4<|zAd 1<|zAd 4<|zAd 1<|zAd 1<|zAd 3<|zAa<|zAc 1<|zAd 1<|zAd 4<|zAd 1<|zAa<|zAc 1<|zAd 1<|zAd 5<|zAa<|zAc 1<|zAa<|zAn<|E_a [] an ((PV.agg (I n.h::prs n.l::PV.sl (List.map ntV n.n)::PV.sl (List.map zAR n.s)::PV.own 2 [PV.agg [I x0.fst,I x0.snd],PV.agg [I x1.fst,I x1.snd],PV.agg [I x2.fst,I x2.snd],PV.agg [I x3.fst,I x3.snd],PV.agg [I x4.fst,I x4.snd],PV.agg [I x5.fst,I x5.snd],PV.agg [I x6.fst,I x6.snd],PV.agg [I x7.fst,I x7.snd],PV.agg [I x8.fst,I x8.snd],PV.agg [I x9.fst,I x9.snd],PV.agg [I x10.fst,I x10.snd],PV.agg [I x11.fst,I x11.snd],PV.agg [I x12.fst,I x12.snd],PV.agg [I x13.fst,I x13.snd],PV.agg [I x14.fst,I x14.snd],PV.agg [I x15.fst,I x15.snd],PV.agg [I c.fst,I c.snd]]::PV.map (List.map zBy (List.map pr2 n.l))::(zAS (zAl n) 8++zAS (zA8 n) 8))).box) [] rfl rfl
theorem f171 (n:Nw) (cs:List (Int×Int)) (c:Int×Int) (hl:cs.length≤16):FG 171 [zDL n cs,prV c] (.box (zCs n (.own 2 ((cs++[c]).map prV)) (mapM (n.l.map pr2)) (zAl n) (zA8 n))):=by
 match cs,hl with
 | [],_=>exact zX4 n c 
 | [x0],_=>exact zYc n c x0
 | [x0,x1],_=>exact zYK n c x0 x1
 | [x0,x1,x2],_=>exact zX3 n c x0 x1 x2
 | [x0,x1,x2,x3],_=>exact zXD n c x0 x1 x2 x3
 | [x0,x1,x2,x3,x4],_=>exact zYS n c x0 x1 x2 x3 x4
 | [x0,x1,x2,x3,x4,x5],_=>exact zYq n c x0 x1 x2 x3 x4 x5
 | [x0,x1,x2,x3,x4,x5,x6],_=>exact zYo n c x0 x1 x2 x3 x4 x5 x6
 | [x0,x1,x2,x3,x4,x5,x6,x7],_=>exact zYu n c x0 x1 x2 x3 x4 x5 x6 x7
 | [x0,x1,x2,x3,x4,x5,x6,x7,x8],_=>exact zYd n c x0 x1 x2 x3 x4 x5 x6 x7 x8
 | [x0,x1,x2,x3,x4,x5,x6,x7,x8,x9],_=>exact zWa n c x0 x1 x2 x3 x4 x5 x6 x7 x8 x9
 | [x0,x1,x2,x3,x4,x5,x6,x7,x8,x9,x10],_=>exact zWj n c x0 x1 x2 x3 x4 x5 x6 x7 x8 x9 x10
 | [x0,x1,x2,x3,x4,x5,x6,x7,x8,x9,x10,x11],_=>exact zV5 n c x0 x1 x2 x3 x4 x5 x6 x7 x8 x9 x10 x11
 | [x0,x1,x2,x3,x4,x5,x6,x7,x8,x9,x10,x11,x12],_=>exact zWm n c x0 x1 x2 x3 x4 x5 x6 x7 x8 x9 x10 x11 x12
 | [x0,x1,x2,x3,x4,x5,x6,x7,x8,x9,x10,x11,x12,x13],_=>exact zWk n c x0 x1 x2 x3 x4 x5 x6 x7 x8 x9 x10 x11 x12 x13
 | [x0,x1,x2,x3,x4,x5,x6,x7,x8,x9,x10,x11,x12,x13,x14],_=>exact zWH n c x0 x1 x2 x3 x4 x5 x6 x7 x8 x9 x10 x11 x12 x13 x14
 | [x0,x1,x2,x3,x4,x5,x6,x7,x8,x9,x10,x11,x12,x13,x14,x15],_=>exact zWp n c x0 x1 x2 x3 x4 x5 x6 x7 x8 x9 x10 x11 x12 x13 x14 x15
 | _::_::_::_::_::_::_::_::_::_::_::_::_::_::_::_::_::_,h=>simp at h
def zVW (n:Nw) (w:List Int) (g:Int×Int):Bool:=decide (w.getD (g.1.toNat*8+((zAl n).getD g.2.toNat 0).toNat) 0≠g.2)
def zIz (n:Nw) (w:List Int) (l:List (Int×Int)):List (Int×Int):=l.filter (zVW n w)
theorem zSP {n:Nw} {w:List Int} {l:List (Int×Int)} {i:Nat} (hi:i<l.length):zIz n w (l.take (i+1))=if zVW n w (l.getD i default)=true then zIz n w (l.take i)++[l.getD i default] else zIz n w (l.take i):=by
 unfold zIz;rw [zB2 (d:=default) hi,List.filter_append]
 split
 ·rw [List.filter_cons_of_pos (by assumption)];rfl
 ·rw [List.filter_cons_of_neg (by assumption)];simp
theorem f119 (n:Nw) (cs l:List (Int×Int)) (e:Int) (c:Int×Int) (ho:CrW n cs) (hl:cs.length≤16) (he:0≤e∧e≤1000) (w5:l.length≤1000) (hm:∀ g∈l,(0≤g.1∧g.1<n.h)∧(0≤g.2∧g.2<n.n.length)) (hc:(0≤c.1∧c.1<n.n.length)∧(0≤c.2∧c.2<n.s.length)):FG 119 [zDL n cs,prs l,I e,prV c] (.own 2 ((zIz n (zBh n (cs++[c]) e.toNat) l).map prV)):=by
 have hw:=zSU ho (by omega) hc
 have hb:=ho.nw.h
 have hn:=ho.nw
 have ub:=hn.nl
 have LG:=zCe (n:=n) (cs:=cs++[c]) e.toNat
 have ha:=f92 n (cs++[c]) e hw he
 generalize zBh n (cs++[c]) e.toNat=w at *
 refine zAe Tryz.f119 ?_
 refine zAc 2<|zAa<|zAc 2<|S_a [(7,.ret ((zCs n (PV.own 2 (List.map prV (cs++[c]))) (mapM (List.map pr2 n.l)) (zAl n) (zA8 n)).box) [])] (ap (f171 n cs c (by omega)) an)<|zAd 1<|S_a [(7,.v (PV.agg (I n.h::prs n.l::PV.sl (List.map ntV n.n)::PV.sl (List.map zAR n.s)::prs (cs++[c])::PV.map (List.map zBy (List.map pr2 n.l))::(zAS (zAl n) 8++zAS (zA8 n) 8)))),(4,.ret (hdV w) [])] (ap ((by simp only [show zAD (List.map prV (cs++[c]))=List.map prV (cs++[c]) from (by first | exact zBC _ | exact zCW _ | exact zCl _ | exact zCT (zCW _) | exact zCT (zCl _) | exact zHC (by simp [zD0]) (zBC _))]):PV.agg (I n.h::prs n.l::PV.sl (List.map ntV n.n)::PV.sl (List.map zAR n.s)::PV.sl (zAD (List.map prV (cs++[c])))::PV.map (List.map zBy (List.map pr2 n.l))::(zAS (zAl n) 8++zAS (zA8 n) 8))=PV.agg (I n.h::prs n.l::PV.sl (List.map ntV n.n)::PV.sl (List.map zAR n.s)::prs (cs++[c])::PV.map (List.map zBy (List.map pr2 n.l))::(zAS (zAl n) 8++zAS (zA8 n) 8)))<|ap ha an)<|zAd 2<|zAa<|zAc 1<|zAa<|zAh<|zAc 1<|S_a [(0,.n l.length)] (ap (lnS prV l) an)<|zAd 1<|zAa<|zAi 0 ?_
 refine zAq (fun (i,q)=>i≤l.length∧q=zIz n w (l.take i)) (fun (i,q)=>[(10,.own 2 (q.map prV)),(20,I (i:Nat))]) (fun (i,_)=>l.length-i) ((0:Nat),([]:List (Int×Int))) ⟨by omega,by simp [zIz]⟩ fun (i,q) ⟨hi,hq⟩=>?_
 have ua:q.length≤i:=by
  rw [hq,zIz];exact Nat.le_trans (List.length_filter_le _ _) (by rw [List.length_take];omega)
 by_cases yI:i<l.length
 ·have yZ:=zSP (n:=n) (w:=w) yI
  rw [← hq] at yZ
  obtain ⟨kP,qE⟩:=zBK (d:=default) hm i yI
  have LF:=zB0 hn (l.getD i default).2.toNat (by omega)
  clear hm ha hq
  refine zAc 1<|zAa<|zAh<|zAU ((↑i:Int)<(↑l.length:Int)) (by omega)<|zAk<|zAh<|zAi 1<|zAh<|zAf<|S_a [(2,.v (PV.agg [I (l.getD i default).fst,I (l.getD i default).snd]))] (ap (zBJ default (by omega):(List.map prV l)[i]? = some (PV.agg [I (l.getD i default).fst,I (l.getD i default).snd])) an)<|zAd 3<|zAa<|zAc 7<|S_a [(0,.ob),(1,.ob),(0,.v ((I ((zAl n).getD (l.getD i default).snd.toNat 0)).ref))] (ap ((by exact zAs (by omega)):decide (0≤(l.getD i default).snd)=true)<|ap ((by exact zAs (by omega)):decide ((l.getD i default).snd.toNat<8)=true)<|ap (zGw (F:=zAl n) (m:=8) (j:=(l.getD i default).snd.toNat) (by omega):zCd (PV.agg (zAS (zAl n) 8)).ref ((l.getD i default).snd.toNat*(fun x=>x.size) Tryz.prog.types[3]) none=some (I ((zAl n).getD (l.getD i default).snd.toNat 0)).ref) an)<|zAd 1<|S_a [(0,.ob),(1,.ob)] (ap ((by exact zAs (by omega)):decide (0≤(l.getD i default).fst)=true)<|ap ((by exact zAs (by omega)):decide ((l.getD i default).fst.toNat<10)=true) an)<|S_a [(0,.ob),(1,.ob)] (ap ((by exact zAs (by omega)):decide (0≤(zAl n).getD (l.getD i default).snd.toNat 0)=true)<|ap ((by exact zAs (by omega)):decide (((zAl n).getD (l.getD i default).snd.toNat 0).toNat<8)=true) an)<|S_a [(0,.cs true ([I (w.getD ((l.getD i default).fst.toNat*8+((zAl n).getD (l.getD i default).snd.toNat 0).toNat) 0)]))] (ap (zDy (q:=(PV.agg (zAS w 80)).box) (xs:=[PV.agg (zAS w 80)]) (x:=PV.agg (zAS w 80)) rfl rfl (zE1 (F:=w) (m:=80) (j:=(l.getD i default).fst.toNat*8+((zAl n).getD (l.getD i default).snd.toNat 0).toNat) (by first | rfl | exact zBU (by kernel_rfl) | exact zBV (by kernel_rfl) | exact zDF (by kernel_rfl) (by kernel_rfl) | exact zDz (by kernel_rfl) | exact zDO (by kernel_rfl) (by kernel_rfl) | exact zDJ (by kernel_rfl) | (simp;done)) (by omega)):zAw 9 (PV.agg (zAS w 80)).box [] 0 (0+(l.getD i default).fst.toNat*(fun x=>x.size) Tryz.prog.types[128]+((zAl n).getD (l.getD i default).snd.toNat 0).toNat*(fun x=>x.size) Tryz.prog.types[3]) 1=some (true,[I (w.getD ((l.getD i default).fst.toNat*8+((zAl n).getD (l.getD i default).snd.toNat 0).toNat) 0)])) an)<|zAd 3<|zAa<|zDh (w.getD ((l.getD i default).fst.toNat*8+((zAl n).getD (l.getD i default).snd.toNat 0).toNat) 0=(l.getD i default).snd) (fun k0=>(zAf<|zAd 3<|S_a [(4,.ob),(0,.ob),(0,.yes),(2,.v (PV.own 2 (List.map prV (q++[l.getD i default]))))] (ap (blz (List.map prV q))<|ap ((by exact zBi (by simp only [List.length_map,zzLn,zAY]<;>omega)):((List.map prV q).length + [PV.agg [I (l.getD i default).fst,I (l.getD i default).snd]].length).ble zAY=true)<|ap ((by exact zBu (by simp<;>omega)):(0+(List.map prV q).length).beq (List.map prV q).length=true)<|ap ((zAW (zCI (by kernel_rfl))):PV.own 2 (List.map prV q++[PV.agg [I (l.getD i default).fst,I (l.getD i default).snd]])=PV.own 2 (List.map prV (q++[l.getD i default]))) an)<|zAd 1<|zAa<|zAf<|S_a [(1,.v (I (↑(i+1):Int)))] (ap (wrN i) an)<|zAd 1<|zAa ?_)) (fun k0=>(zAk<|zAf<|S_a [(1,.v (I (↑(i+1):Int)))] (ap (wrN i) an)<|zAd 1<|zAa ?_))
  ·have hb:zVW n w (l.getD i default)=true:=by simp only [zVW,decide_eq_true_eq];exact k0
   rw [if_pos hb] at yZ
   exact ⟨(i+1,q++[l.getD i default]),⟨by omega,yZ.symm⟩,by simp only;omega,by kernel_rfl,by kernel_rfl⟩
  ·have hb:zVW n w (l.getD i default)=false:=by simp only [zVW,decide_eq_false_iff_not];exact fun h=>h k0
   rw [if_neg (by rw [hb];simp)] at yZ
   exact ⟨(i+1,q),⟨by omega,yZ.symm⟩,by simp only;omega,by kernel_rfl,by kernel_rfl⟩
 ·refine zAc 1<|zAa<|zAh<|zAT ((↑i:Int)<(↑l.length:Int)) (by omega)<|zAA 0<|zAc 1<|S_a [(2,.yes)] (ap ((by exact zBu (by simp<;>omega)):(Nat.beq 0 0&&(List.map prV q).length.beq (List.map prV q).length)=true) an)<|zAa<|zAn<|E_a [(1,.yes),(1,.v (PV.own 2 (List.map prV q)))] (ap (blz (List.map prV q))<|ap ((zAW zAQ):PV.own 2 (List.take (List.map prV q).length (List.drop 0 (List.map prV q)))=PV.own 2 (List.map prV q)) an) (PV.own 2 (List.map prV q)) [] ?_ rfl
  rw [List.take_of_length_le (by omega)] at hq
  rw [hq]
end Go.Eng
set_option maxRecDepth 10000
set_option maxHeartbeats 4000000
namespace Go.Eng
open Go Go.Proofs
theorem zS2 {α:Type} (φ:α→Bool) (l:List α):(zEF φ l = -1→l.filter (fun x => !φ x)=l)∧(zEF φ l≠-1→∃ i:Nat,zEF φ l=i∧i<l.length∧l.take i=(l.take (i+1)).filter (fun x => !φ x)):=by
 constructor
 ·intro h
  have:l.any φ=false:=by rw [← zD1,h];rfl
  rw [List.filter_eq_self]
  intro x hx
  rw [List.any_eq_false] at this
  simpa using this x hx
 ·intro h
  unfold zEF at h ⊢
  split
  ·rename_i yF
   refine ⟨_,rfl,yF,?_⟩
   have hp:=List.findIdx_getElem (w:=yF)
   rw [List.take_add_one,List.getElem?_eq_getElem yF,List.filter_append]
   simp only [Option.toList,List.filter_cons,hp,Bool.not_true,Bool.false_eq_true,if_false,List.filter_nil,List.append_nil]
   symm
   rw [List.filter_eq_self]
   intro x hx
   obtain ⟨j,hj,rfl⟩:=List.mem_take_iff_getElem.1 hx
   have:=List.not_of_lt_findIdx (show j<l.findIdx φ by omega)
   simpa using this
  ·rename_i hn;rw [if_neg hn] at h;exact absurd rfl h
theorem zKT {α:Type} {S:List α} {p:Nat} {x:α} (h:p<S.length):(S.set p x).take (p+1)=S.take p++[x]:=by
 rw [zB2 (d:=x) (by simpa using h),List.take_set_of_le (Nat.le_refl p)]
 simp [List.getD_eq_getElem?_getD,h]
theorem zN1 {α:Type} {S:List α} {i j:Nat} {x d:α} (h:i≠j):(S.set i x).getD j d=S.getD j d:=by
 simp [List.getD_eq_getElem?_getD,List.getElem?_set,h]
theorem zNO {α:Type} (p:α→Bool) (l:List α) (j:Nat) (d:α) (h:j<l.length):(l.take (j+1)).filter p=if p (l.getD j d)=true then (l.take j).filter p++[l.getD j d] else (l.take j).filter p:=by
 rw [zB2 (d:=d) h,List.filter_append]
 split
 ·rw [List.filter_cons_of_pos (by assumption)];rfl
 ·rw [List.filter_cons_of_neg (by assumption)];simp
theorem f189 (n:Nw) (cs:List (Int×Int)) (f:Int) (ho:NwOk n) (g:Int×Int) (hg:0≤g.2∧g.2<n.n.length):FG 189 [prV g,.ref (zDL n cs),.ref (I f)] (.bool (decide ((zAl n).getD g.2.toNat 0≠f))):=by
 have ub:=ho.nl
 refine zAe Tryz.f189 ?_
 refine zAc 2<|zAa<|zAc 5<|S_a [(0,.ob),(1,.ob),(0,.v ((I ((zAl n).getD g.snd.toNat 0)).ref))] (ap ((by exact zAs (by omega)):decide (0≤g.snd)=true)<|ap ((by exact zAs (by omega)):decide (g.snd.toNat<8)=true)<|ap (zGw (F:=zAl n) (m:=8) (j:=g.snd.toNat) (by omega):zCd (PV.agg (zAS (zAl n) 8)).ref (g.snd.toNat*(fun x=>x.size) Tryz.prog.types[3]) none=some (I ((zAl n).getD g.snd.toNat 0)).ref) an)<|zAd 4<|zAa<|zAn<|E_a [] an (PV.bool ((zAl n).getD g.snd.toNat 0 != f)) [] ?_ rfl
 congr 1;rw [Bool.eq_iff_iff];simp
theorem f174_1 (n:Nw) (cs:List (Int×Int)) (f:Int) (ho:NwOk n) (l:List (Int×Int)) (hl:l.length<4294967296) (hr:∀ x∈l,(fun z:Int×Int=>0≤z.2∧z.2<n.n.length) x):FG 174 [.sl (l.map prV),.func 189 [] [.ref (zDL n cs),.ref (I f)]] (I (zEF (fun x=>decide ((zAl n).getD x.2.toNat 0≠f)) l)):=by
 refine zAe Tryz.f174 ?_
 refine zAc 1<|zAa<|zAh<|zAc 1<|S_a [(0,.n l.length)] (ap (lnS prV l) an)<|zAd 1<|zAa<|zAi 0 ?_
 refine zAq (fun i=>i≤l.length∧∀ j,j<i→(fun x=>decide ((zAl n).getD x.2.toNat 0≠f)) (l.getD j default)=false) (fun i=>[(8,I (i:Nat))]) (fun i=>l.length-i) (0:Nat) (by simp) fun i ⟨hi,ha⟩=>?_
 by_cases yI:i<l.length
 ·have LE:=zBK (d:=default) hr i yI
  refine zAc 1<|zAa<|zAh<|zAU ((↑i:Int)<(↑l.length:Int)) (by omega)<|zAk<|zAh<|zAi 1<|zAc 2<|zAa<|zAc 3<|S_a [(2,.v (PV.agg [I (l.getD i default).fst,I (l.getD i default).snd]))] (ap (zBJ default (by omega):(List.map prV l)[i]? = some (PV.agg [I (l.getD i default).fst,I (l.getD i default).snd])) an)<|zAd 1<|S_a [(8,.ret (PV.bool (decide ((zAl n).getD (l.getD i default).snd.toNat 0≠f))) [])] (ap (f189 n cs f (by omega) (l.getD i default) (by omega)) an)<|zAa<|zB3 ((zAl n).getD (l.getD i default).snd.toNat 0≠f) (fun k0=>(zAc 2<|zAa<|zAn<|E_a [] an (I (↑i:Int)) [] ?_ rfl)) (fun k0=>(zAk<|zAf<|S_a [(1,.v (I (↑(i+1):Int)))] (ap (wrN i) an)<|zAd 1<|zAa ?_))
  ·rw [zBX (i:=i) yI (fun j hj=>by rw [← zAt (d:=default)];exact ha j hj) (by rw [← zAt (d:=default)];first | assumption | exact decide_eq_true ‹_›)]
  ·refine ⟨i+1,⟨by omega,fun j hj=>?_⟩,by omega,by kernel_rfl,by kernel_rfl⟩
   rcases Nat.lt_succ_iff_lt_or_eq.1 hj with h | rfl
   ·exact ha j h
   ·first | assumption | exact decide_eq_false ‹_› | (simp only [Bool.not_eq_false',decide_eq_true_eq];assumption)
 ·refine zAc 1<|zAa<|zAh<|zAT ((↑i:Int)<(↑l.length:Int)) (by omega)<|zAA 0<|zAc 1<|zAa<|zAn<|E_a [] an (I (-1)) [] ?_ rfl
  rw [zCn fun j hj=>by rw [← zAt (d:=default)];exact ha j (by omega)]
theorem f122_1 (n:Nw) (cs:List (Int×Int)) (f:Int) (ho:NwOk n) (l:List (Int×Int)) (hl:l.length<4294967296) (hr:∀ x∈l,(fun z:Int×Int=>0≤z.2∧z.2<n.n.length) x):FG 122 [.own 2 (l.map prV),.func 189 [] [.ref (zDL n cs),.ref (I f)]] (.own 2 ((l.filter fun x => !(decide ((zAl n).getD x.2.toNat 0≠f))).map prV)):=by
 have h1:=zS2 (fun x=>decide ((zAl n).getD x.2.toNat 0≠f)) l
 have uF:=f174_1 n cs f ho l hl hr
 by_cases hm:zEF (fun x=>decide ((zAl n).getD x.2.toNat 0≠f)) l = -1
 ·rw [hm] at uF
  rw [h1.1 hm]
  refine zAe Tryz.f122 ?_
  refine zAc 1<|zAa<|zAc 2<|S_a [(3,.ob),(0,.v (prs l)),(3,.ret (I (-1)) [])] (ap (blz (List.map prV l))<|ap (frT prV l)<|ap uF an)<|zAd 1<|zAa<|zAh<|zAc 2<|zAa<|zBR<|zAc 1<|S_a [(2,.yes)] (ap ((by exact zBu (by simp<;>omega)):(Nat.beq 0 0&&(List.map prV l).length.beq (List.map prV l).length)=true) an)<|zAa<|zAn<|E_a [(1,.yes),(1,.v (PV.own 2 (List.map prV l)))] (ap (blz (List.map prV l))<|ap ((zAW zAQ):PV.own 2 (List.take (List.map prV l).length (List.drop 0 (List.map prV l)))=PV.own 2 (List.map prV l)) an) (PV.own 2 (List.map prV l)) [] rfl rfl
 ·obtain ⟨i0,jd,hil0,hf0⟩:=h1.2 hm
  rw [jd] at uF
  clear h1 hm
  refine zAe Tryz.f122 ?_
  refine zAc 1<|zAa<|zAc 2<|S_a [(3,.ob),(0,.v (prs l)),(3,.ret (I (↑i0:Int)) [])] (ap (blz (List.map prV l))<|ap (frT prV l)<|ap uF an)<|zAd 1<|zAa<|zAh<|zAc 2<|zAa<|zA0<|zAk<|zAh<|zAc 1<|S_a [(1,.v (I (↑(i0+1):Int)))] (ap (wrN i0) an)<|zAd 1<|zAa<|zAi 0 ?_
  refine zAq (fun (i,j,S)=>j≤l.length∧i<j∧S.length=l.length∧S.take i=(l.take j).filter (fun x => !(decide ((zAl n).getD x.2.toNat 0≠f)))∧∀ r,j≤r→S.getD r default=l.getD r default) (fun (i,j,S)=>[(0,.own 2 (S.map prV)),(5,I (i:Nat)),(6,I (j:Nat))]) (fun (_,j,_)=>l.length-j) (i0,i0+1,l) ⟨by omega,by omega,rfl,hf0,fun _ _=>rfl⟩ fun (i,j,S) ⟨hj,qh,hS,ht,hd⟩=>?_
  by_cases ja:j<l.length
  ·have LE:=zBK (d:=default) hr j ja
   have hx:=hd j (Nat.le_refl j)
   have yK:=zNO (fun x => !(decide ((zAl n).getD x.2.toNat 0≠f))) l j default ja
   rw [← hx] at yK LE
   clear uF
   have gO:=hd
   clear hd hx
   refine zAh<|zAc 2<|S_a [(0,.n S.length)] (ap (lnS prV S) an)<|zAd 1<|zAa<|zAU ((↑j:Int)<(↑S.length:Int)) (by omega)<|zAk<|zAh<|zAi 1<|zAc 2<|S_a [(2,.ob),(1,.n j)] (ap ((by exact zAs (by simp only [List.length_map,zzLn]<;>omega)):decide (j<(List.map prV S).length)=true)<|ap ((by simp):some (0+j)=some j) an)<|S_a [(0,.cs true ([I (S.getD j default).fst,I (S.getD j default).snd]))] (ap (zDy (q:=PV.own 2 (List.map prV S)) (xs:=List.map prV S) (x:=PV.agg [I (S.getD j default).fst,I (S.getD j default).snd]) rfl (zBJ default (by omega)):zAw 0 (PV.own 2 (List.map prV S)) [] j 0 Tryz.prog.types[108].size=some (true,[I (S.getD j default).fst,I (S.getD j default).snd])) an)<|zAd 2<|zAa<|zAc 2<|S_a [(8,.ret (PV.bool (decide ((zAl n).getD (S.getD j default).snd.toNat 0≠f))) [])] (ap (f189 n cs f (by omega) (S.getD j default) (by omega)) an)<|zAd 1<|zAa<|zDh ((zAl n).getD (S.getD j default).snd.toNat 0≠f) (fun k0=>(zAc 3<|S_a [(2,.ob),(1,.n i)] (ap ((by exact zAs (by simp only [List.length_map,zzLn]<;>omega)):decide (i<(List.map prV S).length)=true)<|ap ((by simp):some (0+i)=some i) an)<|S_a [(8,.root (PV.own 2 (List.map prV (S.set i (S.getD j default)))) true)] (ap (zPs (zBJ default (by omega)) zF2:zBw (PV.own 2 (List.map prV S)) [] i 0 (PV.agg [I (S.getD j default).fst,I (S.getD j default).snd]).cells=some (PV.own 2 (List.map prV (S.set i (S.getD j default))))∧zAE (PV.own 2 (List.map prV S)) (PV.own 2 (List.map prV (S.set i (S.getD j default)))) []=true) an)<|zAa<|zAf<|zAd 1<|S_a [(1,.v (I (↑(i+1):Int)))] (ap (wrN i) an)<|zAd 1<|zAa<|zAf<|zAd 1<|S_a [(1,.v (I (↑(j+1):Int)))] (ap (wrN j) an)<|zAd 1<|zAa ?_)) (fun k0=>(zAk<|zAf<|zAd 1<|S_a [(1,.v (I (↑(j+1):Int)))] (ap (wrN j) an)<|zAd 1<|zAa ?_))
   ·have hb:((fun x => !(decide ((zAl n).getD x.2.toNat 0≠f))) (S.getD j default))=true:=by first | assumption | (simp only [Bool.not_eq_true',decide_eq_false_iff_not];assumption)
    rw [if_pos hb] at yK
    refine ⟨(i+1,j+1,S.set i (S.getD j default)),⟨by omega,by omega,by simpa using hS,?_,fun r qj=>?_⟩,by simp only;omega,by kernel_rfl,by kernel_rfl⟩
    ·rw [yK,← ht,zKT (by omega)]
    ·rw [zN1 (by omega)];exact gO r (by omega)
   ·have hb:((fun x => !(decide ((zAl n).getD x.2.toNat 0≠f))) (S.getD j default))=false:=by first | assumption | (simp only [Bool.not_eq_false',decide_eq_true_eq];assumption)
    rw [if_neg (fun h=>Bool.noConfusion (hb.symm.trans h))] at yK
    exact ⟨(i,j+1,S),⟨by omega,by omega,hS,by rw [yK,ht],fun r qj=>gO r (by omega)⟩,by simp only;omega,by kernel_rfl,by kernel_rfl⟩
  ·refine zAh<|zAc 2<|S_a [(0,.n S.length)] (ap (lnS prV S) an)<|zAd 1<|zAa<|zAT ((↑j:Int)<(↑S.length:Int)) (by omega)<|zAA 0<|zAc 2<|S_a [(3,.ob),(0,.yes),(0,.yes),(0,.v (PV.bor 0 [] 2 i (S.length-i)))] (ap ((by exact zBi (by simp only [List.length_map,zzLn,zAY]<;>omega)):i.ble (List.map prV S).length=true)<|ap ((by exact zBi (by simp only [List.length_map,zzLn,zAY]<;>omega)):(List.map prV S).length.ble (List.map prV S).length=true)<|ap ((by simp<;>omega):(i.beq 0||i.blt (List.map prV S).length)=true)<|ap ((by simp):PV.bor 0 [] 2 (0+i) ((List.map prV S).length-i)=PV.bor 0 [] 2 i (S.length-i)) an)<|zRt (g:=prV) (fun q=>q) 0 2 i (S.length-i) S ((0,0)) (by first | omega | (simp<;>omega)) ⟨rfl,rfl⟩ (fun _=>(by first | exact zF3 | exact ⟨rfl,rfl,rfl,rfl,Nat.le_refl _,rfl⟩)) zNc.nil (zAa<|zAc 2<|S_a [(4,.yes)] (ap ((by exact zBi (by simp<;>omega)):i.ble (List.map prV (List.take i S++List.replicate (S.length-i) (0,0)++List.drop (i+(S.length-i)) S)).length=true) an)<|zAd 1<|zAa<|zAn<|E_a [(1,.yes),(1,.v (PV.own 2 (List.map prV (List.take i (List.take i S++List.replicate (S.length-i) (0,0)++List.drop (i+(S.length-i)) S)))))] (ap ((by exact zBi (by simp<;>omega)):(0+((↑i:Int).toNat-0)).ble (List.map prV (List.take i S++List.replicate (S.length-i) (0,0)++List.drop (i+(S.length-i)) S)).length=true)<|ap ((by simp):PV.own 2 (List.take i (List.drop 0 (List.map prV (List.take i S++List.replicate (S.length-i) (0,0)++List.drop (i+(S.length-i)) S))))=PV.own 2 (List.map prV (List.take i (List.take i S++List.replicate (S.length-i) (0,0)++List.drop (i+(S.length-i)) S)))) an) (PV.own 2 (List.map prV (List.take i (List.take i S++List.replicate (S.length-i) (0,0)++List.drop (i+(S.length-i)) S)))) [] ?_ rfl)
   rw [List.take_of_length_le (Nat.le_of_not_lt ja)] at ht
   rw [← ht,List.append_assoc,List.take_append_of_le_length (by rw [List.length_take];omega),List.take_take,Nat.min_self]
def ofL (n:Nw) (f:Int) (l:List (Int×Int)):List (Int×Int):=l.filter fun x => !decide ((zAl n).getD x.2.toNat 0≠f)
theorem f135 (n:Nw) (cs l:List (Int×Int)) (f:Int) (ho:NwOk n) (hl:l.length≤1000) (hr:∀ g∈l,(0≤g.1∧g.1<n.h)∧(0≤g.2∧g.2<n.n.length)):FG 135 [zDL n cs,prs l,I f] (.own 2 ((ofL n f l).map prV)):=by
 have h1:=f122_1 n cs f ho l (by omega) fun x hx=>(hr x hx).2
 refine zAe Tryz.f135 ?_
 refine zAc 3<|zAa<|zAc 1<|S_a [(6,.ret (PV.own 2 (List.map prV l)) [])] (ap (f123 l (by omega)) an)<|zAd 1<|S_a [(3,.ob),(1,.v (PV.own 2 (List.map prV l))),(14,.ret (PV.own 2 (List.map prV (List.filter (fun x => !decide ((zAl n).getD x.snd.toNat 0≠f)) l))) []),(1,.yes)] (ap ((by exact zBi (by simp only [List.length_map,zzLn,zAY]<;>omega)):(List.map prV l).length.ble (List.map prV l).length=true)<|ap ((zAW zAQ):PV.own 2 (List.take (List.map prV l).length (List.drop 0 (List.map prV l)))=PV.own 2 (List.map prV l))<|ap h1<|ap ((by exact zJG _):(PV.own 2 (List.map prV (List.filter (fun x => !decide ((zAl n).getD x.snd.toNat 0≠f)) l))).free=true) an)<|zAd 1<|zAa<|zAn<|E_a [(1,.yes),(1,.v (PV.own 2 (List.map prV (List.filter (fun x => !decide ((zAl n).getD x.snd.toNat 0≠f)) l))))] (ap (blz (List.map prV (List.filter (fun x => !decide ((zAl n).getD x.snd.toNat 0≠f)) l)))<|ap ((zAW zAQ):PV.own 2 (List.take (List.map prV (List.filter (fun x => !decide ((zAl n).getD x.snd.toNat 0≠f)) l)).length (List.drop 0 (List.map prV (List.filter (fun x => !decide ((zAl n).getD x.snd.toNat 0≠f)) l))))=PV.own 2 (List.map prV (List.filter (fun x => !decide ((zAl n).getD x.snd.toNat 0≠f)) l))) an) (PV.own 2 (List.map prV (List.filter (fun x => !decide ((zAl n).getD x.snd.toNat 0≠f)) l))) [] rfl rfl
end Go.Eng
set_option maxRecDepth 10000
set_option maxHeartbeats 4000000
namespace Go.Eng
open Go Go.Proofs
def zV3 (n:Nw) (cs:List (Int×Int)) (e:Int) (st:List Int):Int:=if zDj n cs e=0 then if (!st.all fun x=>inB x 0 (n.s.length-1))=true then 1 else if st.Nodup then 0 else 5 else zDj n cs e
structure OffOk (n:Nw) (cs:List (Int×Int)) (e:Int) (st:List Int):Prop where
 err:zV3 n cs e st=0
 ev:EvOk n cs e
 rng:∀ s∈st,0≤s∧s<n.s.length
 nd:st.Nodup
abbrev zXF (n:Nw) (cs:List (Int×Int)) (e:Int) (l:List (Int×Int)):PV := .func 173 [] [.ref (zDL n cs),.ref (prs l),.ref (I e)]
theorem f168_2 (n:Nw) (hb:n.s.length≤6) (x:Int):FG 168 [I x,.ref (.func 170 [nwV n] [])] (.bool (!(inB x 0 (n.s.length-1)))):=by
 refine zAe Tryz.f168 ?_
 refine zAc 1<|zAa<|zAc 2<|S_a [(8,.ret (PV.bool (inB x 0 ((↑n.s.length:Int)-1))) [])] (ap (f170 n x (by omega)) an)<|zAd 2<|zAa<|zAn<|E_a [] an (PV.bool !inB x 0 ((↑n.s.length:Int)-1)) [] rfl rfl
theorem f131_2 (n:Nw) (hb:n.s.length≤6) (l:List (Int)) (hl:l.length<4294967296):FG 131 [.sl (l.map I),.func 168 [] [.ref (.func 170 [nwV n] [])]] (I (zEF (fun x => !(inB x 0 (n.s.length-1))) l)):=by
 refine zAe Tryz.f131 ?_
 refine zAc 1<|zAa<|zAh<|zAc 1<|S_a [(0,.n l.length)] (ap (lnS I l) an)<|zAd 1<|zAa<|zAi 0 ?_
 refine zAq (fun i=>i≤l.length∧∀ j,j<i→(fun x => !(inB x 0 (n.s.length-1))) (l.getD j 0)=false) (fun i=>[(8,I (i:Nat))]) (fun i=>l.length-i) (0:Nat) (by simp) fun i ⟨hi,ha⟩=>?_
 refine zAc 1<|zAa<|zAh<|zB3 ((↑i:Int)<(↑l.length:Int)) (fun k0=>(zAk<|zAh<|zAi 1<|zAc 2<|zAa<|zAc 3<|S_a [(2,.v (I (l.getD i 0)))] (ap (zBJ (0) (by omega):(List.map I l)[i]? = some (I (l.getD i 0))) an)<|zAd 1<|S_a [(7,.ret (PV.bool !inB (l.getD i 0) 0 ((↑n.s.length:Int)-1)) [])] (ap (f168_2 n (by omega) (l.getD i 0)) an)<|zAa<|zEb (!inB (l.getD i 0) 0 ((↑n.s.length:Int)-1)) (fun k1=>(zAc 2<|zAa<|zAn<|E_a [] an (I (↑i:Int)) [] ?_ rfl)) (fun k1=>(zAk<|zAf<|S_a [(1,.v (I (↑(i+1):Int)))] (ap (wrN i) an)<|zAd 1<|zAa ?_)))) (fun k0=>(zAA 0<|zAc 1<|zAa<|zAn<|E_a [] an (I (-1)) [] ?_ rfl))
 ·rw [zBX (i:=i) (by omega) (fun j hj=>by rw [← zAt (d:=0)];exact ha j hj) (by rw [← zAt (d:=0)];first | assumption | exact decide_eq_true ‹_› | (simp only [Bool.not_eq_true',decide_eq_false_iff_not];assumption))]
 ·refine ⟨i+1,⟨by omega,fun j hj=>?_⟩,by omega,by kernel_rfl,by kernel_rfl⟩
  rcases Nat.lt_succ_iff_lt_or_eq.1 hj with h | rfl
  ·exact ha j h
  ·first | assumption | exact decide_eq_false ‹_› | (simp only [Bool.not_eq_false',decide_eq_true_eq];first | assumption | (apply Decidable.of_not_not;assumption))
 ·rw [zCn fun j hj=>by rw [← zAt (d:=0)];exact ha j (by omega)]
theorem f52_2 (n:Nw) (hb:n.s.length≤6) (l:List (Int)) (hl:l.length<4294967296):FG 52 [.sl (l.map I),.func 168 [] [.ref (.func 170 [nwV n] [])]] (.bool (l.any (fun x => !(inB x 0 (n.s.length-1))))):=by
 refine zAe Tryz.f52 ?_
 refine zAc 1<|zAa<|zAc 2<|S_a [(7,.ret (I (zEF (fun x => !inB x 0 ((↑n.s.length:Int)-1)) l)) [])] (ap (f131_2 n (by omega) l (by omega)) an)<|zAd 2<|zAa<|zAn<|E_a [] an (PV.bool (decide (zEF (fun x => !inB x 0 ((↑n.s.length:Int)-1)) l≥0))) [] ?_ rfl
 rw [zD1]
theorem f108_2 (n:Nw) (hb:n.s.length≤6) (l:List (Int)) (hl:l.length<4294967296):FG 108 [.sl (l.map I),.func 170 [nwV n] []] (.bool (l.all (fun x=>inB x 0 (n.s.length-1)))):=by
 refine zAe Tryz.f108 ?_
 refine zAc 2<|zAa<|zAc 2<|S_a [(12,.ret (PV.bool (l.any fun x => !inB x 0 ((↑n.s.length:Int)-1))) [])] (ap (f52_2 n (by omega) l (by omega)) an)<|zAd 2<|zAa<|zAn<|E_a [] an (PV.bool !l.any fun x => !inB x 0 ((↑n.s.length:Int)-1)) [] ?_ rfl
 simp [List.not_any_eq_all_not]
theorem f121_1 (n:Nw) (cs:List (Int×Int)) (e:Int) (st:List Int) (ho:OffOk n cs e st) (yK:st.length<1000000):FG 121 [nwV n,prs cs,I e,zAR st] (.tup [zDL n cs,prs (zBS n (zBh n cs e.toNat)),.agg [zXF n cs e (zBS n (zBh n cs e.toNat))],I 0]):=by
 have kF:=ho.ev
 have hcr:=kF.cr
 have vE:=hcr.w
 have hn:=hcr.nw
 have he:=kF.ev
 have hs6:=hn.sl.2
 have LG:=zCe (n:=n) (cs:=cs) e.toNat
 have hgl:=zJq (w:=zBh n cs e.toNat) hn
 have hin:(!st.all fun x=>inB x 0 (n.s.length-1))=false:=by
  simp only [Bool.not_eq_false',List.all_eq_true]
  intro s hs;have:=ho.rng s hs
  simp only [inB,Bool.and_eq_true,decide_eq_true_eq];omega
 refine zAe Tryz.f121 ?_
 refine zAc 6<|zAa<|zAc 3<|S_a [(10,.ret (PV.tup [zDL n cs,I 0]) [])] (ap (f90_1 n cs e (by omega)) an)<|zAd 6<|zAa<|zAh<|zAi 0<|zAc 3<|zAa<|zA0<|zAc 3<|S_a [(7,.ret (PV.bool (st.all fun x=>inB x 0 ((↑n.s.length:Int)-1))) [])] (ap (f108_2 n (by omega) st (by omega)) an)<|zAd 2<|zAa<|zEb (!st.all fun x=>inB x 0 ((↑n.s.length:Int)-1)) (fun k0=>(zAc 5<|zAa<|zAn<|E_a [] an (PV.tup [PV.nilp,PV.sl [],PV.agg [PV.nilf],I 1]) [] ?_ rfl)) (fun k0=>(zAk<|zAh<|zAc 1<|S_a [(0,.n st.length)] (ap (lnS I st) an)<|zAd 1<|zAa<|zAi 1 ?_))
 ·rw [hin] at k0;cases k0
 ·refine zAq (fun i=>i≤st.length) (fun (i:Nat)=>[(38,I (i:Nat))]) (fun i=>st.length-i) (0:Nat) (by omega) fun i hi=>?_
  by_cases yI:i<st.length
  ·have kE:has (st.take i) (st.getD i 0)=false:=by
    rw [zNG,decide_eq_false_iff_not]
    intro hm
    have yW:=ho.nd
    rw [← List.take_append_drop i st,List.nodup_append] at yW
    refine yW.2.2 _ hm _ ?_ rfl
    rw [List.drop_eq_getElem_cons yI,zAt yI];exact List.mem_cons_self
   refine zAc 1<|zAa<|zAh<|zAU ((↑i:Int)<(↑st.length:Int)) (by omega)<|zAk<|zAh<|zAi 2<|zAc 1<|S_a [(2,.v (I (st.getD i 0)))] (ap (zBJ (0) (by omega):(List.map I st)[i]? = some (I (st.getD i 0))) an)<|zAd 3<|zAa<|zAc 2<|S_a [(3,.ob),(0,.ob),(0,.v (zAR (List.take i st)))] (ap ((by exact zBi (by simp only [List.length_map,zzLn,zAY]<;>omega)):i.ble (List.map I st).length=true)<|ap ((by exact all_map _):((List.map I st).all fun x=>x.cells.length.beq ((fun x=>x.size) Tryz.prog.types[3]))=true)<|ap ((by simp):PV.sl (List.take i (List.drop 0 (List.map I st)))=zAR (List.take i st)) an)<|zAd 1<|S_a [(8,.ret (PV.bool (has (List.take i st) (st.getD i 0))) [])] (ap (f58 (List.take i st) (st.getD i 0) (by first | omega | (simp<;>omega))) an)<|zAa<|zEb (has (List.take i st) (st.getD i 0)) (fun k1=>(zAc 5<|zAa<|zAn<|E_a [] an (PV.tup [PV.nilp,PV.sl [],PV.agg [PV.nilf],I 5]) [] ?_ rfl)) (fun k1=>(zAk<|zAf<|S_a [(1,.v (I (↑(i+1):Int)))] (ap (wrN i) an)<|zAd 1<|zAa ?_))
   ·rw [kE] at k1;cases k1
   ·exact ⟨i+1,by omega,by omega,by kernel_rfl,by kernel_rfl⟩
  ·refine zAc 1<|zAa<|zAh<|zAT ((↑i:Int)<(↑st.length:Int)) (by omega)<|zAA 1<|zAc 3<|S_a [(7,.ret (hdV (zBh n cs e.toNat)) [])] (ap (f92 n cs e (by omega) (by omega)) an)<|S_a [(7,.ret (PV.own 2 (List.map prV (zBS n (zBh n cs e.toNat)))) [])] (ap (f91 n cs (zBh n cs e.toNat) (by omega) (by omega)) an)<|zAd 1<|S_a [(3,.v (prs (zBS n (zBh n cs e.toNat))))] (ap ((zO3 (zBC _)):PV.sl (zAD (List.map prV (zBS n (zBh n cs e.toNat))))=prs (zBS n (zBh n cs e.toNat))) an)<|zAa<|zAc 8<|zAa<|zAn<|E_a [] an (PV.tup [(PV.agg (I n.h::prs n.l::PV.sl (List.map ntV n.n)::PV.sl (List.map zAR n.s)::prs cs::PV.map (List.map zBy (List.map pr2 n.l))::(zAS (zAl n) 8++zAS (zA8 n) 8))).ref,prs (zBS n (zBh n cs e.toNat)),PV.agg [PV.func 173 [] [(PV.agg (I n.h::prs n.l::PV.sl (List.map ntV n.n)::PV.sl (List.map zAR n.s)::prs cs::PV.map (List.map zBy (List.map pr2 n.l))::(zAS (zAl n) 8++zAS (zA8 n) 8))).ref.ref,(prs (zBS n (zBh n cs e.toNat))).ref,(I e).ref]],I 0]) [] rfl rfl
theorem f173 (n:Nw) (cs l:List (Int×Int)) (e:Int) (c:Int×Int) (ho:CrW n cs) (hl:cs.length≤16) (he:0≤e∧e≤1000) (w5:l.length≤1000) (hm:∀ g∈l,(0≤g.1∧g.1<n.h)∧(0≤g.2∧g.2<n.n.length)) (hc:(0≤c.1∧c.1<n.n.length)∧(0≤c.2∧c.2<n.s.length)):FG 173 [prV c,.ref (zDL n cs),.ref (prs l),.ref (I e)] (.sl ((zIz n (zBh n (cs++[c]) e.toNat) l).map prV)):=by
 refine zAe Tryz.f173 ?_
 refine zAc 2<|zAa<|zAc 4<|S_a [(11,.ret (PV.own 2 (List.map prV (zIz n (zBh n (cs++[c]) e.toNat) l))) [])] (ap (f119 n cs l e c (by omega) (by omega) (by omega) (by omega) (by omega) (by omega)) an)<|zAd 1<|zAa<|zAn<|E_a [(1,.envv ([(4,(PV.agg [I c.fst,I c.snd]).box),(5,prs (zIz n (zBh n (cs++[c]) e.toNat) l))]) (prs (zIz n (zBh n (cs++[c]) e.toNat) l)))] (ap (And.intro (Eq.trans (by kernel_rfl:Env.frz [(4,(PV.agg [I c.fst,I c.snd]).box),(5,PV.own 2 (List.map prV (zIz n (zBh n (cs++[c]) e.toNat) l)))] 5 []=some [(4,(PV.agg [I c.fst,I c.snd]).box),(5,PV.sl (zAD (List.map prV (zIz n (zBh n (cs++[c]) e.toNat) l))))]) ((by simp only [show zAD (List.map prV (zIz n (zBh n (cs++[c]) e.toNat) l))=List.map prV (zIz n (zBh n (cs++[c]) e.toNat) l) from (by first | exact zBC _ | exact zCW _ | exact zCl _ | exact zCT (zCW _) | exact zCT (zCl _) | exact zHC (by simp [zD0]) (zBC _))]):some [(4,(PV.agg [I c.fst,I c.snd]).box),(5,PV.sl (zAD (List.map prV (zIz n (zBh n (cs++[c]) e.toNat) l))))]=some [(4,(PV.agg [I c.fst,I c.snd]).box),(5,prs (zIz n (zBh n (cs++[c]) e.toNat) l))])) (zUZ (by first | exact zBC _ | exact zCW _ | exact zCl _):PV.mapW (inl 5 [] (PV.own 2 (List.map prV (zIz n (zBh n (cs++[c]) e.toNat) l)))) (PV.bor 5 [] 2 0 (List.map prV (zIz n (zBh n (cs++[c]) e.toNat) l)).length)=prs (zIz n (zBh n (cs++[c]) e.toNat) l))) an) (prs (zIz n (zBh n (cs++[c]) e.toNat) l)) [] rfl rfl
end Go.Eng
set_option maxRecDepth 10000
set_option maxHeartbeats 4000000
namespace Go.Eng
open Go Go.Proofs
def zGh (n:Nw) (cs:List (Int×Int)):Bool:=decide ((n.l.length:Int)>20)||(decide ((n.n.length:Int)>12)||(decide ((n.s.length:Int)>10)||(decide ((cs.length:Int)>24)||n.s.any fun l=>decide ((l.length:Int)>14))))
theorem f16 (n:Nw) (cs:List (Int×Int)):FG 16 [nwV n,prs cs] (.bool (zGh n cs)):=by
 refine zAe Tryz.f16 ?_
 refine zAc 2<|zAa<|zAh<|zAc 2<|S_a [(0,.n n.l.length)] (ap (lnS prV n.l) an)<|zAd 2<|zEM 11 ((↑n.l.length:Int)>20) (fun k0=>(zAd 16<|zAa<|zBR<|zAc 1<|zAa<|zAn<|E_a [] an (PV.bool true) [] ?_ rfl)) (fun k0=>(zAd 2<|S_a [(0,.n n.n.length)] (ap (lnS ntV n.n) an)<|zAd 3<|zEM 17 ((↑n.n.length:Int)>12) (fun k1=>(zAd 10<|zAa<|zBR<|zAc 1<|zAa<|zAn<|E_a [] an (PV.bool true) [] ?_ rfl)) (fun k1=>(zAd 2<|S_a [(0,.n n.s.length)] (ap (lnS zAR n.s) an)<|zAd 3<|zEM 23 ((↑n.s.length:Int)>10) (fun k2=>(zAd 4<|zAa<|zBR<|zAc 1<|zAa<|zAn<|E_a [] an (PV.bool true) [] ?_ rfl)) (fun k2=>(zAd 1<|S_a [(0,.n cs.length)] (ap (lnS prV cs) an)<|zAd 2<|zAa<|zB3 ((↑cs.length:Int)>24) (fun k3=>(zAc 1<|zAa<|zAn<|E_a [] an (PV.bool true) [] ?_ rfl)) (fun k3=>(zAk<|zAh<|zAc 2<|S_a [(0,.n n.s.length)] (ap (lnS zAR n.s) an)<|zAd 1<|zAa<|zAi 0 ?_))))))))
 ·simp only [zGh,decide_eq_true k0,Bool.true_or]
 ·simp only [zGh,decide_eq_true k1,Bool.true_or,Bool.or_true]
 ·simp only [zGh,decide_eq_true k2,Bool.true_or,Bool.or_true]
 ·simp only [zGh,decide_eq_true k3,Bool.true_or,Bool.or_true]
 have e:zGh n cs=n.s.any fun l=>decide ((l.length:Int)>14):=by
  simp only [zGh,decide_eq_false k0,decide_eq_false k1,decide_eq_false k2,decide_eq_false k3,Bool.false_or]
 rw [e]
 refine zAq (fun i=>i≤n.s.length∧∀ j,j<i→decide (((n.s.getD j []).length:Int)>14)=false) (fun (i:Nat)=>[(31,I (i:Nat))]) (fun i=>n.s.length-i) (0:Nat) ⟨Nat.zero_le _,fun j hj=>absurd hj (Nat.not_lt_zero j)⟩ fun i ⟨hi,ha⟩=>?_
 by_cases yI:i<n.s.length
 ·have wK:decide (((n.s.getD i []).length:Int)>14)=true→(n.s.any fun l=>decide ((l.length:Int)>14))=true:=fun h=>by
   rw [zAt yI] at h
   exact List.any_eq_true.2 ⟨_,List.getElem_mem yI,h⟩
  have jV:decide (((n.s.getD i []).length:Int)>14)=false→∀ j,j<i+1→decide (((n.s.getD j []).length:Int)>14)=false:=fun h j hj=>by
   rcases Nat.lt_succ_iff_lt_or_eq.1 hj with h2 | rfl
   ·exact ha j h2
   ·exact h
  clear ha
  refine zAc 1<|zAa<|zAh<|zAU ((↑i:Int)<(↑n.s.length:Int)) (by omega)<|zAk<|zAh<|zAi 1<|zAh<|zAf<|S_a [(2,.v (zAR (n.s.getD i [])))] (ap (zBJ [] (by omega):(List.map zAR n.s)[i]? = some (zAR (n.s.getD i []))) an)<|zAd 2<|zAa<|zAc 1<|S_a [(0,.n ((n.s.getD i []).length))] (ap (lnS I (n.s.getD i [])) an)<|zAd 1<|zAa<|zB3 ((↑(n.s.getD i []).length:Int)>14) (fun k4=>(zAc 1<|zAa<|zAn<|E_a [] an (PV.bool true) [] ?_ rfl)) (fun k4=>(zAk<|zAf<|S_a [(1,.v (I (↑(i+1):Int)))] (ap (wrN i) an)<|zAd 1<|zAa ?_))
  ·rw [wK (decide_eq_true k4)]
  ·exact ⟨i+1,⟨by omega,jV (decide_eq_false k4)⟩,by omega,by kernel_rfl,by kernel_rfl⟩
 ·have hx:(n.s.any fun l=>decide ((l.length:Int)>14))=false:=by
   rw [List.any_eq_false]
   intro x hx
   obtain ⟨j,hj,rfl⟩:=List.getElem_of_mem hx
   have:=ha j (by omega)
   rw [zAt hj] at this
   rw [this];simp
  rw [hx]
  clear ha
  refine zAc 1<|zAa<|zAh<|zAT ((↑i:Int)<(↑n.s.length:Int)) (by omega)<|zAA 0<|zAc 1<|zAa<|zAn<|E_a [] an (PV.bool false) [] rfl rfl
theorem f18 (n:Nw) (hs:Small n):FG 18 [nwV n] (nwO n):=by
 have h1:=hs.hl
 have h2:=hs.hn
 have h3:=hs.hs
 have h4:=hs.hr
 refine zAe Tryz.f18 ?_
 refine zAc 2<|zAa<|zAc 4<|S_a [(6,.ret (PV.own 2 (List.map prV n.l)) [])] (ap (f87 n.l (by omega)) an)<|zAd 2<|S_a [(6,.ret (PV.own 2 (List.map ntV n.n)) [])] (ap (f88 n.n (by omega)) an)<|zAd 2<|S_a [(6,.ret (PV.own 1 (List.map zEE n.s)) [])] (ap (f89 n.s (by omega) (by omega)) an)<|zAd 2<|zAa<|zAn<|E_a [(4,.yes),(1,.v (PV.own 2 (List.map prV n.l))),(1,.yes),(1,.v (PV.own 2 (List.map ntV n.n))),(1,.yes),(1,.v (PV.own 1 (List.map zEE n.s)))] (ap (blz (List.map prV n.l))<|ap ((zAW zAQ):PV.own 2 (List.take (List.map prV n.l).length (List.drop 0 (List.map prV n.l)))=PV.own 2 (List.map prV n.l))<|ap (blz (List.map ntV n.n))<|ap ((zAW zAQ):PV.own 2 (List.take (List.map ntV n.n).length (List.drop 0 (List.map ntV n.n)))=PV.own 2 (List.map ntV n.n))<|ap (blz (List.map zEE n.s))<|ap ((zAW zAQ):PV.own 1 (List.take (List.map zEE n.s).length (List.drop 0 (List.map zEE n.s)))=PV.own 1 (List.map zEE n.s)) an) (PV.agg [I n.h,PV.own 2 (List.map prV n.l),PV.own 2 (List.map ntV n.n),PV.own 1 (List.map zEE n.s)]) [] rfl rfl
theorem f33 (a:Nw) (hs:Small a):FG 33 [nwV a,nwV a] (.bool true):=by
 have h1:=hs.hl
 have h2:=hs.hn
 have h3:=hs.hs
 have h4:=hs.hr
 refine zAe Tryz.f33 ?_
 refine zAc 3<|zAa<|zAc 6<|zIS 10 (a.h=a.h) (by omega) (zAd 4<|S_a [(8,.ret (PV.bool (decide (a.l=a.l))) [])] (ap (f103 a.l a.l (by omega)) an)<|zAd 2<|zIS 17 (a.l=a.l) (by (simp;done)) (zAd 4<|S_a [(8,.ret (PV.bool (decide (a.n=a.n))) [])] (ap (f104 a.n a.n (by omega)) an)<|zAd 2<|zIS 24 (a.n=a.n) (by (simp;done)) (zAd 4<|S_a [(8,.ret (PV.bool (decide (a.s=a.s))) [])] (ap (f62 a.s a.s (by omega) ?_) an)<|zAd 2<|zAa<|zAn<|E_a [] an (PV.bool (decide (a.s=a.s))) [] (by simp [*]) rfl)))
 exact fun r hr=>by have:=h4 r hr;omega
theorem f19 (n:Nw) (hs:Small n):FG 19 [nwV n] (nwO n):=by
 have h1:=hs.hl
 have h2:=hs.hn
 have h3:=hs.hs
 have h4:=hs.hr
 refine zAe Tryz.f19 ?_
 refine zAc 2<|zAa<|zAc 4<|S_a [(6,.ret (PV.own 2 (List.map prV n.l)) [])] (ap (f87 n.l (by omega)) an)<|zAd 2<|S_a [(6,.ret (PV.own 1 (List.map zEE n.s)) [])] (ap (f89 n.s (by omega) (by omega)) an)<|zAd 3<|zAa<|zAh<|zAc 2<|S_a [(0,.n n.n.length)] (ap (lnS ntV n.n) an)<|zAd 1<|zAa<|zAi 0 ?_
 refine zAq (fun (i,q)=>i≤n.n.length∧q=n.n.take i) (fun (i,q)=>[(3,.box (.agg [I n.h,.own 2 (n.l.map prV),.own 2 (q.map ntV),.own 1 (n.s.map zEE)])),(18,I (i:Nat))]) (fun (i,_)=>n.n.length-i) ((0:Nat),([]:List (Int×Bool))) ⟨Nat.zero_le _,rfl⟩ fun (i,q) ⟨hi,hq⟩=>?_
 have ua:q.length≤i:=by rw [hq,List.length_take];omega
 by_cases yI:i<n.n.length
 ·have yg:=zB2 (d:=default) yI
  rw [← hq] at yg
  clear hq
  refine zAc 1<|zAa<|zAh<|zAU ((↑i:Int)<(↑n.n.length:Int)) (by omega)<|zAk<|zAh<|zAi 1<|zAh<|zAf<|S_a [(2,.v (PV.agg [I (n.n.getD i default).fst,PV.bool (n.n.getD i default).snd]))] (ap (zBJ default (by omega):(List.map ntV n.n)[i]? = some (PV.agg [I (n.n.getD i default).fst,PV.bool (n.n.getD i default).snd])) an)<|zAd 3<|zAa<|zAf<|zAd 1<|S_a [(1,.v (PV.bor 3 [(0,2)] 2 0 q.length))] (ap ((by simp):PV.bor 3 [(0,2)] 2 0 (List.map ntV q).length=PV.bor 3 [(0,2)] 2 0 q.length) an)<|zAd 2<|S_a [(4,.ob),(0,.ob),(0,.yes),(2,.v (PV.own 2 (List.map ntV (q++[n.n.getD i default]))))] (ap ((by exact zBi (by simp only [List.length_map,zzLn,zAY]<;>omega)):(0+q.length).ble (List.map ntV q).length=true)<|ap ((by exact zBi (by simp only [List.length_map,zzLn,zAY]<;>omega)):((List.map ntV q).length + [PV.agg [I (n.n.getD i default).fst,PV.bool (n.n.getD i default).snd]].length).ble zAY=true)<|ap ((by exact zBu (by simp<;>omega)):(0+q.length).beq (List.map ntV q).length=true)<|ap ((zAW (zCI (by kernel_rfl))):PV.own 2 (List.map ntV q++[PV.agg [I (n.n.getD i default).fst,PV.bool (n.n.getD i default).snd]])=PV.own 2 (List.map ntV (q++[n.n.getD i default]))) an)<|zAd 2<|zAa<|zAf<|S_a [(1,.v (I (↑(i+1):Int)))] (ap (wrN i) an)<|zAd 1<|zAa ?_
  exact ⟨(i+1,q++[n.n.getD i default]),⟨by omega,yg.symm⟩,by simp only;omega,by kernel_rfl,by kernel_rfl⟩
 ·have ug:q=n.n:=by rw [hq,List.take_of_length_le (by omega)]
  clear hq
  subst ug
  refine zAc 1<|zAa<|zAh<|zAT ((↑i:Int)<(↑n.n.length:Int)) (by omega)<|zAA 0<|zAc 1<|S_a [(4,.yes),(2,.yes),(2,.yes)] (ap ((by exact zBu (by simp<;>omega)):(Nat.beq 0 0&&(List.map prV n.l).length.beq (List.map prV n.l).length)=true)<|ap ((by exact zBu (by simp<;>omega)):(Nat.beq 0 0&&(List.map ntV n.n).length.beq (List.map ntV n.n).length)=true)<|ap ((by exact zBu (by simp<;>omega)):(Nat.beq 0 0&&(List.map zEE n.s).length.beq (List.map zEE n.s).length)=true) an)<|zAa<|zAn<|E_a [(4,.yes),(1,.v (PV.own 2 (List.map prV n.l))),(1,.yes),(1,.v (PV.own 2 (List.map ntV n.n))),(1,.yes),(1,.v (PV.own 1 (List.map zEE n.s)))] (ap (blz (List.map prV n.l))<|ap ((zAW zAQ):PV.own 2 (List.take (List.map prV n.l).length (List.drop 0 (List.map prV n.l)))=PV.own 2 (List.map prV n.l))<|ap (blz (List.map ntV n.n))<|ap ((zAW zAQ):PV.own 2 (List.take (List.map ntV n.n).length (List.drop 0 (List.map ntV n.n)))=PV.own 2 (List.map ntV n.n))<|ap (blz (List.map zEE n.s))<|ap ((zAW zAQ):PV.own 1 (List.take (List.map zEE n.s).length (List.drop 0 (List.map zEE n.s)))=PV.own 1 (List.map zEE n.s)) an) (PV.agg [I n.h,PV.own 2 (List.map prV n.l),PV.own 2 (List.map ntV n.n),PV.own 1 (List.map zEE n.s)]) [] rfl rfl
theorem f21 (l:List (Int×Int)) (hl:l.length<1000000):FG 21 [prs l] (.own 2 (l.map prV)):=by
 refine zAe Tryz.f21 ?_
 refine zAc 1<|zAa<|zAc 1<|zAa<|zAh<|zAc 1<|S_a [(0,.n l.length)] (ap (lnS prV l) an)<|zAd 1<|zAa<|zAi 0 ?_
 refine zAq (fun (i,q)=>i≤l.length∧q=l.take i) (fun (i,q)=>[(3,.own 2 (q.map prV)),(8,I (i:Nat))]) (fun (i,_)=>l.length-i) ((0:Nat),([]:List (Int×Int))) ⟨Nat.zero_le _,rfl⟩ fun (i,q) ⟨hi,hq⟩=>?_
 have ua:q.length≤i:=by rw [hq,List.length_take];omega
 by_cases yI:i<l.length
 ·have yg:=zB2 (d:=default) yI
  rw [← hq] at yg
  clear hq
  refine zAc 1<|zAa<|zAh<|zAU ((↑i:Int)<(↑l.length:Int)) (by omega)<|zAk<|zAh<|zAi 1<|zAh<|zAf<|S_a [(2,.v (PV.agg [I (l.getD i default).fst,I (l.getD i default).snd]))] (ap (zBJ default (by omega):(List.map prV l)[i]? = some (PV.agg [I (l.getD i default).fst,I (l.getD i default).snd])) an)<|zAd 3<|zAa<|zAf<|zAd 3<|S_a [(4,.ob),(0,.ob),(0,.yes),(2,.v (PV.own 2 (List.map prV (q++[l.getD i default]))))] (ap (blz (List.map prV q))<|ap ((by exact zBi (by simp only [List.length_map,zzLn,zAY]<;>omega)):((List.map prV q).length + [PV.agg [I (l.getD i default).fst,I (l.getD i default).snd]].length).ble zAY=true)<|ap ((by exact zBu (by simp<;>omega)):(0+(List.map prV q).length).beq (List.map prV q).length=true)<|ap ((zAW (zCI (by kernel_rfl))):PV.own 2 (List.map prV q++[PV.agg [I (l.getD i default).fst,I (l.getD i default).snd]])=PV.own 2 (List.map prV (q++[l.getD i default]))) an)<|zAd 1<|zAa<|zAf<|S_a [(1,.v (I (↑(i+1):Int)))] (ap (wrN i) an)<|zAd 1<|zAa ?_
  exact ⟨(i+1,q++[l.getD i default]),⟨by omega,yg.symm⟩,by simp only;omega,by kernel_rfl,by kernel_rfl⟩
 ·rw [List.take_of_length_le (by omega)] at hq
  rw [← hq]
  clear hq
  refine zAc 1<|zAa<|zAh<|zAT ((↑i:Int)<(↑q.length:Int)) (by omega)<|zAA 0<|zAc 1<|S_a [(2,.yes)] (ap ((by exact zBu (by simp<;>omega)):(Nat.beq 0 0&&(List.map prV q).length.beq (List.map prV q).length)=true) an)<|zAa<|zAn<|E_a [(1,.yes),(1,.v (PV.own 2 (List.map prV q)))] (ap (blz (List.map prV q))<|ap ((zAW zAQ):PV.own 2 (List.take (List.map prV q).length (List.drop 0 (List.map prV q)))=PV.own 2 (List.map prV q)) an) (PV.own 2 (List.map prV q)) [] rfl rfl
end Go.Eng
set_option maxRecDepth 100000
set_option maxHeartbeats 4000000
namespace Go.Eng
open Go Go.Proofs
def zDQ:Nw:=⟨4,[(0,1),(1,2),(2,3)],[(-1,false),(0,true)],[[0],[0,3]]⟩
def zFg:List (Int×Int):=[(0,1),(1,0)]
def zJl:List (Int×Int):=[(2,0),(3,0)]
theorem zT7:NwOk zDQ:=zS7 (by decide +kernel)
theorem zJ8:CrOk zDQ zFg:=zVs (by decide +kernel)
theorem zO1:zBS zDQ (zBh zDQ zFg (1:Int).toNat)=zJl:=by decide +kernel
theorem zVd:OffOk zDQ zFg 1 [0,1]:=⟨by decide +kernel,zSX (by decide +kernel),by decide,by decide⟩
theorem zW7:zIz zDQ (zBh zDQ (zFg++[(1,0)]) (1:Int).toNat) zJl=[]:=by decide +kernel
theorem zW6:zIz zDQ (zBh zDQ (zFg++[(1,1)]) (1:Int).toNat) zJl=zJl:=by decide +kernel
def zZd:List (PV×PV):=[(.agg [I 1,I 0],.sl []),(.agg [I 1,I 1],.sl (zJl.map prV))]
abbrev zQc:List PV:=[.addr 50000000 [] 0 0 none,.addr 50000001 [] 0 0 none,.addr 50000002 [] 0 0 none,.addr 50000003 [] 0 0 none,.addr 50000004 [] 0 0 none]
abbrev zRg (b:Bool) (l:List PV):List PV:=[.box (.bool b),.box (.own 2 l),.box (.own 2 [prV (1,0),prV (1,1)]),.box (.omap [(prV (1,0),.sl []),(prV (1,1),prs zJl)]),.box (.func 187 [] zQc)]
theorem zP3:zAp Tryz.prog zJX 187 (.nils 0::prs zJl::zQc) (zRg false []) (.tup []) (zRg true [prV (1,1)]):=zAp.closed 60
theorem zSb:FG 134 [zDL zDQ zFg,.agg [zXF zDQ zFg 1 zJl],prs zJl,I 0,zAR [0,1]] (.tup [.own 2 [.agg [I 1,I 1]],.bool true]):=by
 have h0:FG 173 [.agg [I 1,I 0],.ref (zDL zDQ zFg),.ref (prs zJl),.ref (I 1)] (.sl []):=by
  have:=f173 zDQ zFg zJl 1 (1,0) zJ8.w (by decide) (by decide) (by decide) (by decide) (by decide)
  rw [zW7] at this;exact this
 have h1:FG 173 [.agg [I 1,I 1],.ref (zDL zDQ zFg),.ref (prs zJl),.ref (I 1)] (.sl (zJl.map prV)):=by
  have:=f173 zDQ zFg zJl 1 (1,1) zJ8.w (by decide) (by decide) (by decide) (by decide) (by decide)
  rw [zW6] at this;exact this
 refine zAe Tryz.f134 ?_
 refine zAc 3<|zAa<|zAc 3<|zAa<|zAc 1<|zAa<|zAh<|zAc 1<|zAd 1<|zAd 1<|zAa<|zAi 0 ?_
 refine zAq (fun j=>j≤2) (fun (j:Nat)=>[(12,.box (.omap (zZd.take j))),(13,.box (.own 2 (([(1,0),(1,1)]:List (Int×Int)).take j |>.map prV))),(23,I (j:Nat))]) (fun j=>2-j) (0:Nat) (by omega) fun j hj=>?_
 have hj3:j=0∨j=1∨j=2:=by omega
 rcases hj3 with e | e | e
 ·subst e
  refine zAc 1<|zAa<|zAh<|zBR<|zAk<|zAh<|zAi 1<|zAc 3<|zAa<|zAc 10<|zAa<|zAf<|zAd 2<|zAd 1<|zAd 6<|S_a [(9,.ret (PV.sl []) [])] (ap h0 an)<|zAd 4<|zAa<|zAf<|zAd 2<|zAa ?_
  exact ⟨1,by omega,by omega,by kernel_rfl,by kernel_rfl⟩
 ·subst e
  refine zAc 1<|zAa<|zAh<|zBR<|zAk<|zAh<|zAi 1<|zAc 3<|zAa<|zAc 10<|zAa<|zAf<|zAd 2<|zAd 1<|zAd 6<|S_a [(9,.ret (prs zJl) [])] (ap h1 an)<|zAd 4<|zAa<|zAf<|zAd 2<|zAa ?_
  exact ⟨2,by omega,by omega,by kernel_rfl,by kernel_rfl⟩
 ·subst e
  have y9:=zP3
  refine zAc 1<|zAa<|zAh<|zA0<|zAA 0<|zAc 1<|zAa<|zAc 2<|zAa<|zAc 1<|zAa<|zAc 2<|zAa<|zAc 2<|S_a [(8,.ret (PV.tup []) (zRg true [prV (1,1)]))] (ap y9 an)<|zAa<|zAc 1<|zAd 1<|zAd 1<|zAd 1<|zAa<|zAn<|E_a [] an (PV.tup [PV.own 2 [PV.agg [I (1,1).fst,I (1,1).snd]],PV.bool true]) [] rfl rfl
theorem zPP:FG 57 [nwV zDQ,prs zFg,I 1,zAR [0,1]] (.tup [.own 2 [.agg [I 1,I 1]],I 0]):=by
 have ho:=f121_1 zDQ zFg 1 [0,1] zVd (by decide)
 rw [zO1] at ho
 have gu:FG 135 [zDL zDQ zFg,prs zJl,I 0] (.own 2 (zJl.map prV)):=by
  have:=f135 zDQ zFg zJl 0 zT7 (by decide) (by decide)
  rwa [show ofL zDQ 0 zJl=zJl from by decide +kernel] at this
 have hc:=zSb
 refine zAe Tryz.f57 ?_
 refine zAc 3<|zAa<|zAc 4<|S_a [(12,.ret (PV.tup [zDL zDQ zFg,prs zJl,PV.agg [zXF zDQ zFg 1 zJl],I 0]) [])] (ap ho an)<|zAd 10<|zAa<|zAh<|zAc 2<|zAa<|zA0<|zAk<|zAc 1<|zAa<|zAh<|zAc 2<|zAd 1<|zAd 1<|zAa<|zAi 0 ?_
 refine zAq (fun j=>j≤2) (fun (j:Nat)=>[(14,.own 2 (([(1,1)]:List (Int×Int)).take j |>.map prV)),(34,I (j:Nat))]) (fun j=>2-j) (0:Nat) (by omega) fun j hj=>?_
 have hj3:j=0∨j=1∨j=2:=by omega
 rcases hj3 with e | e | e
 ·subst e
  refine zAc 1<|zAa<|zAh<|zBR<|zAk<|zAh<|zAi 1<|zAc 2<|zAa<|zAh<|zAc 8<|zAa<|zA0<|zAk<|zAc 5<|S_a [(9,.ret (PV.own 2 (List.map prV zJl)) [])] (ap gu an)<|zAd 2<|S_a [(14,.ret (PV.tup [PV.own 2 [PV.agg [I 1,I 1]],PV.bool true]) [])] (ap hc an)<|zAd 5<|zAa<|zAh<|zAc 2<|zAa<|zA0<|zAk<|zAf<|zAd 4<|zAa<|zAf<|zAd 2<|zAa ?_
  exact ⟨1,by omega,by omega,by kernel_rfl,by kernel_rfl⟩
 ·subst e
  refine zAc 1<|zAa<|zAh<|zBR<|zAk<|zAh<|zAi 1<|zAc 2<|zAa<|zAh<|zAc 8<|zAa<|zBR<|zAA 1<|zAf<|zAd 2<|zAa ?_
  exact ⟨2,by omega,by omega,by kernel_rfl,by kernel_rfl⟩
 ·subst e
  refine zAc 1<|zAa<|zAh<|zA0<|zAA 0<|zAc 3<|zAa<|zAn<|E_a [] an (PV.tup [PV.own 2 [PV.agg [I (1,1).fst,I (1,1).snd]],I 0]) [] rfl rfl
end Go.Eng
