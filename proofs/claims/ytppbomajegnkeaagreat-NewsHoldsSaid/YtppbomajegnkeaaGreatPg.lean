/- For any news, cries, evenings and yV the law NewsHolds ends in true: what a yV j1 and what it j2 are as specified; without conditions. -/
import Derived.Test.YtppbomajegnkeaaGreatPf
import Derived.Test.YtppbomajegnkeaaGreatPd
set_option linter.unusedVariables false
set_option linter.unusedSimpArgs false
set_option linter.unusedSectionVars false
set_option maxRecDepth 10000
set_option maxHeartbeats 4000000
namespace Go.Eng
open Go Go.Proofs
abbrev hdV (w:List Int):PV := .agg (zAS w 80)
def zQg (w:List Int) (i:Nat) (x:Int):List Int:=w.set i (max (w.getD i 0) x)
theorem zIs {w:List Int} {i:Nat} {x:Int}:(zQg w i x).length=w.length:=by simp [zQg]
def begC (n:Nw) (h:Nat) (w:List Int) (c:Int×Int):List Int:=if has (n.s.getD c.2.toNat []) h=true then zQg w (h*8+((zAl n).getD c.1.toNat 0).toNat) c.1 else w
def begH (n:Nw) (h:Nat) (w:List Int) (cs:List (Int×Int)):List Int:=cs.foldl (begC n h) w
def begN (n:Nw) (cs:List (Int×Int)) (h:Nat):List Int:=(List.range h).foldl (fun w h=>begH n h w cs) (List.replicate 80 (-1))
def nxtR (now:List Int) (h o:Nat) (w:List Int) (k:Nat):List Int:=(List.range k).foldl (fun w i=>zQg w (h*8+i) (now.getD (o*8+i) 0)) w
def nxtH (now:List Int) (h:Nat) (w:List Int) (l:List Nat):List Int:=l.foldl (fun w o=>nxtR now h o w 8) w
def nxtN (n:Nw) (now:List Int) (h:Nat):List Int:=(List.range h).foldl (fun w h=>nxtH now h w (zHQ n h n.h.toNat)) now
def zPf (n:Nw) (cs:List (Int×Int)):List Int:=begN n cs n.h.toNat
def zDH (n:Nw) (now:List Int):List Int:=nxtN n now n.h.toNat
def zBl (n:Nw) (cs:List (Int×Int)):Nat→List Int
 | 0=>zPf n cs
 | k+1=>zDH n (zBl n cs k)
theorem zSC {n:Nw} {h:Nat} {w:List Int} {c:Int×Int}:(begC n h w c).length=w.length:=by unfold begC;split<;>simp [zIs]
theorem zKP {n:Nw} {h:Nat}:∀ {cs:List (Int×Int)} {w:List Int},(begH n h w cs).length=w.length
 | [],w=>rfl
 | c::cs,w=>by
  show (begH n h (begC n h w c) cs).length=_
  rw [zKP,zSC]
theorem zIU {n:Nw} {cs:List (Int×Int)} {h:Nat}:begN n cs (h+1)=begH n h (begN n cs h) cs:=by
 simp only [begN,List.range_succ,List.foldl_append,List.foldl_cons,List.foldl_nil]
theorem zLo {n:Nw} {cs:List (Int×Int)}:∀ h,(begN n cs h).length=80
 | 0=>by simp [begN]
 | h+1=>by rw [zIU,zKP];exact zLo h
theorem zRe {n:Nw} {h:Nat} {w:List Int} {cs:List (Int×Int)} {i:Nat} (hi:i<cs.length):begH n h w (cs.take (i+1))=begC n h (begH n h w (cs.take i)) (cs.getD i default):=zGA hi
theorem zLF {now w:List Int} {h o k:Nat}:nxtR now h o w (k+1)=zQg (nxtR now h o w k) (h*8+k) (now.getD (o*8+k) 0):=by
 simp only [nxtR,List.range_succ,List.foldl_append,List.foldl_cons,List.foldl_nil]
theorem zK1 {now w:List Int} {h o:Nat}:∀ k,(nxtR now h o w k).length=w.length
 | 0=>rfl
 | k+1=>by rw [zLF,zIs];exact zK1 k
theorem zKU {now:List Int} {h:Nat}:∀ {l:List Nat} {w:List Int},(nxtH now h w l).length=w.length
 | [],_=>rfl
 | o::l,w=>by
  show (nxtH now h (nxtR now h o w 8) l).length=_
  rw [zKU,zK1]
theorem zMO {n:Nw} {now:List Int} {h:Nat}:nxtN n now (h+1)=nxtH now h (nxtN n now h) (zHQ n h n.h.toNat):=by
 simp only [nxtN,List.range_succ,List.foldl_append,List.foldl_cons,List.foldl_nil]
theorem zLw {n:Nw} {now:List Int}:∀ h,(nxtN n now h).length=now.length
 | 0=>rfl
 | h+1=>by rw [zMO,zKU];exact zLw h
theorem zRv {now:List Int} {h:Nat} {w:List Int} {l:List Nat} {i:Nat} (hi:i<l.length):nxtH now h w (l.take (i+1))=nxtR now h (l.getD i 0) (nxtH now h w (l.take i)) 8:=zGA hi
theorem zOI {n:Nw} {cs:List (Int×Int)}:(zPf n cs).length=80:=zLo _
theorem zQ0 {n:Nw} {w:List Int} (h:w.length=80):(zDH n w).length=80:=by rw [zDH,zLw,h]
theorem zCJ {n:Nw} {cs:List (Int×Int)}:∀ k,(zBl n cs k).length=80
 | 0=>zOI
 | k+1=>zQ0 (zCJ k)
theorem zI5 {F:List Int} {i:Nat} {a:Int} (hF:F.length=8) (hi:i<8) (ha : -1≤a∧a<i) (j:Nat):(zMn F i a).getD j 0=if j=i then (if a = -1 then (i:Int) else F.getD a.toNat 0) else F.getD j 0:=by
 unfold zMn
 by_cases hj:j=i
 ·subst hj
  rw [if_pos rfl]
  split
  ·rw [zDB,if_pos ⟨rfl,by omega⟩]
  ·rw [zDB,if_pos ⟨rfl,by simp;omega⟩,zDB,if_neg (by omega)]
 ·rw [if_neg hj]
  split
  ·rw [zDB,if_neg (fun h=>hj h.1.symm)]
  ·rw [zDB,if_neg (fun h=>hj h.1.symm),zDB,if_neg (fun h=>hj h.1.symm)]
theorem zNV {n:Nw} (ho:NwOk n):∀ i,i≤n.n.length→∀ j,j<i→0≤(zO0 n.n i).getD j 0∧(zO0 n.n i).getD j 0≤j
 | 0,_,j,hj=>absurd hj (Nat.not_lt_zero j)
 | i + 1,hi,j,hj=>by
  have h8:=ho.nl.2
  have ha:=ho.na i (by omega)
  rw [zO0,zI5 (zHl i) (by omega) ha]
  split
  ·subst j
   split
   ·omega
   ·have:=zNV ho i (by omega) ((n.n.getD i default).1.toNat) (by omega)
    omega
  ·exact zNV ho i (by omega) j (by omega)
theorem zB4 {n:Nw} (ho:NwOk n) (j:Nat) (hj:j<n.n.length):0≤(zAl n).getD j 0∧(zAl n).getD j 0≤j:=zNV ho _ (Nat.le_refl _) j hj
theorem f100 (n:Nw) (cs:List (Int×Int)) (ho:CrW n cs):FG 100 [zDv n cs] (hdV (zPf n cs)):=by
 have hb:=ho.nw.h
 have hn:=ho.nw
 have yN:=ho.len
 refine zAe Tryz.f100 ?_
 refine zAc 1<|zAa<|zAc 1<|zAa<|zAh<|zAc 1<|zAa<|zAi 0 ?_
 refine zAp (fun (h,w)=>h≤10∧w.length=80∧∀ j,j<h*8→w.getD j 0 = -1) (fun (h,w)=>[(3,.box (hdV w)),(11,I (h:Nat))]) (fun (h,_)=>10-h) ((0:Nat),List.replicate 80 0) ⟨by omega,rfl,fun j h=>by omega⟩ fun (h,w) ⟨hh,hw,ha⟩=>?_
 by_cases hhl:h<10
 ·refine zAc 1<|zAa<|zAh<|zAU ((↑h:Int)<10) (by omega)<|zAj<|zAh<|zAi 1<|zAc 2<|zAa<|zAc 1<|zAa<|zAi 2 ?_
  refine zAp (fun (i,v)=>i≤8∧v.length=80∧∀ j,j<h*8+i→v.getD j 0 = -1) (fun (i,v)=>[(3,.box (hdV v)),(14,I (i:Nat))]) (fun (i,_)=>8-i) ((0:Nat),w) ⟨by omega,hw,fun j h=>ha j (by omega)⟩ fun (i,v) ⟨hi,hv,hav⟩=>?_
  by_cases yG:i<8
  ·refine zAc 1<|zAa<|zAh<|zAU ((↑i:Int)<8) (by omega)<|zAj<|zAh<|zAi 3<|zAc 2<|zAa<|zAf<|zAd 2<|S_a [(2,.ob)] (ap ((by exact zAq (by omega)):decide (h<10)=true) an)<|S_a [(2,.ob)] (ap ((by exact zAq (by omega)):decide (i<8)=true) an)<|S_a [(7,.root ((PV.agg (zAS (v.set (h*8+i) (-1)) 80)).box) true)] (ap (zPR (zKx (q:=(PV.agg (zAS v 80)).box) (xs:=[PV.agg (zAS v 80)]) (x:=PV.agg (zAS v 80)) (y:=PV.agg (zAS (v.set (h*8+i) (-1)) 80)) (q':=(PV.agg (zAS (v.set (h*8+i) (-1)) 80)).box) rfl (zNx (F:=v) (m:=80) (j:=h*8+i) (u:=-1) (by first | rfl | exact zBX (by kernel_rfl) | exact zBU (by kernel_rfl) | exact zDP (by kernel_rfl) (by kernel_rfl) | exact zC6 (by kernel_rfl) | exact zDU (by kernel_rfl) (by kernel_rfl) | exact zDF (by kernel_rfl) | (simp;done)) (by omega) (by omega)) rfl (hb:=zNv (F:=v) (m:=80) (j:=h*8+i) (by first | rfl | exact zBX (by kernel_rfl) | exact zBU (by kernel_rfl) | exact zDP (by kernel_rfl) (by kernel_rfl) | exact zC6 (by kernel_rfl) | exact zDU (by kernel_rfl) (by kernel_rfl) | exact zDF (by kernel_rfl) | (simp;done)) (by omega))) rfl:zBw (PV.agg (zAS v 80)).box [] 0 (0+(↑h:Int).toNat*(fun x=>x.size) Tryz.prog.types[128]+(↑i:Int).toNat*(fun x=>x.size) Tryz.prog.types[3]) (I (-1)).cells=some (PV.agg (zAS (v.set (h*8+i) (-1)) 80)).box∧zAE (PV.agg (zAS v 80)).box (PV.agg (zAS (v.set (h*8+i) (-1)) 80)).box []=true) an)<|zAa<|zAf<|S_a [(1,.v (I (↑(i+1):Int)))] (ap (wrN i) an)<|zAd 1<|zAa ?_
   refine ⟨(i+1,v.set (h*8+i) (-1)),⟨by omega,by simpa using hv,fun j hj=>?_⟩,by simp only;omega,by kernel_rfl,by kernel_rfl⟩
   rw [zDB]
   split
   ·rfl
   ·exact hav j (by omega)
  ·refine zAc 1<|zAa<|zAh<|zAT ((↑i:Int)<8) (by omega)<|zAz 2<|zAf<|S_a [(1,.v (I (↑(h+1):Int)))] (ap (wrN h) an)<|zAd 1<|zAa ?_
   exact ⟨(h+1,v),⟨by omega,hv,fun j hj=>hav j (by omega)⟩,by simp only;omega,by kernel_rfl,by kernel_rfl⟩
 ·have hw0:w=List.replicate 80 (-1):=by
   refine List.ext_getElem (by simp [hw]) fun j h1 h2=>?_
   have:=ha j (by omega)
   rw [zAs h1] at this
   rw [this,List.getElem_replicate]
  clear ha
  have hw0':begN n cs 0=w:=by rw [hw0];rfl
  clear hw0
  refine zAc 1<|zAa<|zAh<|zAT ((↑h:Int)<10) (by omega)<|zAz 0<|zAc 3<|zAa<|zAh<|zAc 6<|zAa<|zAi 4 ?_
  refine zAp (fun (h,v)=>h≤n.h.toNat∧v=begN n cs h) (fun (h,v)=>[(3,.box (hdV v)),(30,I (h:Nat))]) (fun (h,_)=>n.h.toNat-h) ((0:Nat),w) ⟨by omega,hw0'.symm⟩ fun (h,v) ⟨hh,hv⟩=>?_
  have kB:v.length=80:=by rw [hv];exact zLo h
  by_cases hhl:(h:Int)<n.h
  ·have yK:=zIU (n:=n) (cs:=cs) (h:=h)
   rw [← hv] at yK
   refine zAc 1<|zAa<|zAh<|zAU ((↑h:Int)<n.h) (by omega)<|zAj<|zAh<|zAi 5<|zAc 2<|zAa<|zAc 4<|S_a [(0,.n cs.length)] (ap (lnS prV cs) an)<|zAd 1<|zAa<|zAi 6 ?_
   refine zAp (fun (i,q)=>i≤cs.length∧q=begH n h v (cs.take i)) (fun (i,q)=>[(3,.box (hdV q)),(38,I (i:Nat))]) (fun (i,_)=>cs.length-i) ((0:Nat),v) ⟨by omega,rfl⟩ fun (i,q) ⟨hi,hq⟩=>?_
   have ue:q.length=80:=by rw [hq,zKP];exact kB
   by_cases yG:i<cs.length
   ·have gz:=zBA (d:=default) ho.cs i yG
    have yT:=zRe (n:=n) (h:=h) (w:=v) yG
    rw [← hq] at yT
    have hfb:=zB4 hn (cs.getD i default).1.toNat (by omega)
    have uH:=hn.nl
    have jA:=gz.2
    have v1:0≤(cs.getD i default).1∧(cs.getD i default).1<8:=by omega
    have gy:((zAl n).getD (cs.getD i default).1.toNat 0).toNat<8:=by have:=hn.nl;omega
    clear yK hv hq
    refine zAc 1<|zAa<|zAh<|zAU ((↑i:Int)<(↑cs.length:Int)) (by omega)<|zAj<|zAh<|zAi 7<|zAh<|zAf<|S_a [(2,.v (PV.agg [I (cs.getD i default).fst,I (cs.getD i default).snd]))] (ap (zBG default (by omega):(List.map prV cs)[i]? = some (PV.agg [I (cs.getD i default).fst,I (cs.getD i default).snd])) an)<|zAd 3<|zAa<|zAc 4<|S_a [(9,.ret (PV.bool (has (n.s.getD (cs.getD i default).snd.toNat []) (↑h:Int))) [])] (ap (f140 n (prs cs) (List.map pr2 n.l) (zAl n) (zA6 n) (by omega) ((↑h:Int)) ((cs.getD i default).snd) (by omega)) an)<|zAa<|zDr (has (n.s.getD (cs.getD i default).snd.toNat []) (↑h:Int)) (fun k0=>(zAc 5<|S_a [(0,.ob),(1,.ob),(0,.v ((I ((zAl n).getD (cs.getD i default).fst.toNat 0)).ref))] (ap ((by exact zAq (by omega)):decide (0≤(cs.getD i default).fst)=true)<|ap ((by exact zAq (by omega)):decide ((cs.getD i default).fst.toNat<8)=true)<|ap (zGG (F:=zAl n) (m:=8) (j:=(cs.getD i default).fst.toNat) (by omega):zCd (PV.agg (zAS (zAl n) 8)).ref ((cs.getD i default).fst.toNat*(fun x=>x.size) Tryz.prog.types[3]) none=some (I ((zAl n).getD (cs.getD i default).fst.toNat 0)).ref) an)<|zAd 2<|zAa<|zAf<|zAd 4<|S_a [(2,.ob)] (ap ((by exact zAq (by omega)):decide (h<10)=true) an)<|S_a [(0,.ob),(1,.ob)] (ap ((by exact zAq (by omega)):decide (0≤(zAl n).getD (cs.getD i default).fst.toNat 0)=true)<|ap ((by exact zAq (by omega)):decide (((zAl n).getD (cs.getD i default).fst.toNat 0).toNat<8)=true) an)<|S_a [(0,.cs true ([I (q.getD (h*8+((zAl n).getD (cs.getD i default).fst.toNat 0).toNat) 0)]))] (ap (zDM (q:=(PV.agg (zAS q 80)).box) (xs:=[PV.agg (zAS q 80)]) (x:=PV.agg (zAS q 80)) rfl rfl (zE7 (F:=q) (m:=80) (j:=h*8+((zAl n).getD (cs.getD i default).fst.toNat 0).toNat) (by first | rfl | exact zBX (by kernel_rfl) | exact zBU (by kernel_rfl) | exact zDP (by kernel_rfl) (by kernel_rfl) | exact zC6 (by kernel_rfl) | exact zDU (by kernel_rfl) (by kernel_rfl) | exact zDF (by kernel_rfl) | (simp;done)) (by omega)):zAv 3 (PV.agg (zAS q 80)).box [] 0 (0+(↑h:Int).toNat*(fun x=>x.size) Tryz.prog.types[128]+((zAl n).getD (cs.getD i default).fst.toNat 0).toNat*(fun x=>x.size) Tryz.prog.types[3]) 1=some (true,[I (q.getD (h*8+((zAl n).getD (cs.getD i default).fst.toNat 0).toNat) 0)])) an)<|zAd 3<|S_a [(9,.ret (I (max (q.getD (h*8+((zAl n).getD (cs.getD i default).fst.toNat 0).toNat) 0) (cs.getD i default).fst)) [])] (ap (f165 (q.getD (h*8+((zAl n).getD (cs.getD i default).fst.toNat 0).toNat) 0) ((cs.getD i default).fst)) an)<|S_a [(2,.ob)] (ap ((by exact zAq (by omega)):decide (h<10)=true) an)<|S_a [(0,.ob),(1,.ob)] (ap ((by exact zAq (by omega)):decide (0≤(zAl n).getD (cs.getD i default).fst.toNat 0)=true)<|ap ((by exact zAq (by omega)):decide (((zAl n).getD (cs.getD i default).fst.toNat 0).toNat<8)=true) an)<|S_a [(8,.root ((PV.agg (zAS (q.set (h*8+((zAl n).getD (cs.getD i default).fst.toNat 0).toNat) (max (q.getD (h*8+((zAl n).getD (cs.getD i default).fst.toNat 0).toNat) 0) (cs.getD i default).fst)) 80)).box) true)] (ap (zPR (zKx (q:=(PV.agg (zAS q 80)).box) (xs:=[PV.agg (zAS q 80)]) (x:=PV.agg (zAS q 80)) (y:=PV.agg (zAS (q.set (h*8+((zAl n).getD (cs.getD i default).fst.toNat 0).toNat) (max (q.getD (h*8+((zAl n).getD (cs.getD i default).fst.toNat 0).toNat) 0) (cs.getD i default).fst)) 80)) (q':=(PV.agg (zAS (q.set (h*8+((zAl n).getD (cs.getD i default).fst.toNat 0).toNat) (max (q.getD (h*8+((zAl n).getD (cs.getD i default).fst.toNat 0).toNat) 0) (cs.getD i default).fst)) 80)).box) rfl (zNx (F:=q) (m:=80) (j:=h*8+((zAl n).getD (cs.getD i default).fst.toNat 0).toNat) (u:=max (q.getD (h*8+((zAl n).getD (cs.getD i default).fst.toNat 0).toNat) 0) (cs.getD i default).fst) (by first | rfl | exact zBX (by kernel_rfl) | exact zBU (by kernel_rfl) | exact zDP (by kernel_rfl) (by kernel_rfl) | exact zC6 (by kernel_rfl) | exact zDU (by kernel_rfl) (by kernel_rfl) | exact zDF (by kernel_rfl) | (simp;done)) (by omega) (by omega)) rfl (hb:=zNv (F:=q) (m:=80) (j:=h*8+((zAl n).getD (cs.getD i default).fst.toNat 0).toNat) (by first | rfl | exact zBX (by kernel_rfl) | exact zBU (by kernel_rfl) | exact zDP (by kernel_rfl) (by kernel_rfl) | exact zC6 (by kernel_rfl) | exact zDU (by kernel_rfl) (by kernel_rfl) | exact zDF (by kernel_rfl) | (simp;done)) (by omega))) rfl:zBw (PV.agg (zAS q 80)).box [] 0 (0+(↑h:Int).toNat*(fun x=>x.size) Tryz.prog.types[128]+((zAl n).getD (cs.getD i default).fst.toNat 0).toNat*(fun x=>x.size) Tryz.prog.types[3]) (I (max (q.getD (h*8+((zAl n).getD (cs.getD i default).fst.toNat 0).toNat) 0) (cs.getD i default).fst)).cells=some (PV.agg (zAS (q.set (h*8+((zAl n).getD (cs.getD i default).fst.toNat 0).toNat) (max (q.getD (h*8+((zAl n).getD (cs.getD i default).fst.toNat 0).toNat) 0) (cs.getD i default).fst)) 80)).box∧zAE (PV.agg (zAS q 80)).box (PV.agg (zAS (q.set (h*8+((zAl n).getD (cs.getD i default).fst.toNat 0).toNat) (max (q.getD (h*8+((zAl n).getD (cs.getD i default).fst.toNat 0).toNat) 0) (cs.getD i default).fst)) 80)).box []=true) an)<|zAa<|zAf<|S_a [(1,.v (I (↑(i+1):Int)))] (ap (wrN i) an)<|zAd 1<|zAa ?_)) (fun k0=>(zAj<|zAf<|S_a [(1,.v (I (↑(i+1):Int)))] (ap (wrN i) an)<|zAd 1<|zAa ?_))
    ·rw [begC,if_pos k0] at yT
     exact ⟨(i+1,zQg q (h*8+((zAl n).getD (cs.getD i default).1.toNat 0).toNat) (cs.getD i default).1),⟨by omega,yT.symm⟩,by simp only;omega,by kernel_rfl,by kernel_rfl⟩
    ·rw [begC,if_neg (by rw [k0];simp)] at yT
     exact ⟨(i+1,q),⟨by omega,yT.symm⟩,by simp only;omega,by kernel_rfl,by kernel_rfl⟩
   ·refine zAc 1<|zAa<|zAh<|zAT ((↑i:Int)<(↑cs.length:Int)) (by omega)<|zAz 6<|zAf<|S_a [(1,.v (I (↑(h+1):Int)))] (ap (wrN h) an)<|zAd 1<|zAa ?_
    rw [List.take_of_length_le (by omega)] at hq
    exact ⟨(h+1,q),⟨by omega,by rw [yK,hq]⟩,by simp only;omega,by kernel_rfl,by kernel_rfl⟩
  ·have e:h=n.h.toNat:=by omega
   subst e
   refine zAc 1<|zAa<|zAh<|zAT ((↑n.h.toNat:Int)<n.h) (by omega)<|zAz 4<|zAc 2<|zAa<|zAm<|E_a [] an (PV.agg (zAS v 80)) [] ?_ rfl
   rw [hv];rfl
theorem zRn {n:Nw} {h o m:Nat} (ho:o∈zHQ n h m):o<m:=by
 simp only [zHQ,List.mem_filter,List.mem_range] at ho;exact ho.1
theorem zOO {w:List Int} {o i:Nat} (hi:i<8):((w.drop o).take 8).getD i 0=w.getD (o+i) 0:=by
 simp [List.getD_eq_getElem?_getD,List.getElem?_take,hi]
theorem f101 (n:Nw) (cs:List (Int×Int)) (now:List Int) (ho:NwOk n) (hw:now.length=80):FG 101 [zDv n cs,hdV now] (hdV (zDH n now)):=by
 have hb:=ho.h
 refine zAe Tryz.f101 ?_
 refine zAc 2<|zAa<|zAc 3<|zAa<|zAh<|zAc 6<|zAa<|zAi 0 ?_
 refine zAp (fun (h,v)=>h≤n.h.toNat∧v=nxtN n now h) (fun (h,v)=>[(5,.box (hdV v)),(16,I (h:Nat))]) (fun (h,_)=>n.h.toNat-h) ((0:Nat),now) ⟨by omega,rfl⟩ fun (h,v) ⟨hh,hv⟩=>?_
 have kB:v.length=80:=by rw [hv,zLw];exact hw
 by_cases hhl:(h:Int)<n.h
 ·have yK:=zMO (n:=n) (now:=now) (h:=h)
  rw [← hv] at yK
  have hA:=zUj n cs h ho hhl
  refine zAc 1<|zAa<|zAh<|zAU ((↑h:Int)<n.h) (by omega)<|zAj<|zAh<|zAi 1<|zAc 3<|zAa<|zAc 2<|S_a [(7,.ret (PV.func 169 [] [(zDv n cs).ref,(I (↑h:Int)).ref]) [])] (ap (f116 n cs ((↑h:Int))) an)<|zAa<|zAi 2 ?_
  refine zOL (t:=21) hA (fun j q=>q=nxtH now h v ((zHQ n h n.h.toNat).take j)) (fun q=>[(5,.box (hdV q))]) v rfl (fun j x q hx hq=>?_) (fun q hq=>?_)
  ·rw [List.getElem?_map] at hx
   obtain ⟨o,hm,rfl⟩:=Option.map_eq_some_iff.1 hx
   have hj:j<(zHQ n h n.h.toNat).length:=(List.getElem?_eq_some_iff.1 hm).1
   have ql:o<n.h.toNat:=zRn (List.mem_of_getElem? hm)
   have ue:q.length=80:=by rw [hq,zKU];exact kB
   have yT:=zRv (now:=now) (h:=h) (w:=v) hj
   rw [← hq,show (zHQ n h n.h.toNat).getD j 0=o by simp [List.getD_eq_getElem?_getD,hm]] at yT
   clear yK hv hA hq hm hj
   refine zOX ?_
   refine zAf<|zAd 1<|zAa ?_
   refine ⟨rfl,by kernel_rfl,?_⟩
   refine zAi 3<|zAc 1<|S_a [(2,.ob)] (ap ((by exact zAq (by omega)):decide (o<10)=true) an)<|S_a [(0,.cs true (zAS (List.take 8 (List.drop (o*8) now)) 8))] (ap (zDM (q:=(PV.agg (zAS now 80)).box) (xs:=[PV.agg (zAS now 80)]) (x:=PV.agg (zAS now 80)) rfl rfl (zUT (K:=8) (c:=o*8) (by omega) (by first | rfl | exact zBX (by kernel_rfl) | exact zBU (by kernel_rfl) | exact zDF (by kernel_rfl) | (simp;done)) (by omega) (by kernel_rfl)):zAv 3 (PV.agg (zAS now 80)).box [] 0 (0+(↑o:Int).toNat*(fun x=>x.size) Tryz.prog.types[128]) Tryz.prog.types[128].size=some (true,zAS (List.take 8 (List.drop (o*8) now)) 8)) an)<|zAd 1<|zAa<|zAi 4 ?_
   refine zAp (fun (i,p)=>i≤8∧p=nxtR now h o q i) (fun (i,p)=>[(5,.box (hdV p)),(26,I (i:Nat))]) (fun (i,_)=>8-i) ((0:Nat),q) ⟨by omega,rfl⟩ fun (i,p) ⟨hi,hp⟩=>?_
   have uu:p.length=80:=by rw [hp,zK1];exact ue
   by_cases yG:i<8
   ·have yq:=zLF (now:=now) (w:=q) (h:=h) (o:=o) (k:=i)
    rw [← hp,← zOO yG] at yq
    refine zAc 1<|zAa<|zAh<|zAU ((↑i:Int)<8) (by omega)<|zAj<|zAh<|zAi 5<|zAc 1<|S_a [(2,.ob),(0,.v (I ((List.take 8 (List.drop (o*8) now)).getD i 0)))] (ap ((by exact zAq (by omega)):decide (i<8)=true)<|ap (zN6 (F:=List.take 8 (List.drop (o*8) now)) (m:=8) (j:=i) (by omega):sub (PV.agg (zAS (List.take 8 (List.drop (o*8) now)) 8)) (i*(fun x=>x.size) Tryz.prog.types[3]) none=some (I ((List.take 8 (List.drop (o*8) now)).getD i 0))) an)<|zAd 2<|zAa<|zAf<|zAd 4<|S_a [(2,.ob)] (ap ((by exact zAq (by omega)):decide (h<10)=true) an)<|S_a [(2,.ob)] (ap ((by exact zAq (by omega)):decide (i<8)=true) an)<|S_a [(0,.cs true ([I (p.getD (h*8+i) 0)]))] (ap (zDM (q:=(PV.agg (zAS p 80)).box) (xs:=[PV.agg (zAS p 80)]) (x:=PV.agg (zAS p 80)) rfl rfl (zE7 (F:=p) (m:=80) (j:=h*8+i) (by first | rfl | exact zBX (by kernel_rfl) | exact zBU (by kernel_rfl) | exact zDP (by kernel_rfl) (by kernel_rfl) | exact zC6 (by kernel_rfl) | exact zDU (by kernel_rfl) (by kernel_rfl) | exact zDF (by kernel_rfl) | (simp;done)) (by omega)):zAv 5 (PV.agg (zAS p 80)).box [] 0 (0+(↑h:Int).toNat*(fun x=>x.size) Tryz.prog.types[128]+(↑i:Int).toNat*(fun x=>x.size) Tryz.prog.types[3]) 1=some (true,[I (p.getD (h*8+i) 0)])) an)<|zAd 2<|S_a [(9,.ret (I (max (p.getD (h*8+i) 0) ((List.take 8 (List.drop (o*8) now)).getD i 0))) [])] (ap (f165 (p.getD (h*8+i) 0) ((List.take 8 (List.drop (o*8) now)).getD i 0)) an)<|S_a [(2,.ob)] (ap ((by exact zAq (by omega)):decide (h<10)=true) an)<|S_a [(2,.ob)] (ap ((by exact zAq (by omega)):decide (i<8)=true) an)<|S_a [(8,.root ((PV.agg (zAS (p.set (h*8+i) (max (p.getD (h*8+i) 0) ((List.take 8 (List.drop (o*8) now)).getD i 0))) 80)).box) true)] (ap (zPR (zKx (q:=(PV.agg (zAS p 80)).box) (xs:=[PV.agg (zAS p 80)]) (x:=PV.agg (zAS p 80)) (y:=PV.agg (zAS (p.set (h*8+i) (max (p.getD (h*8+i) 0) ((List.take 8 (List.drop (o*8) now)).getD i 0))) 80)) (q':=(PV.agg (zAS (p.set (h*8+i) (max (p.getD (h*8+i) 0) ((List.take 8 (List.drop (o*8) now)).getD i 0))) 80)).box) rfl (zNx (F:=p) (m:=80) (j:=h*8+i) (u:=max (p.getD (h*8+i) 0) ((List.take 8 (List.drop (o*8) now)).getD i 0)) (by first | rfl | exact zBX (by kernel_rfl) | exact zBU (by kernel_rfl) | exact zDP (by kernel_rfl) (by kernel_rfl) | exact zC6 (by kernel_rfl) | exact zDU (by kernel_rfl) (by kernel_rfl) | exact zDF (by kernel_rfl) | (simp;done)) (by omega) (by omega)) rfl (hb:=zNv (F:=p) (m:=80) (j:=h*8+i) (by first | rfl | exact zBX (by kernel_rfl) | exact zBU (by kernel_rfl) | exact zDP (by kernel_rfl) (by kernel_rfl) | exact zC6 (by kernel_rfl) | exact zDU (by kernel_rfl) (by kernel_rfl) | exact zDF (by kernel_rfl) | (simp;done)) (by omega))) rfl:zBw (PV.agg (zAS p 80)).box [] 0 (0+(↑h:Int).toNat*(fun x=>x.size) Tryz.prog.types[128]+(↑i:Int).toNat*(fun x=>x.size) Tryz.prog.types[3]) (I (max (p.getD (h*8+i) 0) ((List.take 8 (List.drop (o*8) now)).getD i 0))).cells=some (PV.agg (zAS (p.set (h*8+i) (max (p.getD (h*8+i) 0) ((List.take 8 (List.drop (o*8) now)).getD i 0))) 80)).box∧zAE (PV.agg (zAS p 80)).box (PV.agg (zAS (p.set (h*8+i) (max (p.getD (h*8+i) 0) ((List.take 8 (List.drop (o*8) now)).getD i 0))) 80)).box []=true) an)<|zAa<|zAf<|S_a [(1,.v (I (↑(i+1):Int)))] (ap (wrN i) an)<|zAd 1<|zAa ?_
    exact ⟨(i+1,_),⟨by omega,yq.symm⟩,by simp only;omega,by kernel_rfl,by kernel_rfl⟩
   ·refine zAc 1<|zAa<|zAh<|zAT ((↑i:Int)<8) (by omega)<|zAz 4 ?_
    rw [show i=8 by omega] at hp
    exact ⟨by kernel_rfl,p,by rw [yT,hp],by kernel_rfl⟩
  ·rw [List.length_map,List.take_length] at hq
   show W _ _ _ _ _ _ _ _
   refine zAf<|S_a [(1,.v (I (↑(h+1):Int)))] (ap (wrN h) an)<|zAd 1<|zAa ?_
   exact ⟨(h+1,q),⟨by omega,by rw [yK,hq]⟩,by simp only;omega,by kernel_rfl,by kernel_rfl⟩
 ·have e:h=n.h.toNat:=by omega
  subst e
  refine zAc 1<|zAa<|zAh<|zAT ((↑n.h.toNat:Int)<n.h) (by omega)<|zAz 0<|zAc 2<|zAa<|zAm<|E_a [] an (PV.agg (zAS v 80)) [] ?_ rfl
  rw [hv];rfl
end Go.Eng
set_option maxRecDepth 10000
set_option maxHeartbeats 4000000
namespace Go.Eng
open Go Go.Proofs
def zS9 (n:Nw) (w:List Int) (h i:Nat):Bool:=decide (w.getD (h*8+((zAl n).getD i 0).toNat) 0=i)&&decide ((zA6 n).getD i 0≠i)
def zQf (n:Nw) (w:List Int) (h k:Nat):List (Int×Int):=((List.range k).filter fun i=>zS9 n w h i).map fun (i:Nat)=>((h:Int),(i:Int))
def zUi (n:Nw) (w:List Int) (h:Nat):List (Int×Int):=(List.range h).flatMap fun h=>zQf n w h n.n.length
def zBS (n:Nw) (w:List Int):List (Int×Int):=zUi n w n.h.toNat
theorem zQS {n:Nw} {w:List Int} {h k:Nat}:zQf n w h (k+1)=if zS9 n w h k=true then zQf n w h k++[((h:Int),(k:Int))] else zQf n w h k:=by
 unfold zQf;rw [List.range_succ,List.filter_append,List.map_append]
 by_cases hn:zS9 n w h k=true
 ·rw [if_pos hn];simp [hn]
 ·rw [if_neg hn];simp [hn]
theorem zMK {n:Nw} {w:List Int} {h:Nat}:zUi n w (h+1)=zUi n w h++zQf n w h n.n.length:=by
 unfold zUi;rw [List.range_succ,List.flatMap_append];simp
theorem zOa {n:Nw} {w:List Int} {h k:Nat}:(zQf n w h k).length≤k:=by
 unfold zQf;rw [List.length_map];exact Nat.le_trans (List.length_filter_le _ _) (by simp)
theorem zLm {n:Nw} {w:List Int}:∀ h,(zUi n w h).length≤h*n.n.length
 | 0=>by simp [zUi]
 | h+1=>by
  have h1:=zLm (n:=n) (w:=w) h
  have h2:=zOa (n:=n) (w:=w) (h:=h) (k:=n.n.length)
  rw [zMK,List.length_append,Nat.succ_mul];omega
theorem zIV {n:Nw} {w:List Int} (ho:NwOk n):(zBS n w).length≤80:=by
 have h1:=zLm (n:=n) (w:=w) n.h.toNat
 have h2:=ho.h
 have h3:=ho.nl
 have h4:n.h.toNat*n.n.length≤10*8:=Nat.mul_le_mul (by omega) (by omega)
 unfold zBS;omega
theorem f92 (n:Nw) (cs:List (Int×Int)) (e:Int) (ho:CrW n cs) (he:0≤e∧e≤1000):FG 92 [zDv n cs,I e] (hdV (zBl n cs e.toNat)):=by
 have hn:=ho.nw
 refine zAe Tryz.f92 ?_
 refine zAc 1<|zAa<|zAc 1<|S_a [(5,.ret (hdV (zPf n cs)) [])] (ap (f100 n cs (by omega)) an)<|zAd 2<|zAa<|zAh<|zAc 2<|zAa<|zAi 0 ?_
 refine zAp (fun (k,w)=>k≤e.toNat∧w=zBl n cs k) (fun (k,w)=>[(5,.box (hdV w)),(9,I (k:Nat))]) (fun (k,_)=>e.toNat-k) ((0:Nat),zPf n cs) ⟨by omega,rfl⟩ fun (k,w) ⟨hk,hw⟩=>?_
 have gi:w.length=80:=by rw [hw];exact zCJ k
 by_cases uP:(k:Int)<e
 ·refine zAc 1<|zAa<|zAh<|zAU ((↑k:Int)<e) (by omega)<|zAj<|zAh<|zAi 1<|zAf<|zAd 2<|S_a [(7,.ret (hdV (zDH n w)) [])] (ap (f101 n cs w (by omega) (by omega)) an)<|zAd 1<|zAa<|zAf<|S_a [(1,.v (I (↑(k+1):Int)))] (ap (wrN k) an)<|zAd 1<|zAa ?_
  exact ⟨(k+1,zDH n w),⟨by omega,by rw [hw];rfl⟩,by simp only;omega,by kernel_rfl,by kernel_rfl⟩
 ·refine zAc 1<|zAa<|zAh<|zAT ((↑k:Int)<e) (by omega)<|zAz 0<|zAc 2<|zAa<|zAm<|E_a [] an (PV.agg (zAS w 80)) [] ?_ rfl
  rw [hw,show k=e.toNat by omega]
theorem f91 (n:Nw) (cs:List (Int×Int)) (w:List Int) (ho:NwOk n) (hw:w.length=80):FG 91 [zDv n cs,hdV w] (.own 2 ((zBS n w).map prV)):=by
 have hb:=ho.h
 have uH:=ho.nl
 refine zAe Tryz.f91 ?_
 refine zAc 2<|zAa<|zAc 1<|zAa<|zAh<|zAc 6<|zAa<|zAi 0 ?_
 refine zAp (fun (h,l)=>h≤n.h.toNat∧l=zUi n w h) (fun (h,l)=>[(5,.own 2 (l.map prV)),(13,I (h:Nat))]) (fun (h,_)=>n.h.toNat-h) ((0:Nat),([]:List (Int×Int))) ⟨by omega,rfl⟩ fun (h,l) ⟨hh,hl⟩=>?_
 have vg:l.length≤h*8:=by
  have h1:=zLm (n:=n) (w:=w) h
  rw [← hl] at h1
  exact Nat.le_trans h1 (Nat.mul_le_mul (Nat.le_refl _) (by omega))
 by_cases hhl:(h:Int)<n.h
 ·have yK:=zMK (n:=n) (w:=w) (h:=h)
  rw [← hl] at yK
  refine zAc 1<|zAa<|zAh<|zAU ((↑h:Int)<n.h) (by omega)<|zAj<|zAh<|zAi 1<|zAc 2<|zAa<|zAc 5<|S_a [(0,.n n.n.length)] (ap (lnS ntV n.n) an)<|zAd 1<|zAa<|zAi 2 ?_
  refine zAp (fun (i,m)=>i≤n.n.length∧m=l++zQf n w h i) (fun (i,m)=>[(5,.own 2 (m.map prV)),(22,I (i:Nat))]) (fun (i,_)=>n.n.length-i) ((0:Nat),l) ⟨by omega,by simp [zQf]⟩ fun (i,m) ⟨hi,hm⟩=>?_
  have hml:m.length≤88:=by
   have:=zOa (n:=n) (w:=w) (h:=h) (k:=i)
   rw [hm,List.length_append];omega
  by_cases yG:i<n.n.length
  ·have yq:=zQS (n:=n) (w:=w) (h:=h) (k:=i)
   have hfb:=zB4 ho i yG
   have gy:0≤(zAl n).getD i 0∧(zAl n).getD i 0<8:=by omega
   clear yK
   have kH:zS9 n w h i=false→m=l++zQf n w h (i+1):=fun hg=>by rw [yq,if_neg (by rw [hg];simp)];exact hm
   refine zAc 1<|zAa<|zAh<|zAU ((↑i:Int)<(↑n.n.length:Int)) (by omega)<|zAj<|zAh<|zAi 3<|zAc 2<|zAa<|zAc 5<|S_a [(2,.ob),(0,.v ((I ((zAl n).getD i 0)).ref))] (ap ((by exact zAq (by omega)):decide (i<8)=true)<|ap (zGG (F:=zAl n) (m:=8) (j:=i) (by omega):zCd (PV.agg (zAS (zAl n) 8)).ref (i*(fun x=>x.size) Tryz.prog.types[3]) none=some (I ((zAl n).getD i 0)).ref) an)<|zAd 1<|S_a [(2,.ob)] (ap ((by exact zAq (by omega)):decide (h<10)=true) an)<|S_a [(0,.ob),(1,.ob)] (ap ((by exact zAq (by omega)):decide (0≤(zAl n).getD i 0)=true)<|ap ((by exact zAq (by omega)):decide (((zAl n).getD i 0).toNat<8)=true) an)<|S_a [(0,.cs true ([I (w.getD (h*8+((zAl n).getD i 0).toNat) 0)]))] (ap (zDM (q:=(PV.agg (zAS w 80)).box) (xs:=[PV.agg (zAS w 80)]) (x:=PV.agg (zAS w 80)) rfl rfl (zE7 (F:=w) (m:=80) (j:=h*8+((zAl n).getD i 0).toNat) (by first | rfl | exact zBX (by kernel_rfl) | exact zBU (by kernel_rfl) | exact zDP (by kernel_rfl) (by kernel_rfl) | exact zC6 (by kernel_rfl) | exact zDU (by kernel_rfl) (by kernel_rfl) | exact zDF (by kernel_rfl) | (simp;done)) (by omega)):zAv 3 (PV.agg (zAS w 80)).box [] 0 (0+(↑h:Int).toNat*(fun x=>x.size) Tryz.prog.types[128]+((zAl n).getD i 0).toNat*(fun x=>x.size) Tryz.prog.types[3]) 1=some (true,[I (w.getD (h*8+((zAl n).getD i 0).toNat) 0)])) an)<|zAd 3<|zET 37 (w.getD (h*8+((zAl n).getD i 0).toNat) 0=(↑i:Int)) (fun k0=>(zAd 4<|S_a [(2,.ob),(0,.v ((I ((zA6 n).getD i 0)).ref))] (ap ((by exact zAq (by omega)):decide (i<8)=true)<|ap (zGG (F:=zA6 n) (m:=8) (j:=i) (by omega):zCd (PV.agg (zAS (zA6 n) 8)).ref (i*(fun x=>x.size) Tryz.prog.types[3]) none=some (I ((zA6 n).getD i 0)).ref) an)<|zAd 4<|zAa<|zDb ((zA6 n).getD i 0=(↑i:Int)) (fun k1=>(zAf<|zAd 5<|S_a [(4,.ob),(0,.ob),(0,.yes),(2,.v (PV.own 2 (List.map prV (m++[((↑h:Int),(↑i:Int))]))))] (ap (blz (List.map prV m))<|ap ((by exact zBp (by simp only [List.length_map,zzLn,zAZ]<;>omega)):((List.map prV m).length + [PV.agg [I (↑h:Int),I (↑i:Int)]].length).ble zAZ=true)<|ap ((by exact zBs (by simp<;>omega)):(0+(List.map prV m).length).beq (List.map prV m).length=true)<|ap ((zAM (zCh (by kernel_rfl))):PV.own 2 (List.map prV m++[PV.agg [I (↑h:Int),I (↑i:Int)]])=PV.own 2 (List.map prV (m++[((↑h:Int),(↑i:Int))]))) an)<|zAd 1<|zAa<|zAf<|S_a [(1,.v (I (↑(i+1):Int)))] (ap (wrN i) an)<|zAd 1<|zAa ?_)) (fun k1=>(zAj<|zAf<|S_a [(1,.v (I (↑(i+1):Int)))] (ap (wrN i) an)<|zAd 1<|zAa ?_)))) (fun k0=>(zAd 9<|zAa<|zAW<|zAj<|zAf<|S_a [(1,.v (I (↑(i+1):Int)))] (ap (wrN i) an)<|zAd 1<|zAa ?_))
   ·have hg:zS9 n w h i=true:=by simp only [zS9,decide_eq_true k0,Bool.true_and,decide_eq_true_eq];exact k1
    exact ⟨(i+1,m++[((h:Int),(i:Int))]),⟨by omega,by rw [yq,if_pos hg,hm,List.append_assoc]⟩,by simp only;omega,by kernel_rfl,by kernel_rfl⟩
   ·exact ⟨(i+1,m),⟨by omega,kH (by simp only [zS9,decide_eq_true k0,Bool.true_and,decide_eq_false_iff_not];exact fun h=>h k1)⟩,by simp only;omega,by kernel_rfl,by kernel_rfl⟩
   ·exact ⟨(i+1,m),⟨by omega,kH (by simp only [zS9,decide_eq_false k0,Bool.false_and])⟩,by simp only;omega,by kernel_rfl,by kernel_rfl⟩
  ·refine zAc 1<|zAa<|zAh<|zAT ((↑i:Int)<(↑n.n.length:Int)) (by omega)<|zAz 2<|zAf<|S_a [(1,.v (I (↑(h+1):Int)))] (ap (wrN h) an)<|zAd 1<|zAa ?_
   exact ⟨(h+1,m),⟨by omega,by rw [yK,hm,show i=n.n.length by omega]⟩,by simp only;omega,by kernel_rfl,by kernel_rfl⟩
 ·have e:h=n.h.toNat:=by omega
  subst e
  refine zAc 1<|zAa<|zAh<|zAT ((↑n.h.toNat:Int)<n.h) (by omega)<|zAz 0<|zAc 1<|S_a [(2,.yes)] (ap ((by exact zBs (by simp<;>omega)):(Nat.beq 0 0&&(List.map prV l).length.beq (List.map prV l).length)=true) an)<|zAa<|zAm<|E_a [(1,.yes),(1,.v (PV.own 2 (List.map prV l)))] (ap (blz (List.map prV l))<|ap ((zAM zAG):PV.own 2 (List.take (List.map prV l).length (List.drop 0 (List.map prV l)))=PV.own 2 (List.map prV l)) an) (PV.own 2 (List.map prV l)) [] ?_ rfl
  rw [hl];rfl
theorem f22_1 (n:Nw) (cs:List (Int×Int)) (e:Int) (ho:EvOk n cs e):FG 22 [nwV n,prs cs,I e] (.tup [.own 2 ((zBS n (zBl n cs e.toNat)).map prV),I 0]):=by
 have hc:=ho.cr
 have uV:=hc.w
 have hn:=hc.nw
 have he:=ho.ev
 have hw:=zCJ (n:=n) (cs:=cs) e.toNat
 refine zAe Tryz.f22 ?_
 refine zAc 3<|zAa<|zAc 3<|S_a [(10,.ret (PV.tup [zDv n cs,I 0]) [])] (ap (f90_1 n cs e (by omega)) an)<|zAd 5<|zAa<|zAh<|zAc 2<|zAa<|zAW<|zAj<|zAc 3<|S_a [(7,.ret (hdV (zBl n cs e.toNat)) [])] (ap (f92 n cs e (by omega) (by omega)) an)<|S_a [(7,.ret (PV.own 2 (List.map prV (zBS n (zBl n cs e.toNat)))) [])] (ap (f91 n cs (zBl n cs e.toNat) (by omega) (by omega)) an)<|zAd 2<|zAa<|zAm<|E_a [(1,.yes),(1,.v (PV.own 2 (List.map prV (zBS n (zBl n cs e.toNat)))))] (ap (blz (List.map prV (zBS n (zBl n cs e.toNat))))<|ap ((zAM zAG):PV.own 2 (List.take (List.map prV (zBS n (zBl n cs e.toNat))).length (List.drop 0 (List.map prV (zBS n (zBl n cs e.toNat)))))=PV.own 2 (List.map prV (zBS n (zBl n cs e.toNat)))) an) (PV.tup [PV.own 2 (List.map prV (zBS n (zBl n cs e.toNat))),I 0]) [] rfl rfl
def msl (n:Nw) (l:List (Int×Int)):List Int:=(l.filter fun g => !(n.n.getD g.2.toNat default).2).map Prod.fst
theorem zTj {n:Nw} {l:List (Int×Int)} {i:Nat} (hi:i<l.length):msl n (l.take (i+1))=if (n.n.getD (l.getD i default).2.toNat default).2=true then msl n (l.take i) else msl n (l.take i)++[(l.getD i default).1]:=by
 unfold msl;rw [zBP (d:=default) hi,List.filter_append,List.map_append]
 generalize l.getD i default=g
 cases hb:(n.n.getD g.2.toNat default).2
 ·rw [List.filter_cons_of_pos (by rw [hb];rfl)];rfl
 ·rw [List.filter_cons_of_neg (by rw [hb];simp)];simp
theorem zVw {n:Nw} {w:List Int} {g:Int×Int} (hg:g∈zBS n w):∃ h i:Nat,h<n.h.toNat∧i<n.n.length∧g=((h:Int),(i:Int))∧zS9 n w h i=true:=by
 simp only [zBS,zUi,List.mem_flatMap,List.mem_range,zQf,List.mem_map,List.mem_filter] at hg
 obtain ⟨h,hh,i,⟨hi,hb⟩,rfl⟩:=hg
 exact ⟨h,i,hh,hi,rfl,hb⟩
theorem f26_1 (n:Nw) (cs:List (Int×Int)) (e:Int) (ho:EvOk n cs e):FG 26 [nwV n,prs cs,I e] (.tup [.own 1 ((zEy (msl n (zBS n (zBl n cs e.toNat)))).map I),I 0]):=by
 have hn:=ho.cr.nw
 have hZ:=zIV (w:=zBl n cs e.toNat) hn
 have yv:∀ g∈zBS n (zBl n cs e.toNat),0≤g.2∧g.2<n.n.length:=fun g hg=>by
  obtain ⟨h,i,h1,h2,rfl,_⟩:=zVw hg
  simp only;omega
 have h1:=f22_1 n cs e ho
 generalize zBS n (zBl n cs e.toNat)=G at *
 refine zAe Tryz.f26 ?_
 refine zAc 3<|zAa<|zAc 3<|S_a [(10,.ret (PV.tup [PV.own 2 (List.map prV G),I 0]) [])] (ap h1 an)<|zAd 5<|zAa<|zAh<|zAc 2<|zAa<|zAW<|zAj<|zAc 1<|zAa<|zAh<|zAc 1<|S_a [(0,.n G.length)] (ap (lnS prV G) an)<|zAd 1<|zAa<|zAi 0 ?_
 refine zAp (fun (i,l)=>i≤G.length∧l=msl n (G.take i)) (fun (i,l)=>[(10,.own 1 (l.map I)),(25,I (i:Nat))]) (fun (i,_)=>G.length-i) ((0:Nat),([]:List Int)) ⟨by omega,by simp [msl]⟩ fun (i,l) ⟨hi,hl⟩=>?_
 have vg:l.length≤i:=by
  rw [hl,msl,List.length_map]
  exact Nat.le_trans (List.length_filter_le _ _) (by rw [List.length_take];omega)
 by_cases yG:i<G.length
 ·have yT:=zTj (n:=n) yG
  rw [← hl] at yT
  have hgi:=zBA (d:=default) yv i yG
  clear h1 yv
  refine zAc 1<|zAa<|zAh<|zAU ((↑i:Int)<(↑G.length:Int)) (by omega)<|zAj<|zAh<|zAi 1<|zAh<|zAf<|S_a [(2,.ob),(1,.n i)] (ap ((by exact zAq (by simp only [List.length_map,zzLn]<;>omega)):decide (i<(List.map prV G).length)=true)<|ap ((by simp):some (0+i)=some i) an)<|S_a [(0,.cs true ([I (G.getD i default).fst,I (G.getD i default).snd]))] (ap (zDM (q:=PV.own 2 (List.map prV G)) (xs:=List.map prV G) (x:=PV.agg [I (G.getD i default).fst,I (G.getD i default).snd]) rfl (zBG default (by omega)):zAv 8 (PV.own 2 (List.map prV G)) [] i 0 Tryz.prog.types[108].size=some (true,[I (G.getD i default).fst,I (G.getD i default).snd])) an)<|zAd 2<|zAa<|zAc 4<|S_a [(0,.ob),(1,.v (PV.agg [I (n.n.getD (G.getD i default).snd.toNat default).fst,PV.bool (n.n.getD (G.getD i default).snd.toNat default).snd]))] (ap ((by exact zAq (by omega)):decide (0≤(G.getD i default).snd)=true)<|ap (zBG default (by omega):(List.map ntV n.n)[(G.getD i default).snd.toNat]? = some (PV.agg [I (n.n.getD (G.getD i default).snd.toNat default).fst,PV.bool (n.n.getD (G.getD i default).snd.toNat default).snd])) an)<|zAd 3<|zAa<|zDr (!(n.n.getD (G.getD i default).snd.toNat default).snd) (fun k0=>(zAf<|zAd 4<|S_a [(4,.ob),(0,.ob),(0,.yes),(2,.v (PV.own 1 (List.map I (l++[(G.getD i default).fst]))))] (ap (blz (List.map I l))<|ap ((by exact zBp (by simp only [List.length_map,zzLn,zAZ]<;>omega)):((List.map I l).length + [I (G.getD i default).fst].length).ble zAZ=true)<|ap ((by exact zBs (by simp<;>omega)):(0+(List.map I l).length).beq (List.map I l).length=true)<|ap ((zAM (zCh (by kernel_rfl))):PV.own 1 (List.map I l++[I (G.getD i default).fst])=PV.own 1 (List.map I (l++[(G.getD i default).fst]))) an)<|zAd 1<|zAa<|zAf<|S_a [(1,.v (I (↑(i+1):Int)))] (ap (wrN i) an)<|zAd 1<|zAa ?_)) (fun k0=>(zAj<|zAf<|S_a [(1,.v (I (↑(i+1):Int)))] (ap (wrN i) an)<|zAd 1<|zAa ?_))
  ·rw [Bool.not_eq_true'] at k0
   rw [if_neg (by rw [k0];simp)] at yT
   exact ⟨(i+1,l++[(G.getD i default).1]),⟨by omega,yT.symm⟩,by simp only;omega,by kernel_rfl,by kernel_rfl⟩
  ·rw [Bool.not_eq_false'] at k0
   rw [if_pos k0] at yT
   exact ⟨(i+1,l),⟨by omega,yT.symm⟩,by simp only;omega,by kernel_rfl,by kernel_rfl⟩
 ·rw [List.take_of_length_le (by omega)] at hl
  rw [← hl]
  clear h1 yv
  refine zAc 1<|zAa<|zAh<|zAT ((↑i:Int)<(↑G.length:Int)) (by omega)<|zAz 0<|zAc 1<|S_a [(3,.ob),(1,.v (PV.own 1 (List.map I l))),(2,.ret (PV.own 1 (List.map I (zEy l))) [])] (ap ((by exact zBp (by simp only [List.length_map,zzLn,zAZ]<;>omega)):(List.map I l).length.ble (List.map I l).length=true)<|ap ((zAM zAG):PV.own 1 (List.take (List.map I l).length (List.drop 0 (List.map I l)))=PV.own 1 (List.map I l))<|ap (f97 l (by omega)) an)<|zAd 2<|zAa<|zAm<|E_a [(1,.yes),(1,.v (PV.own 1 (List.map I (zEy l))))] (ap (blz (List.map I (zEy l)))<|ap ((zAM zAG):PV.own 1 (List.take (List.map I (zEy l)).length (List.drop 0 (List.map I (zEy l))))=PV.own 1 (List.map I (zEy l))) an) (PV.tup [PV.own 1 (List.map I (zEy l)),I 0]) [] rfl rfl
theorem f29_1 (n:Nw) (cs:List (Int×Int)) (k:Nat) (ho:CrOk n cs) (hk:k≤1000) (he:zBl n cs (k+1)=zBl n cs k) (hm:∀ j,j<k→zBl n cs (j+1)≠zBl n cs j):FG 29 [nwV n,prs cs] (.tup [I k,I 0]):=by
 have hn:=ho.nw
 have uV:=ho.w
 have y7:=zOI (n:=n) (cs:=cs)
 refine zAe Tryz.f29 ?_
 refine zAc 3<|zAa<|zAc 2<|S_a [(8,.ret (PV.tup [zDv n cs,I 0]) [])] (ap (f99_1 n cs (by omega)) an)<|zAd 5<|zAa<|zAh<|zAc 2<|zAa<|zAW<|zAj<|zAc 1<|S_a [(5,.ret (hdV (zPf n cs)) [])] (ap (f100 n cs (by omega)) an)<|zAd 3<|zAa<|zAh<|zAc 2<|S_a [(7,.ret (hdV (zDH n (zPf n cs))) [])] (ap (f101 n cs (zPf n cs) (by omega) (by omega)) an)<|zAd 2<|zAa<|zAi 0 ?_
 refine zAp (fun j=>j≤k) (fun (j:Nat)=>[(8,I (j:Nat)),(9,.box (hdV (zBl n cs j))),(10,.box (hdV (zBl n cs (j+1))))]) (fun j=>k-j) (0:Nat) (by omega) fun j hj=>?_
 have wk:=zCJ (n:=n) (cs:=cs) j
 have hl2:=zCJ (n:=n) (cs:=cs) (j+1)
 by_cases qm:j<k
 ·have hI:=hm j qm
  refine zAh<|zAc 2<|S_a [(0,.v (PV.bool !decide (zBl n cs (j+1)=zBl n cs j)))] (ap (zSb 80 (by omega) (by omega):zJT Tryz.prog BinOp.neq 130 (PV.agg (zAS (zBl n cs (j+1)) 80)) (PV.agg (zAS (zBl n cs j) 80))=some (PV.bool !decide (zBl n cs (j+1)=zBl n cs j))) an)<|zAa<|zDm (zBl n cs (j+1)=zBl n cs j) (by omega)<|zAj<|zAh<|zAi 1<|zAc 2<|zAa<|zAf<|zAd 1<|S_a [(1,.v (I (↑(j+1):Int)))] (ap (wrN j) an)<|zAd 1<|zAa<|zAh<|zAc 1<|zAa<|zAf<|zAd 2<|zAa<|zAf<|zAd 2<|S_a [(7,.ret (hdV (zDH n (zBl n cs (j+1)))) [])] (ap (f101 n cs (zBl n cs (j+1)) (by omega) (by omega)) an)<|zAd 1<|zAa ?_
  exact ⟨j+1,by omega,by omega,by kernel_rfl,by kernel_rfl⟩
 ·have e:j=k:=by omega
  subst e
  refine zAh<|zAc 2<|S_a [(0,.v (PV.bool !decide (zBl n cs (j+1)=zBl n cs j)))] (ap (zSb 80 (by omega) (by omega):zJT Tryz.prog BinOp.neq 130 (PV.agg (zAS (zBl n cs (j+1)) 80)) (PV.agg (zAS (zBl n cs j) 80))=some (PV.bool !decide (zBl n cs (j+1)=zBl n cs j))) an)<|zAa<|zEt (zBl n cs (j+1)=zBl n cs j) (by omega)<|zAz 0<|zAc 3<|zAa<|zAm<|E_a [] an (PV.tup [I (↑j:Int),I 0]) [] rfl rfl
def zVf (n:Nw) (cs:List (Int×Int)) (k:Nat):Int:=(List.range k).foldl (fun a k=>if zBS n (zBl n cs k)=[] then a else (k:Int)+1) 0
theorem zR0 {n:Nw} {cs:List (Int×Int)} {k:Nat}:zVf n cs (k+1)=if zBS n (zBl n cs k)=[] then zVf n cs k else (k:Int)+1:=by
 simp only [zVf,List.range_succ,List.foldl_append,List.foldl_cons,List.foldl_nil]
theorem f31_1 (n:Nw) (cs:List (Int×Int)) (ho:CrOk n cs):FG 31 [nwV n,prs cs] (.tup [if zBS n (zBl n cs 12)=[] then I (zVf n cs 12) else I 0,if zBS n (zBl n cs 12)=[] then I 0 else I 6]):=by
 have hn:=ho.nw
 have uV:=ho.w
 refine zAe Tryz.f31 ?_
 refine zAc 3<|zAa<|zAc 2<|S_a [(8,.ret (PV.tup [zDv n cs,I 0]) [])] (ap (f99_1 n cs (by omega)) an)<|zAd 5<|zAa<|zAh<|zAc 2<|zAa<|zAW<|zAj<|zAc 1<|S_a [(5,.ret (hdV (zPf n cs)) [])] (ap (f100 n cs (by omega)) an)<|zAd 3<|zAa<|zAh<|zAc 1<|zAa<|zAi 0 ?_
 refine zAp (fun k=>k≤12) (fun (k:Nat)=>[(8,I (zVf n cs k)),(9,.box (hdV (zBl n cs k))),(22,I (k:Nat))]) (fun k=>12-k) (0:Nat) (by omega) fun k hk=>?_
 have wk:=zCJ (n:=n) (cs:=cs) k
 have hgl:=zIV (w:=zBl n cs k) hn
 by_cases uP:k<12
 ·have yq:=zR0 (n:=n) (cs:=cs) (k:=k)
  refine zAc 1<|zAa<|zAh<|zAU ((↑k:Int)<12) (by omega)<|zAj<|zAh<|zAi 1<|zAc 2<|zAa<|zAh<|zAc 2<|S_a [(7,.ret (PV.own 2 (List.map prV (zBS n (zBl n cs k)))) [])] (ap (f91 n cs (zBl n cs k) (by omega) (by omega)) an)<|S_a [(0,.n ((zBS n (zBl n cs k)).length))] (ap (lnS prV (zBS n (zBl n cs k))) an)<|zAd 1<|zAa<|zCb ((↑(zBS n (zBl n cs k)).length:Int)>0) (fun k1=>(zAf<|zAd 1<|S_a [(1,.v (I (↑(k+1):Int)))] (ap (wrN k) an)<|zAd 1<|zAa<|zAf<|zAd 2<|S_a [(7,.ret (hdV (zDH n (zBl n cs k))) [])] (ap (f101 n cs (zBl n cs k) (by omega) (by omega)) an)<|zAd 1<|zAa<|zAf<|S_a [(1,.v (I (↑(k+1):Int)))] (ap (wrN k) an)<|zAd 1<|zAa ?_)) (fun k1=>(zAj<|zAf<|zAd 2<|S_a [(7,.ret (hdV (zDH n (zBl n cs k))) [])] (ap (f101 n cs (zBl n cs k) (by omega) (by omega)) an)<|zAd 1<|zAa<|zAf<|S_a [(1,.v (I (↑(k+1):Int)))] (ap (wrN k) an)<|zAd 1<|zAa ?_))
  ·rw [if_neg (by intro h;rw [h] at k1;simp at k1)] at yq
   exact ⟨k+1,by omega,by omega,by rw [yq];kernel_rfl,by kernel_rfl⟩
  ·rw [if_pos (List.eq_nil_of_length_eq_zero (by omega))] at yq
   exact ⟨k+1,by omega,by omega,by rw [yq];kernel_rfl,by kernel_rfl⟩
 ·have e:k=12:=by omega
  subst e
  refine zAc 1<|zAa<|zAh<|zAW<|zAz 0<|zAh<|zAc 2<|S_a [(7,.ret (PV.own 2 (List.map prV (zBS n (zBl n cs 12)))) [])] (ap (f91 n cs (zBl n cs 12) (by omega) (by omega)) an)<|S_a [(0,.n ((zBS n (zBl n cs 12)).length))] (ap (lnS prV (zBS n (zBl n cs 12))) an)<|zAd 1<|zAa<|zCb ((↑(zBS n (zBl n cs 12)).length:Int)>0) (fun k0=>(zAc 2<|zAa<|zAm<|E_a [] an (PV.tup [I 0,I 6]) [] ?_ rfl)) (fun k0=>(zAj<|zAc 3<|zAa<|zAm<|E_a [] an (PV.tup [I (zVf n cs 12),I 0]) [] ?_ rfl))
  ·have h:¬ zBS n (zBl n cs 12)=[]:=by intro h;rw [h] at k0;simp at k0
   rw [if_neg h,if_neg h]
  ·have h:zBS n (zBl n cs 12)=[]:=List.eq_nil_of_length_eq_zero (by omega)
   rw [if_pos h,if_pos h]
end Go.Eng
set_option maxRecDepth 10000
set_option maxHeartbeats 4000000
namespace Go.Eng
open Go Go.Proofs
theorem zT0 {n:Nw} {cs:List (Int×Int)} {c:Int×Int} (h:CrW n cs) (hl:cs.length<1000) (hc:(0≤c.1∧c.1<n.n.length)∧(0≤c.2∧c.2<n.s.length)):CrW n (cs++[c]) :=
 ⟨h.nw,by simp;omega,fun x hx=>by
  rcases List.mem_append.1 hx with h1 | h1
  ·exact h.cs x h1
  ·rw [List.mem_singleton] at h1;subst h1;exact hc⟩
theorem zYF (n:Nw) (c:Int×Int):FG 171 [zDv n [],prV c] (.box (zCt n (.own 2 (([]++[c]).map prV)) (mapM (n.l.map pr2)) (zAl n) (zA6 n))):=by
 refine zAe Tryz.f171 ?_
 refine zAc 2<|zAa<|zAc 5<|zAa<|zAc 4<|zAd 1<|zAd 4<|zAd 1<|zAd 1<|zAd 3<|zAa<|zAc 1<|zAd 1<|zAd 4<|zAd 1<|zAa<|zAc 1<|zAd 1<|zAd 5<|zAa<|zAc 1<|zAa<|zAm<|E_a [] an ((PV.agg (I n.h::prs n.l::PV.sl (List.map ntV n.n)::PV.sl (List.map zAP n.s)::PV.own 2 [PV.agg [I c.fst,I c.snd]]::PV.map (List.map zBx (List.map pr2 n.l))::(zAS (zAl n) 8++zAS (zA6 n) 8))).box) [] rfl rfl
theorem zYD (n:Nw) (c:Int×Int) (x0:Int×Int):FG 171 [zDv n [x0],prV c] (.box (zCt n (.own 2 (([x0]++[c]).map prV)) (mapM (n.l.map pr2)) (zAl n) (zA6 n))):=by
 refine zAe Tryz.f171 ?_
 refine zAc 2<|zAa<|zAc 5<|zAa<|zAc 4<|zAd 1<|zAd 4<|zAd 1<|zAd 1<|zAd 3<|zAa<|zAc 1<|zAd 1<|zAd 4<|zAd 1<|zAa<|zAc 1<|zAd 1<|zAd 5<|zAa<|zAc 1<|zAa<|zAm<|E_a [] an ((PV.agg (I n.h::prs n.l::PV.sl (List.map ntV n.n)::PV.sl (List.map zAP n.s)::PV.own 2 [PV.agg [I x0.fst,I x0.snd],PV.agg [I c.fst,I c.snd]]::PV.map (List.map zBx (List.map pr2 n.l))::(zAS (zAl n) 8++zAS (zA6 n) 8))).box) [] rfl rfl
theorem zXT (n:Nw) (c:Int×Int) (x0 x1:Int×Int):FG 171 [zDv n [x0,x1],prV c] (.box (zCt n (.own 2 (([x0,x1]++[c]).map prV)) (mapM (n.l.map pr2)) (zAl n) (zA6 n))):=by
 refine zAe Tryz.f171 ?_
 refine zAc 2<|zAa<|zAc 5<|zAa<|zAc 4<|zAd 1<|zAd 4<|zAd 1<|zAd 1<|zAd 3<|zAa<|zAc 1<|zAd 1<|zAd 4<|zAd 1<|zAa<|zAc 1<|zAd 1<|zAd 5<|zAa<|zAc 1<|zAa<|zAm<|E_a [] an ((PV.agg (I n.h::prs n.l::PV.sl (List.map ntV n.n)::PV.sl (List.map zAP n.s)::PV.own 2 [PV.agg [I x0.fst,I x0.snd],PV.agg [I x1.fst,I x1.snd],PV.agg [I c.fst,I c.snd]]::PV.map (List.map zBx (List.map pr2 n.l))::(zAS (zAl n) 8++zAS (zA6 n) 8))).box) [] rfl rfl
theorem zY5 (n:Nw) (c:Int×Int) (x0 x1 x2:Int×Int):FG 171 [zDv n [x0,x1,x2],prV c] (.box (zCt n (.own 2 (([x0,x1,x2]++[c]).map prV)) (mapM (n.l.map pr2)) (zAl n) (zA6 n))):=by
 refine zAe Tryz.f171 ?_
 refine zAc 2<|zAa<|zAc 5<|zAa<|zAc 4<|zAd 1<|zAd 4<|zAd 1<|zAd 1<|zAd 3<|zAa<|zAc 1<|zAd 1<|zAd 4<|zAd 1<|zAa<|zAc 1<|zAd 1<|zAd 5<|zAa<|zAc 1<|zAa<|zAm<|E_a [] an ((PV.agg (I n.h::prs n.l::PV.sl (List.map ntV n.n)::PV.sl (List.map zAP n.s)::PV.own 2 [PV.agg [I x0.fst,I x0.snd],PV.agg [I x1.fst,I x1.snd],PV.agg [I x2.fst,I x2.snd],PV.agg [I c.fst,I c.snd]]::PV.map (List.map zBx (List.map pr2 n.l))::(zAS (zAl n) 8++zAS (zA6 n) 8))).box) [] rfl rfl
theorem zXq (n:Nw) (c:Int×Int) (x0 x1 x2 x3:Int×Int):FG 171 [zDv n [x0,x1,x2,x3],prV c] (.box (zCt n (.own 2 (([x0,x1,x2,x3]++[c]).map prV)) (mapM (n.l.map pr2)) (zAl n) (zA6 n))):=by
 refine zAe Tryz.f171 ?_
 refine zAc 2<|zAa<|zAc 5<|zAa<|zAc 4<|zAd 1<|zAd 4<|zAd 1<|zAd 1<|zAd 3<|zAa<|zAc 1<|zAd 1<|zAd 4<|zAd 1<|zAa<|zAc 1<|zAd 1<|zAd 5<|zAa<|zAc 1<|zAa<|zAm<|E_a [] an ((PV.agg (I n.h::prs n.l::PV.sl (List.map ntV n.n)::PV.sl (List.map zAP n.s)::PV.own 2 [PV.agg [I x0.fst,I x0.snd],PV.agg [I x1.fst,I x1.snd],PV.agg [I x2.fst,I x2.snd],PV.agg [I x3.fst,I x3.snd],PV.agg [I c.fst,I c.snd]]::PV.map (List.map zBx (List.map pr2 n.l))::(zAS (zAl n) 8++zAS (zA6 n) 8))).box) [] rfl rfl
theorem zXN (n:Nw) (c:Int×Int) (x0 x1 x2 x3 x4:Int×Int):FG 171 [zDv n [x0,x1,x2,x3,x4],prV c] (.box (zCt n (.own 2 (([x0,x1,x2,x3,x4]++[c]).map prV)) (mapM (n.l.map pr2)) (zAl n) (zA6 n))):=by
 refine zAe Tryz.f171 ?_
 refine zAc 2<|zAa<|zAc 5<|zAa<|zAc 4<|zAd 1<|zAd 4<|zAd 1<|zAd 1<|zAd 3<|zAa<|zAc 1<|zAd 1<|zAd 4<|zAd 1<|zAa<|zAc 1<|zAd 1<|zAd 5<|zAa<|zAc 1<|zAa<|zAm<|E_a [] an ((PV.agg (I n.h::prs n.l::PV.sl (List.map ntV n.n)::PV.sl (List.map zAP n.s)::PV.own 2 [PV.agg [I x0.fst,I x0.snd],PV.agg [I x1.fst,I x1.snd],PV.agg [I x2.fst,I x2.snd],PV.agg [I x3.fst,I x3.snd],PV.agg [I x4.fst,I x4.snd],PV.agg [I c.fst,I c.snd]]::PV.map (List.map zBx (List.map pr2 n.l))::(zAS (zAl n) 8++zAS (zA6 n) 8))).box) [] rfl rfl
theorem zXD (n:Nw) (c:Int×Int) (x0 x1 x2 x3 x4 x5:Int×Int):FG 171 [zDv n [x0,x1,x2,x3,x4,x5],prV c] (.box (zCt n (.own 2 (([x0,x1,x2,x3,x4,x5]++[c]).map prV)) (mapM (n.l.map pr2)) (zAl n) (zA6 n))):=by
 refine zAe Tryz.f171 ?_
 refine zAc 2<|zAa<|zAc 5<|zAa<|zAc 4<|zAd 1<|zAd 4<|zAd 1<|zAd 1<|zAd 3<|zAa<|zAc 1<|zAd 1<|zAd 4<|zAd 1<|zAa<|zAc 1<|zAd 1<|zAd 5<|zAa<|zAc 1<|zAa<|zAm<|E_a [] an ((PV.agg (I n.h::prs n.l::PV.sl (List.map ntV n.n)::PV.sl (List.map zAP n.s)::PV.own 2 [PV.agg [I x0.fst,I x0.snd],PV.agg [I x1.fst,I x1.snd],PV.agg [I x2.fst,I x2.snd],PV.agg [I x3.fst,I x3.snd],PV.agg [I x4.fst,I x4.snd],PV.agg [I x5.fst,I x5.snd],PV.agg [I c.fst,I c.snd]]::PV.map (List.map zBx (List.map pr2 n.l))::(zAS (zAl n) 8++zAS (zA6 n) 8))).box) [] rfl rfl
theorem zXz (n:Nw) (c:Int×Int) (x0 x1 x2 x3 x4 x5 x6:Int×Int):FG 171 [zDv n [x0,x1,x2,x3,x4,x5,x6],prV c] (.box (zCt n (.own 2 (([x0,x1,x2,x3,x4,x5,x6]++[c]).map prV)) (mapM (n.l.map pr2)) (zAl n) (zA6 n))):=by
 refine zAe Tryz.f171 ?_
 refine zAc 2<|zAa<|zAc 5<|zAa<|zAc 4<|zAd 1<|zAd 4<|zAd 1<|zAd 1<|zAd 3<|zAa<|zAc 1<|zAd 1<|zAd 4<|zAd 1<|zAa<|zAc 1<|zAd 1<|zAd 5<|zAa<|zAc 1<|zAa<|zAm<|E_a [] an ((PV.agg (I n.h::prs n.l::PV.sl (List.map ntV n.n)::PV.sl (List.map zAP n.s)::PV.own 2 [PV.agg [I x0.fst,I x0.snd],PV.agg [I x1.fst,I x1.snd],PV.agg [I x2.fst,I x2.snd],PV.agg [I x3.fst,I x3.snd],PV.agg [I x4.fst,I x4.snd],PV.agg [I x5.fst,I x5.snd],PV.agg [I x6.fst,I x6.snd],PV.agg [I c.fst,I c.snd]]::PV.map (List.map zBx (List.map pr2 n.l))::(zAS (zAl n) 8++zAS (zA6 n) 8))).box) [] rfl rfl
theorem zYr (n:Nw) (c:Int×Int) (x0 x1 x2 x3 x4 x5 x6 x7:Int×Int):FG 171 [zDv n [x0,x1,x2,x3,x4,x5,x6,x7],prV c] (.box (zCt n (.own 2 (([x0,x1,x2,x3,x4,x5,x6,x7]++[c]).map prV)) (mapM (n.l.map pr2)) (zAl n) (zA6 n))):=by
 refine zAe Tryz.f171 ?_
 refine zAc 2<|zAa<|zAc 5<|zAa<|zAc 4<|zAd 1<|zAd 4<|zAd 1<|zAd 1<|zAd 3<|zAa<|zAc 1<|zAd 1<|zAd 4<|zAd 1<|zAa<|zAc 1<|zAd 1<|zAd 5<|zAa<|zAc 1<|zAa<|zAm<|E_a [] an ((PV.agg (I n.h::prs n.l::PV.sl (List.map ntV n.n)::PV.sl (List.map zAP n.s)::PV.own 2 [PV.agg [I x0.fst,I x0.snd],PV.agg [I x1.fst,I x1.snd],PV.agg [I x2.fst,I x2.snd],PV.agg [I x3.fst,I x3.snd],PV.agg [I x4.fst,I x4.snd],PV.agg [I x5.fst,I x5.snd],PV.agg [I x6.fst,I x6.snd],PV.agg [I x7.fst,I x7.snd],PV.agg [I c.fst,I c.snd]]::PV.map (List.map zBx (List.map pr2 n.l))::(zAS (zAl n) 8++zAS (zA6 n) 8))).box) [] rfl rfl
theorem zXK (n:Nw) (c:Int×Int) (x0 x1 x2 x3 x4 x5 x6 x7 x8:Int×Int):FG 171 [zDv n [x0,x1,x2,x3,x4,x5,x6,x7,x8],prV c] (.box (zCt n (.own 2 (([x0,x1,x2,x3,x4,x5,x6,x7,x8]++[c]).map prV)) (mapM (n.l.map pr2)) (zAl n) (zA6 n))):=by
 refine zAe Tryz.f171 ?_
 refine zAc 2<|zAa<|zAc 5<|zAa<|zAc 4<|zAd 1<|zAd 4<|zAd 1<|zAd 1<|zAd 3<|zAa<|zAc 1<|zAd 1<|zAd 4<|zAd 1<|zAa<|zAc 1<|zAd 1<|zAd 5<|zAa<|zAc 1<|zAa<|zAm<|E_a [] an ((PV.agg (I n.h::prs n.l::PV.sl (List.map ntV n.n)::PV.sl (List.map zAP n.s)::PV.own 2 [PV.agg [I x0.fst,I x0.snd],PV.agg [I x1.fst,I x1.snd],PV.agg [I x2.fst,I x2.snd],PV.agg [I x3.fst,I x3.snd],PV.agg [I x4.fst,I x4.snd],PV.agg [I x5.fst,I x5.snd],PV.agg [I x6.fst,I x6.snd],PV.agg [I x7.fst,I x7.snd],PV.agg [I x8.fst,I x8.snd],PV.agg [I c.fst,I c.snd]]::PV.map (List.map zBx (List.map pr2 n.l))::(zAS (zAl n) 8++zAS (zA6 n) 8))).box) [] rfl rfl
theorem zWs (n:Nw) (c:Int×Int) (x0 x1 x2 x3 x4 x5 x6 x7 x8 x9:Int×Int):FG 171 [zDv n [x0,x1,x2,x3,x4,x5,x6,x7,x8,x9],prV c] (.box (zCt n (.own 2 (([x0,x1,x2,x3,x4,x5,x6,x7,x8,x9]++[c]).map prV)) (mapM (n.l.map pr2)) (zAl n) (zA6 n))):=by
 refine zAe Tryz.f171 ?_
 refine zAc 2<|zAa<|zAc 5<|zAa<|zAc 4<|zAd 1<|zAd 4<|zAd 1<|zAd 1<|zAd 3<|zAa<|zAc 1<|zAd 1<|zAd 4<|zAd 1<|zAa<|zAc 1<|zAd 1<|zAd 5<|zAa<|zAc 1<|zAa<|zAm<|E_a [] an ((PV.agg (I n.h::prs n.l::PV.sl (List.map ntV n.n)::PV.sl (List.map zAP n.s)::PV.own 2 [PV.agg [I x0.fst,I x0.snd],PV.agg [I x1.fst,I x1.snd],PV.agg [I x2.fst,I x2.snd],PV.agg [I x3.fst,I x3.snd],PV.agg [I x4.fst,I x4.snd],PV.agg [I x5.fst,I x5.snd],PV.agg [I x6.fst,I x6.snd],PV.agg [I x7.fst,I x7.snd],PV.agg [I x8.fst,I x8.snd],PV.agg [I x9.fst,I x9.snd],PV.agg [I c.fst,I c.snd]]::PV.map (List.map zBx (List.map pr2 n.l))::(zAS (zAl n) 8++zAS (zA6 n) 8))).box) [] rfl rfl
theorem zWJ (n:Nw) (c:Int×Int) (x0 x1 x2 x3 x4 x5 x6 x7 x8 x9 x10:Int×Int):FG 171 [zDv n [x0,x1,x2,x3,x4,x5,x6,x7,x8,x9,x10],prV c] (.box (zCt n (.own 2 (([x0,x1,x2,x3,x4,x5,x6,x7,x8,x9,x10]++[c]).map prV)) (mapM (n.l.map pr2)) (zAl n) (zA6 n))):=by
 refine zAe Tryz.f171 ?_
 refine zAc 2<|zAa<|zAc 5<|zAa<|zAc 4<|zAd 1<|zAd 4<|zAd 1<|zAd 1<|zAd 3<|zAa<|zAc 1<|zAd 1<|zAd 4<|zAd 1<|zAa<|zAc 1<|zAd 1<|zAd 5<|zAa<|zAc 1<|zAa<|zAm<|E_a [] an ((PV.agg (I n.h::prs n.l::PV.sl (List.map ntV n.n)::PV.sl (List.map zAP n.s)::PV.own 2 [PV.agg [I x0.fst,I x0.snd],PV.agg [I x1.fst,I x1.snd],PV.agg [I x2.fst,I x2.snd],PV.agg [I x3.fst,I x3.snd],PV.agg [I x4.fst,I x4.snd],PV.agg [I x5.fst,I x5.snd],PV.agg [I x6.fst,I x6.snd],PV.agg [I x7.fst,I x7.snd],PV.agg [I x8.fst,I x8.snd],PV.agg [I x9.fst,I x9.snd],PV.agg [I x10.fst,I x10.snd],PV.agg [I c.fst,I c.snd]]::PV.map (List.map zBx (List.map pr2 n.l))::(zAS (zAl n) 8++zAS (zA6 n) 8))).box) [] rfl rfl
theorem zWO (n:Nw) (c:Int×Int) (x0 x1 x2 x3 x4 x5 x6 x7 x8 x9 x10 x11:Int×Int):FG 171 [zDv n [x0,x1,x2,x3,x4,x5,x6,x7,x8,x9,x10,x11],prV c] (.box (zCt n (.own 2 (([x0,x1,x2,x3,x4,x5,x6,x7,x8,x9,x10,x11]++[c]).map prV)) (mapM (n.l.map pr2)) (zAl n) (zA6 n))):=by
 refine zAe Tryz.f171 ?_
 refine zAc 2<|zAa<|zAc 5<|zAa<|zAc 4<|zAd 1<|zAd 4<|zAd 1<|zAd 1<|zAd 3<|zAa<|zAc 1<|zAd 1<|zAd 4<|zAd 1<|zAa<|zAc 1<|zAd 1<|zAd 5<|zAa<|zAc 1<|zAa<|zAm<|E_a [] an ((PV.agg (I n.h::prs n.l::PV.sl (List.map ntV n.n)::PV.sl (List.map zAP n.s)::PV.own 2 [PV.agg [I x0.fst,I x0.snd],PV.agg [I x1.fst,I x1.snd],PV.agg [I x2.fst,I x2.snd],PV.agg [I x3.fst,I x3.snd],PV.agg [I x4.fst,I x4.snd],PV.agg [I x5.fst,I x5.snd],PV.agg [I x6.fst,I x6.snd],PV.agg [I x7.fst,I x7.snd],PV.agg [I x8.fst,I x8.snd],PV.agg [I x9.fst,I x9.snd],PV.agg [I x10.fst,I x10.snd],PV.agg [I x11.fst,I x11.snd],PV.agg [I c.fst,I c.snd]]::PV.map (List.map zBx (List.map pr2 n.l))::(zAS (zAl n) 8++zAS (zA6 n) 8))).box) [] rfl rfl
theorem zWk (n:Nw) (c:Int×Int) (x0 x1 x2 x3 x4 x5 x6 x7 x8 x9 x10 x11 x12:Int×Int):FG 171 [zDv n [x0,x1,x2,x3,x4,x5,x6,x7,x8,x9,x10,x11,x12],prV c] (.box (zCt n (.own 2 (([x0,x1,x2,x3,x4,x5,x6,x7,x8,x9,x10,x11,x12]++[c]).map prV)) (mapM (n.l.map pr2)) (zAl n) (zA6 n))):=by
 refine zAe Tryz.f171 ?_
 refine zAc 2<|zAa<|zAc 5<|zAa<|zAc 4<|zAd 1<|zAd 4<|zAd 1<|zAd 1<|zAd 3<|zAa<|zAc 1<|zAd 1<|zAd 4<|zAd 1<|zAa<|zAc 1<|zAd 1<|zAd 5<|zAa<|zAc 1<|zAa<|zAm<|E_a [] an ((PV.agg (I n.h::prs n.l::PV.sl (List.map ntV n.n)::PV.sl (List.map zAP n.s)::PV.own 2 [PV.agg [I x0.fst,I x0.snd],PV.agg [I x1.fst,I x1.snd],PV.agg [I x2.fst,I x2.snd],PV.agg [I x3.fst,I x3.snd],PV.agg [I x4.fst,I x4.snd],PV.agg [I x5.fst,I x5.snd],PV.agg [I x6.fst,I x6.snd],PV.agg [I x7.fst,I x7.snd],PV.agg [I x8.fst,I x8.snd],PV.agg [I x9.fst,I x9.snd],PV.agg [I x10.fst,I x10.snd],PV.agg [I x11.fst,I x11.snd],PV.agg [I x12.fst,I x12.snd],PV.agg [I c.fst,I c.snd]]::PV.map (List.map zBx (List.map pr2 n.l))::(zAS (zAl n) 8++zAS (zA6 n) 8))).box) [] rfl rfl
theorem zXa (n:Nw) (c:Int×Int) (x0 x1 x2 x3 x4 x5 x6 x7 x8 x9 x10 x11 x12 x13:Int×Int):FG 171 [zDv n [x0,x1,x2,x3,x4,x5,x6,x7,x8,x9,x10,x11,x12,x13],prV c] (.box (zCt n (.own 2 (([x0,x1,x2,x3,x4,x5,x6,x7,x8,x9,x10,x11,x12,x13]++[c]).map prV)) (mapM (n.l.map pr2)) (zAl n) (zA6 n))):=by
 refine zAe Tryz.f171 ?_
 refine zAc 2<|zAa<|zAc 5<|zAa<|zAc 4<|zAd 1<|zAd 4<|zAd 1<|zAd 1<|zAd 3<|zAa<|zAc 1<|zAd 1<|zAd 4<|zAd 1<|zAa<|zAc 1<|zAd 1<|zAd 5<|zAa<|zAc 1<|zAa<|zAm<|E_a [] an ((PV.agg (I n.h::prs n.l::PV.sl (List.map ntV n.n)::PV.sl (List.map zAP n.s)::PV.own 2 [PV.agg [I x0.fst,I x0.snd],PV.agg [I x1.fst,I x1.snd],PV.agg [I x2.fst,I x2.snd],PV.agg [I x3.fst,I x3.snd],PV.agg [I x4.fst,I x4.snd],PV.agg [I x5.fst,I x5.snd],PV.agg [I x6.fst,I x6.snd],PV.agg [I x7.fst,I x7.snd],PV.agg [I x8.fst,I x8.snd],PV.agg [I x9.fst,I x9.snd],PV.agg [I x10.fst,I x10.snd],PV.agg [I x11.fst,I x11.snd],PV.agg [I x12.fst,I x12.snd],PV.agg [I x13.fst,I x13.snd],PV.agg [I c.fst,I c.snd]]::PV.map (List.map zBx (List.map pr2 n.l))::(zAS (zAl n) 8++zAS (zA6 n) 8))).box) [] rfl rfl
theorem zXd (n:Nw) (c:Int×Int) (x0 x1 x2 x3 x4 x5 x6 x7 x8 x9 x10 x11 x12 x13 x14:Int×Int):FG 171 [zDv n [x0,x1,x2,x3,x4,x5,x6,x7,x8,x9,x10,x11,x12,x13,x14],prV c] (.box (zCt n (.own 2 (([x0,x1,x2,x3,x4,x5,x6,x7,x8,x9,x10,x11,x12,x13,x14]++[c]).map prV)) (mapM (n.l.map pr2)) (zAl n) (zA6 n))):=by
 refine zAe Tryz.f171 ?_
 refine zAc 2<|zAa<|zAc 5<|zAa<|zAc 4<|zAd 1<|zAd 4<|zAd 1<|zAd 1<|zAd 3<|zAa<|zAc 1<|zAd 1<|zAd 4<|zAd 1<|zAa<|zAc 1<|zAd 1<|zAd 5<|zAa<|zAc 1<|zAa<|zAm<|E_a [] an ((PV.agg (I n.h::prs n.l::PV.sl (List.map ntV n.n)::PV.sl (List.map zAP n.s)::PV.own 2 [PV.agg [I x0.fst,I x0.snd],PV.agg [I x1.fst,I x1.snd],PV.agg [I x2.fst,I x2.snd],PV.agg [I x3.fst,I x3.snd],PV.agg [I x4.fst,I x4.snd],PV.agg [I x5.fst,I x5.snd],PV.agg [I x6.fst,I x6.snd],PV.agg [I x7.fst,I x7.snd],PV.agg [I x8.fst,I x8.snd],PV.agg [I x9.fst,I x9.snd],PV.agg [I x10.fst,I x10.snd],PV.agg [I x11.fst,I x11.snd],PV.agg [I x12.fst,I x12.snd],PV.agg [I x13.fst,I x13.snd],PV.agg [I x14.fst,I x14.snd],PV.agg [I c.fst,I c.snd]]::PV.map (List.map zBx (List.map pr2 n.l))::(zAS (zAl n) 8++zAS (zA6 n) 8))).box) [] rfl rfl
theorem zXb (n:Nw) (c:Int×Int) (x0 x1 x2 x3 x4 x5 x6 x7 x8 x9 x10 x11 x12 x13 x14 x15:Int×Int):FG 171 [zDv n [x0,x1,x2,x3,x4,x5,x6,x7,x8,x9,x10,x11,x12,x13,x14,x15],prV c] (.box (zCt n (.own 2 (([x0,x1,x2,x3,x4,x5,x6,x7,x8,x9,x10,x11,x12,x13,x14,x15]++[c]).map prV)) (mapM (n.l.map pr2)) (zAl n) (zA6 n))):=by
 refine zAe Tryz.f171 ?_
 refine zAc 2<|zAa<|zAc 5<|zAa<|zAc 4<|zAd 1<|zAd 4<|zAd 1<|zAd 1<|zAd 3<|zAa<|zAc 1<|zAd 1<|zAd 4<|zAd 1<|zAa<|zAc 1<|zAd 1<|zAd 5<|zAa<|zAc 1<|zAa<|zAm<|E_a [] an ((PV.agg (I n.h::prs n.l::PV.sl (List.map ntV n.n)::PV.sl (List.map zAP n.s)::PV.own 2 [PV.agg [I x0.fst,I x0.snd],PV.agg [I x1.fst,I x1.snd],PV.agg [I x2.fst,I x2.snd],PV.agg [I x3.fst,I x3.snd],PV.agg [I x4.fst,I x4.snd],PV.agg [I x5.fst,I x5.snd],PV.agg [I x6.fst,I x6.snd],PV.agg [I x7.fst,I x7.snd],PV.agg [I x8.fst,I x8.snd],PV.agg [I x9.fst,I x9.snd],PV.agg [I x10.fst,I x10.snd],PV.agg [I x11.fst,I x11.snd],PV.agg [I x12.fst,I x12.snd],PV.agg [I x13.fst,I x13.snd],PV.agg [I x14.fst,I x14.snd],PV.agg [I x15.fst,I x15.snd],PV.agg [I c.fst,I c.snd]]::PV.map (List.map zBx (List.map pr2 n.l))::(zAS (zAl n) 8++zAS (zA6 n) 8))).box) [] rfl rfl
theorem f171 (n:Nw) (cs:List (Int×Int)) (c:Int×Int) (hl:cs.length≤16):FG 171 [zDv n cs,prV c] (.box (zCt n (.own 2 ((cs++[c]).map prV)) (mapM (n.l.map pr2)) (zAl n) (zA6 n))):=by
 match cs,hl with
 | [],_=>exact zYF n c 
 | [x0],_=>exact zYD n c x0
 | [x0,x1],_=>exact zXT n c x0 x1
 | [x0,x1,x2],_=>exact zY5 n c x0 x1 x2
 | [x0,x1,x2,x3],_=>exact zXq n c x0 x1 x2 x3
 | [x0,x1,x2,x3,x4],_=>exact zXN n c x0 x1 x2 x3 x4
 | [x0,x1,x2,x3,x4,x5],_=>exact zXD n c x0 x1 x2 x3 x4 x5
 | [x0,x1,x2,x3,x4,x5,x6],_=>exact zXz n c x0 x1 x2 x3 x4 x5 x6
 | [x0,x1,x2,x3,x4,x5,x6,x7],_=>exact zYr n c x0 x1 x2 x3 x4 x5 x6 x7
 | [x0,x1,x2,x3,x4,x5,x6,x7,x8],_=>exact zXK n c x0 x1 x2 x3 x4 x5 x6 x7 x8
 | [x0,x1,x2,x3,x4,x5,x6,x7,x8,x9],_=>exact zWs n c x0 x1 x2 x3 x4 x5 x6 x7 x8 x9
 | [x0,x1,x2,x3,x4,x5,x6,x7,x8,x9,x10],_=>exact zWJ n c x0 x1 x2 x3 x4 x5 x6 x7 x8 x9 x10
 | [x0,x1,x2,x3,x4,x5,x6,x7,x8,x9,x10,x11],_=>exact zWO n c x0 x1 x2 x3 x4 x5 x6 x7 x8 x9 x10 x11
 | [x0,x1,x2,x3,x4,x5,x6,x7,x8,x9,x10,x11,x12],_=>exact zWk n c x0 x1 x2 x3 x4 x5 x6 x7 x8 x9 x10 x11 x12
 | [x0,x1,x2,x3,x4,x5,x6,x7,x8,x9,x10,x11,x12,x13],_=>exact zXa n c x0 x1 x2 x3 x4 x5 x6 x7 x8 x9 x10 x11 x12 x13
 | [x0,x1,x2,x3,x4,x5,x6,x7,x8,x9,x10,x11,x12,x13,x14],_=>exact zXd n c x0 x1 x2 x3 x4 x5 x6 x7 x8 x9 x10 x11 x12 x13 x14
 | [x0,x1,x2,x3,x4,x5,x6,x7,x8,x9,x10,x11,x12,x13,x14,x15],_=>exact zXb n c x0 x1 x2 x3 x4 x5 x6 x7 x8 x9 x10 x11 x12 x13 x14 x15
 | _::_::_::_::_::_::_::_::_::_::_::_::_::_::_::_::_::_,h=>simp at h
def zV6 (n:Nw) (w:List Int) (g:Int×Int):Bool:=decide (w.getD (g.1.toNat*8+((zAl n).getD g.2.toNat 0).toNat) 0≠g.2)
def zIu (n:Nw) (w:List Int) (l:List (Int×Int)):List (Int×Int):=l.filter (zV6 n w)
theorem zTp {n:Nw} {w:List Int} {l:List (Int×Int)} {i:Nat} (hi:i<l.length):zIu n w (l.take (i+1))=if zV6 n w (l.getD i default)=true then zIu n w (l.take i)++[l.getD i default] else zIu n w (l.take i):=by
 unfold zIu;rw [zBP (d:=default) hi,List.filter_append]
 split
 ·rw [List.filter_cons_of_pos (by assumption)];rfl
 ·rw [List.filter_cons_of_neg (by assumption)];simp
theorem f119 (n:Nw) (cs l:List (Int×Int)) (e:Int) (c:Int×Int) (ho:CrW n cs) (hl:cs.length≤16) (he:0≤e∧e≤1000) (vg:l.length≤1000) (hm:∀ g∈l,(0≤g.1∧g.1<n.h)∧(0≤g.2∧g.2<n.n.length)) (hc:(0≤c.1∧c.1<n.n.length)∧(0≤c.2∧c.2<n.s.length)):FG 119 [zDv n cs,prs l,I e,prV c] (.own 2 ((zIu n (zBl n (cs++[c]) e.toNat) l).map prV)):=by
 have hw:=zT0 ho (by omega) hc
 have hb:=ho.nw.h
 have hn:=ho.nw
 have uH:=hn.nl
 have gi:=zCJ (n:=n) (cs:=cs++[c]) e.toNat
 have ha:=f92 n (cs++[c]) e hw he
 generalize zBl n (cs++[c]) e.toNat=w at *
 refine zAe Tryz.f119 ?_
 refine zAc 2<|zAa<|zAc 2<|S_a [(7,.ret ((zCt n (PV.own 2 (List.map prV (cs++[c]))) (mapM (List.map pr2 n.l)) (zAl n) (zA6 n)).box) [])] (ap (f171 n cs c (by omega)) an)<|zAd 1<|S_a [(7,.v (PV.agg (I n.h::prs n.l::PV.sl (List.map ntV n.n)::PV.sl (List.map zAP n.s)::prs (cs++[c])::PV.map (List.map zBx (List.map pr2 n.l))::(zAS (zAl n) 8++zAS (zA6 n) 8)))),(4,.ret (hdV w) [])] (ap ((by simp only [show zAD (List.map prV (cs++[c]))=List.map prV (cs++[c]) from (by first | exact zBL _ | exact zCY _ | exact zCo _ | exact zCP (zCY _) | exact zCP (zCo _) | exact zKy (by simp [zEU]) (zBL _))]):PV.agg (I n.h::prs n.l::PV.sl (List.map ntV n.n)::PV.sl (List.map zAP n.s)::PV.sl (zAD (List.map prV (cs++[c])))::PV.map (List.map zBx (List.map pr2 n.l))::(zAS (zAl n) 8++zAS (zA6 n) 8))=PV.agg (I n.h::prs n.l::PV.sl (List.map ntV n.n)::PV.sl (List.map zAP n.s)::prs (cs++[c])::PV.map (List.map zBx (List.map pr2 n.l))::(zAS (zAl n) 8++zAS (zA6 n) 8)))<|ap ha an)<|zAd 2<|zAa<|zAc 1<|zAa<|zAh<|zAc 1<|S_a [(0,.n l.length)] (ap (lnS prV l) an)<|zAd 1<|zAa<|zAi 0 ?_
 refine zAp (fun (i,q)=>i≤l.length∧q=zIu n w (l.take i)) (fun (i,q)=>[(10,.own 2 (q.map prV)),(20,I (i:Nat))]) (fun (i,_)=>l.length-i) ((0:Nat),([]:List (Int×Int))) ⟨by omega,by simp [zIu]⟩ fun (i,q) ⟨hi,hq⟩=>?_
 have ue:q.length≤i:=by
  rw [hq,zIu];exact Nat.le_trans (List.length_filter_le _ _) (by rw [List.length_take];omega)
 by_cases yG:i<l.length
 ·have yT:=zTp (n:=n) (w:=w) yG
  rw [← hq] at yT
  obtain ⟨kS,qJ⟩:=zBA (d:=default) hm i yG
  have hfb:=zB4 hn (l.getD i default).2.toNat (by omega)
  clear hm ha hq
  refine zAc 1<|zAa<|zAh<|zAU ((↑i:Int)<(↑l.length:Int)) (by omega)<|zAj<|zAh<|zAi 1<|zAh<|zAf<|S_a [(2,.v (PV.agg [I (l.getD i default).fst,I (l.getD i default).snd]))] (ap (zBG default (by omega):(List.map prV l)[i]? = some (PV.agg [I (l.getD i default).fst,I (l.getD i default).snd])) an)<|zAd 3<|zAa<|zAc 7<|S_a [(0,.ob),(1,.ob),(0,.v ((I ((zAl n).getD (l.getD i default).snd.toNat 0)).ref))] (ap ((by exact zAq (by omega)):decide (0≤(l.getD i default).snd)=true)<|ap ((by exact zAq (by omega)):decide ((l.getD i default).snd.toNat<8)=true)<|ap (zGG (F:=zAl n) (m:=8) (j:=(l.getD i default).snd.toNat) (by omega):zCd (PV.agg (zAS (zAl n) 8)).ref ((l.getD i default).snd.toNat*(fun x=>x.size) Tryz.prog.types[3]) none=some (I ((zAl n).getD (l.getD i default).snd.toNat 0)).ref) an)<|zAd 1<|S_a [(0,.ob),(1,.ob)] (ap ((by exact zAq (by omega)):decide (0≤(l.getD i default).fst)=true)<|ap ((by exact zAq (by omega)):decide ((l.getD i default).fst.toNat<10)=true) an)<|S_a [(0,.ob),(1,.ob)] (ap ((by exact zAq (by omega)):decide (0≤(zAl n).getD (l.getD i default).snd.toNat 0)=true)<|ap ((by exact zAq (by omega)):decide (((zAl n).getD (l.getD i default).snd.toNat 0).toNat<8)=true) an)<|S_a [(0,.cs true ([I (w.getD ((l.getD i default).fst.toNat*8+((zAl n).getD (l.getD i default).snd.toNat 0).toNat) 0)]))] (ap (zDM (q:=(PV.agg (zAS w 80)).box) (xs:=[PV.agg (zAS w 80)]) (x:=PV.agg (zAS w 80)) rfl rfl (zE7 (F:=w) (m:=80) (j:=(l.getD i default).fst.toNat*8+((zAl n).getD (l.getD i default).snd.toNat 0).toNat) (by first | rfl | exact zBX (by kernel_rfl) | exact zBU (by kernel_rfl) | exact zDP (by kernel_rfl) (by kernel_rfl) | exact zC6 (by kernel_rfl) | exact zDU (by kernel_rfl) (by kernel_rfl) | exact zDF (by kernel_rfl) | (simp;done)) (by omega)):zAv 9 (PV.agg (zAS w 80)).box [] 0 (0+(l.getD i default).fst.toNat*(fun x=>x.size) Tryz.prog.types[128]+((zAl n).getD (l.getD i default).snd.toNat 0).toNat*(fun x=>x.size) Tryz.prog.types[3]) 1=some (true,[I (w.getD ((l.getD i default).fst.toNat*8+((zAl n).getD (l.getD i default).snd.toNat 0).toNat) 0)])) an)<|zAd 3<|zAa<|zDb (w.getD ((l.getD i default).fst.toNat*8+((zAl n).getD (l.getD i default).snd.toNat 0).toNat) 0=(l.getD i default).snd) (fun k0=>(zAf<|zAd 3<|S_a [(4,.ob),(0,.ob),(0,.yes),(2,.v (PV.own 2 (List.map prV (q++[l.getD i default]))))] (ap (blz (List.map prV q))<|ap ((by exact zBp (by simp only [List.length_map,zzLn,zAZ]<;>omega)):((List.map prV q).length + [PV.agg [I (l.getD i default).fst,I (l.getD i default).snd]].length).ble zAZ=true)<|ap ((by exact zBs (by simp<;>omega)):(0+(List.map prV q).length).beq (List.map prV q).length=true)<|ap ((zAM (zCh (by kernel_rfl))):PV.own 2 (List.map prV q++[PV.agg [I (l.getD i default).fst,I (l.getD i default).snd]])=PV.own 2 (List.map prV (q++[l.getD i default]))) an)<|zAd 1<|zAa<|zAf<|S_a [(1,.v (I (↑(i+1):Int)))] (ap (wrN i) an)<|zAd 1<|zAa ?_)) (fun k0=>(zAj<|zAf<|S_a [(1,.v (I (↑(i+1):Int)))] (ap (wrN i) an)<|zAd 1<|zAa ?_))
  ·have hb:zV6 n w (l.getD i default)=true:=by simp only [zV6,decide_eq_true_eq];exact k0
   rw [if_pos hb] at yT
   exact ⟨(i+1,q++[l.getD i default]),⟨by omega,yT.symm⟩,by simp only;omega,by kernel_rfl,by kernel_rfl⟩
  ·have hb:zV6 n w (l.getD i default)=false:=by simp only [zV6,decide_eq_false_iff_not];exact fun h=>h k0
   rw [if_neg (by rw [hb];simp)] at yT
   exact ⟨(i+1,q),⟨by omega,yT.symm⟩,by simp only;omega,by kernel_rfl,by kernel_rfl⟩
 ·refine zAc 1<|zAa<|zAh<|zAT ((↑i:Int)<(↑l.length:Int)) (by omega)<|zAz 0<|zAc 1<|S_a [(2,.yes)] (ap ((by exact zBs (by simp<;>omega)):(Nat.beq 0 0&&(List.map prV q).length.beq (List.map prV q).length)=true) an)<|zAa<|zAm<|E_a [(1,.yes),(1,.v (PV.own 2 (List.map prV q)))] (ap (blz (List.map prV q))<|ap ((zAM zAG):PV.own 2 (List.take (List.map prV q).length (List.drop 0 (List.map prV q)))=PV.own 2 (List.map prV q)) an) (PV.own 2 (List.map prV q)) [] ?_ rfl
  rw [List.take_of_length_le (by omega)] at hq
  rw [hq]
end Go.Eng
set_option maxRecDepth 10000
set_option maxHeartbeats 4000000
namespace Go.Eng
open Go Go.Proofs
theorem zS0 {α:Type} (φ:α→Bool) (l:List α):(zER φ l = -1→l.filter (fun x => !φ x)=l)∧(zER φ l≠-1→∃ i:Nat,zER φ l=i∧i<l.length∧l.take i=(l.take (i+1)).filter (fun x => !φ x)):=by
 constructor
 ·intro h
  have:l.any φ=false:=by rw [← zD7,h];rfl
  rw [List.filter_eq_self]
  intro x hx
  rw [List.any_eq_false] at this
  simpa using this x hx
 ·intro h
  unfold zER at h ⊢
  split
  ·rename_i yD
   refine ⟨_,rfl,yD,?_⟩
   have hp:=List.findIdx_getElem (w:=yD)
   rw [List.take_add_one,List.getElem?_eq_getElem yD,List.filter_append]
   simp only [Option.toList,List.filter_cons,hp,Bool.not_true,Bool.false_eq_true,if_false,List.filter_nil,List.append_nil]
   symm
   rw [List.filter_eq_self]
   intro x hx
   obtain ⟨j,hj,rfl⟩:=List.mem_take_iff_getElem.1 hx
   have:=List.not_of_lt_findIdx (show j<l.findIdx φ by omega)
   simpa using this
  ·rename_i hn;rw [if_neg hn] at h;exact absurd rfl h
theorem zLq {α:Type} {S:List α} {p:Nat} {x:α} (h:p<S.length):(S.set p x).take (p+1)=S.take p++[x]:=by
 rw [zBP (d:=x) (by simpa using h),List.take_set_of_le (Nat.le_refl p)]
 simp [List.getD_eq_getElem?_getD,h]
theorem zNX {α:Type} {S:List α} {i j:Nat} {x d:α} (h:i≠j):(S.set i x).getD j d=S.getD j d:=by
 simp [List.getD_eq_getElem?_getD,List.getElem?_set,h]
theorem zNi {α:Type} (p:α→Bool) (l:List α) (j:Nat) (d:α) (h:j<l.length):(l.take (j+1)).filter p=if p (l.getD j d)=true then (l.take j).filter p++[l.getD j d] else (l.take j).filter p:=by
 rw [zBP (d:=d) h,List.filter_append]
 split
 ·rw [List.filter_cons_of_pos (by assumption)];rfl
 ·rw [List.filter_cons_of_neg (by assumption)];simp
theorem f189 (n:Nw) (cs:List (Int×Int)) (f:Int) (ho:NwOk n) (g:Int×Int) (hg:0≤g.2∧g.2<n.n.length):FG 189 [prV g,.ref (zDv n cs),.ref (I f)] (.bool (decide ((zAl n).getD g.2.toNat 0≠f))):=by
 have uH:=ho.nl
 refine zAe Tryz.f189 ?_
 refine zAc 2<|zAa<|zAc 5<|S_a [(0,.ob),(1,.ob),(0,.v ((I ((zAl n).getD g.snd.toNat 0)).ref))] (ap ((by exact zAq (by omega)):decide (0≤g.snd)=true)<|ap ((by exact zAq (by omega)):decide (g.snd.toNat<8)=true)<|ap (zGG (F:=zAl n) (m:=8) (j:=g.snd.toNat) (by omega):zCd (PV.agg (zAS (zAl n) 8)).ref (g.snd.toNat*(fun x=>x.size) Tryz.prog.types[3]) none=some (I ((zAl n).getD g.snd.toNat 0)).ref) an)<|zAd 4<|zAa<|zAm<|E_a [] an (PV.bool ((zAl n).getD g.snd.toNat 0 != f)) [] ?_ rfl
 congr 1;rw [Bool.eq_iff_iff];simp
theorem f174_1 (n:Nw) (cs:List (Int×Int)) (f:Int) (ho:NwOk n) (l:List (Int×Int)) (hl:l.length<4294967296) (hr:∀ x∈l,(fun z:Int×Int=>0≤z.2∧z.2<n.n.length) x):FG 174 [.sl (l.map prV),.func 189 [] [.ref (zDv n cs),.ref (I f)]] (I (zER (fun x=>decide ((zAl n).getD x.2.toNat 0≠f)) l)):=by
 refine zAe Tryz.f174 ?_
 refine zAc 1<|zAa<|zAh<|zAc 1<|S_a [(0,.n l.length)] (ap (lnS prV l) an)<|zAd 1<|zAa<|zAi 0 ?_
 refine zAp (fun i=>i≤l.length∧∀ j,j<i→(fun x=>decide ((zAl n).getD x.2.toNat 0≠f)) (l.getD j default)=false) (fun i=>[(8,I (i:Nat))]) (fun i=>l.length-i) (0:Nat) (by simp) fun i ⟨hi,ha⟩=>?_
 by_cases yG:i<l.length
 ·have hri:=zBA (d:=default) hr i yG
  refine zAc 1<|zAa<|zAh<|zAU ((↑i:Int)<(↑l.length:Int)) (by omega)<|zAj<|zAh<|zAi 1<|zAc 2<|zAa<|zAc 3<|S_a [(2,.v (PV.agg [I (l.getD i default).fst,I (l.getD i default).snd]))] (ap (zBG default (by omega):(List.map prV l)[i]? = some (PV.agg [I (l.getD i default).fst,I (l.getD i default).snd])) an)<|zAd 1<|S_a [(8,.ret (PV.bool (decide ((zAl n).getD (l.getD i default).snd.toNat 0≠f))) [])] (ap (f189 n cs f (by omega) (l.getD i default) (by omega)) an)<|zAa<|zCb ((zAl n).getD (l.getD i default).snd.toNat 0≠f) (fun k0=>(zAc 2<|zAa<|zAm<|E_a [] an (I (↑i:Int)) [] ?_ rfl)) (fun k0=>(zAj<|zAf<|S_a [(1,.v (I (↑(i+1):Int)))] (ap (wrN i) an)<|zAd 1<|zAa ?_))
  ·rw [zBW (i:=i) yG (fun j hj=>by rw [← zAs (d:=default)];exact ha j hj) (by rw [← zAs (d:=default)];first | assumption | exact decide_eq_true ‹_›)]
  ·refine ⟨i+1,⟨by omega,fun j hj=>?_⟩,by omega,by kernel_rfl,by kernel_rfl⟩
   rcases Nat.lt_succ_iff_lt_or_eq.1 hj with h | rfl
   ·exact ha j h
   ·first | assumption | exact decide_eq_false ‹_› | (simp only [Bool.not_eq_false',decide_eq_true_eq];assumption)
 ·refine zAc 1<|zAa<|zAh<|zAT ((↑i:Int)<(↑l.length:Int)) (by omega)<|zAz 0<|zAc 1<|zAa<|zAm<|E_a [] an (I (-1)) [] ?_ rfl
  rw [zCl fun j hj=>by rw [← zAs (d:=default)];exact ha j (by omega)]
theorem f122_1 (n:Nw) (cs:List (Int×Int)) (f:Int) (ho:NwOk n) (l:List (Int×Int)) (hl:l.length<4294967296) (hr:∀ x∈l,(fun z:Int×Int=>0≤z.2∧z.2<n.n.length) x):FG 122 [.own 2 (l.map prV),.func 189 [] [.ref (zDv n cs),.ref (I f)]] (.own 2 ((l.filter fun x => !(decide ((zAl n).getD x.2.toNat 0≠f))).map prV)):=by
 have h1:=zS0 (fun x=>decide ((zAl n).getD x.2.toNat 0≠f)) l
 have uI:=f174_1 n cs f ho l hl hr
 by_cases hm:zER (fun x=>decide ((zAl n).getD x.2.toNat 0≠f)) l = -1
 ·rw [hm] at uI
  rw [h1.1 hm]
  refine zAe Tryz.f122 ?_
  refine zAc 1<|zAa<|zAc 2<|S_a [(3,.ob),(0,.v (prs l)),(3,.ret (I (-1)) [])] (ap (blz (List.map prV l))<|ap (frT prV l)<|ap uI an)<|zAd 1<|zAa<|zAh<|zAc 2<|zAa<|zBR<|zAc 1<|S_a [(2,.yes)] (ap ((by exact zBs (by simp<;>omega)):(Nat.beq 0 0&&(List.map prV l).length.beq (List.map prV l).length)=true) an)<|zAa<|zAm<|E_a [(1,.yes),(1,.v (PV.own 2 (List.map prV l)))] (ap (blz (List.map prV l))<|ap ((zAM zAG):PV.own 2 (List.take (List.map prV l).length (List.drop 0 (List.map prV l)))=PV.own 2 (List.map prV l)) an) (PV.own 2 (List.map prV l)) [] rfl rfl
 ·obtain ⟨i0,ji,hil0,hf0⟩:=h1.2 hm
  rw [ji] at uI
  clear h1 hm
  refine zAe Tryz.f122 ?_
  refine zAc 1<|zAa<|zAc 2<|S_a [(3,.ob),(0,.v (prs l)),(3,.ret (I (↑i0:Int)) [])] (ap (blz (List.map prV l))<|ap (frT prV l)<|ap uI an)<|zAd 1<|zAa<|zAh<|zAc 2<|zAa<|zAW<|zAj<|zAh<|zAc 1<|S_a [(1,.v (I (↑(i0+1):Int)))] (ap (wrN i0) an)<|zAd 1<|zAa<|zAi 0 ?_
  refine zAp (fun (i,j,S)=>j≤l.length∧i<j∧S.length=l.length∧S.take i=(l.take j).filter (fun x => !(decide ((zAl n).getD x.2.toNat 0≠f)))∧∀ r,j≤r→S.getD r default=l.getD r default) (fun (i,j,S)=>[(0,.own 2 (S.map prV)),(5,I (i:Nat)),(6,I (j:Nat))]) (fun (_,j,_)=>l.length-j) (i0,i0+1,l) ⟨by omega,by omega,rfl,hf0,fun _ _=>rfl⟩ fun (i,j,S) ⟨hj,qH,hS,ht,hd⟩=>?_
  by_cases jf:j<l.length
  ·have hri:=zBA (d:=default) hr j jf
   have hx:=hd j (Nat.le_refl j)
   have yK:=zNi (fun x => !(decide ((zAl n).getD x.2.toNat 0≠f))) l j default jf
   rw [← hx] at yK hri
   clear uI
   have gT:=hd
   clear hd hx
   refine zAh<|zAc 2<|S_a [(0,.n S.length)] (ap (lnS prV S) an)<|zAd 1<|zAa<|zAU ((↑j:Int)<(↑S.length:Int)) (by omega)<|zAj<|zAh<|zAi 1<|zAc 2<|S_a [(2,.ob),(1,.n j)] (ap ((by exact zAq (by simp only [List.length_map,zzLn]<;>omega)):decide (j<(List.map prV S).length)=true)<|ap ((by simp):some (0+j)=some j) an)<|S_a [(0,.cs true ([I (S.getD j default).fst,I (S.getD j default).snd]))] (ap (zDM (q:=PV.own 2 (List.map prV S)) (xs:=List.map prV S) (x:=PV.agg [I (S.getD j default).fst,I (S.getD j default).snd]) rfl (zBG default (by omega)):zAv 0 (PV.own 2 (List.map prV S)) [] j 0 Tryz.prog.types[108].size=some (true,[I (S.getD j default).fst,I (S.getD j default).snd])) an)<|zAd 2<|zAa<|zAc 2<|S_a [(8,.ret (PV.bool (decide ((zAl n).getD (S.getD j default).snd.toNat 0≠f))) [])] (ap (f189 n cs f (by omega) (S.getD j default) (by omega)) an)<|zAd 1<|zAa<|zDb ((zAl n).getD (S.getD j default).snd.toNat 0≠f) (fun k0=>(zAc 3<|S_a [(2,.ob),(1,.n i)] (ap ((by exact zAq (by simp only [List.length_map,zzLn]<;>omega)):decide (i<(List.map prV S).length)=true)<|ap ((by simp):some (0+i)=some i) an)<|S_a [(8,.root (PV.own 2 (List.map prV (S.set i (S.getD j default)))) true)] (ap (zPJ (zBG default (by omega)) zFT:zBw (PV.own 2 (List.map prV S)) [] i 0 (PV.agg [I (S.getD j default).fst,I (S.getD j default).snd]).cells=some (PV.own 2 (List.map prV (S.set i (S.getD j default))))∧zAE (PV.own 2 (List.map prV S)) (PV.own 2 (List.map prV (S.set i (S.getD j default)))) []=true) an)<|zAa<|zAf<|zAd 1<|S_a [(1,.v (I (↑(i+1):Int)))] (ap (wrN i) an)<|zAd 1<|zAa<|zAf<|zAd 1<|S_a [(1,.v (I (↑(j+1):Int)))] (ap (wrN j) an)<|zAd 1<|zAa ?_)) (fun k0=>(zAj<|zAf<|zAd 1<|S_a [(1,.v (I (↑(j+1):Int)))] (ap (wrN j) an)<|zAd 1<|zAa ?_))
   ·have hb:((fun x => !(decide ((zAl n).getD x.2.toNat 0≠f))) (S.getD j default))=true:=by first | assumption | (simp only [Bool.not_eq_true',decide_eq_false_iff_not];assumption)
    rw [if_pos hb] at yK
    refine ⟨(i+1,j+1,S.set i (S.getD j default)),⟨by omega,by omega,by simpa using hS,?_,fun r qo=>?_⟩,by simp only;omega,by kernel_rfl,by kernel_rfl⟩
    ·rw [yK,← ht,zLq (by omega)]
    ·rw [zNX (by omega)];exact gT r (by omega)
   ·have hb:((fun x => !(decide ((zAl n).getD x.2.toNat 0≠f))) (S.getD j default))=false:=by first | assumption | (simp only [Bool.not_eq_false',decide_eq_true_eq];assumption)
    rw [if_neg (fun h=>Bool.noConfusion (hb.symm.trans h))] at yK
    exact ⟨(i,j+1,S),⟨by omega,by omega,hS,by rw [yK,ht],fun r qo=>gT r (by omega)⟩,by simp only;omega,by kernel_rfl,by kernel_rfl⟩
  ·refine zAh<|zAc 2<|S_a [(0,.n S.length)] (ap (lnS prV S) an)<|zAd 1<|zAa<|zAT ((↑j:Int)<(↑S.length:Int)) (by omega)<|zAz 0<|zAc 2<|S_a [(3,.ob),(0,.yes),(0,.yes),(0,.v (PV.bor 0 [] 2 i (S.length-i)))] (ap ((by exact zBp (by simp only [List.length_map,zzLn,zAZ]<;>omega)):i.ble (List.map prV S).length=true)<|ap ((by exact zBp (by simp only [List.length_map,zzLn,zAZ]<;>omega)):(List.map prV S).length.ble (List.map prV S).length=true)<|ap ((by simp<;>omega):(i.beq 0||i.blt (List.map prV S).length)=true)<|ap ((by simp):PV.bor 0 [] 2 (0+i) ((List.map prV S).length-i)=PV.bor 0 [] 2 i (S.length-i)) an)<|zQW (g:=prV) (fun q=>q) 0 2 i (S.length-i) S ((0,0)) (by first | omega | (simp<;>omega)) ⟨rfl,rfl⟩ (fun _=>(by first | exact zF1 | exact ⟨rfl,rfl,rfl,rfl,Nat.le_refl _,rfl⟩)) zNm.nil (zAa<|zAc 2<|S_a [(4,.yes)] (ap ((by exact zBp (by simp<;>omega)):i.ble (List.map prV (List.take i S++List.replicate (S.length-i) (0,0)++List.drop (i+(S.length-i)) S)).length=true) an)<|zAd 1<|zAa<|zAm<|E_a [(1,.yes),(1,.v (PV.own 2 (List.map prV (List.take i (List.take i S++List.replicate (S.length-i) (0,0)++List.drop (i+(S.length-i)) S)))))] (ap ((by exact zBp (by simp<;>omega)):(0+((↑i:Int).toNat-0)).ble (List.map prV (List.take i S++List.replicate (S.length-i) (0,0)++List.drop (i+(S.length-i)) S)).length=true)<|ap ((by simp):PV.own 2 (List.take i (List.drop 0 (List.map prV (List.take i S++List.replicate (S.length-i) (0,0)++List.drop (i+(S.length-i)) S))))=PV.own 2 (List.map prV (List.take i (List.take i S++List.replicate (S.length-i) (0,0)++List.drop (i+(S.length-i)) S)))) an) (PV.own 2 (List.map prV (List.take i (List.take i S++List.replicate (S.length-i) (0,0)++List.drop (i+(S.length-i)) S)))) [] ?_ rfl)
   rw [List.take_of_length_le (Nat.le_of_not_lt jf)] at ht
   rw [← ht,List.append_assoc,List.take_append_of_le_length (by rw [List.length_take];omega),List.take_take,Nat.min_self]
def ofL (n:Nw) (f:Int) (l:List (Int×Int)):List (Int×Int):=l.filter fun x => !decide ((zAl n).getD x.2.toNat 0≠f)
theorem f135 (n:Nw) (cs l:List (Int×Int)) (f:Int) (ho:NwOk n) (hl:l.length≤1000) (hr:∀ g∈l,(0≤g.1∧g.1<n.h)∧(0≤g.2∧g.2<n.n.length)):FG 135 [zDv n cs,prs l,I f] (.own 2 ((ofL n f l).map prV)):=by
 have h1:=f122_1 n cs f ho l (by omega) fun x hx=>(hr x hx).2
 refine zAe Tryz.f135 ?_
 refine zAc 3<|zAa<|zAc 1<|S_a [(6,.ret (PV.own 2 (List.map prV l)) [])] (ap (f123 l (by omega)) an)<|zAd 1<|S_a [(3,.ob),(1,.v (PV.own 2 (List.map prV l))),(14,.ret (PV.own 2 (List.map prV (List.filter (fun x => !decide ((zAl n).getD x.snd.toNat 0≠f)) l))) []),(1,.yes)] (ap ((by exact zBp (by simp only [List.length_map,zzLn,zAZ]<;>omega)):(List.map prV l).length.ble (List.map prV l).length=true)<|ap ((zAM zAG):PV.own 2 (List.take (List.map prV l).length (List.drop 0 (List.map prV l)))=PV.own 2 (List.map prV l))<|ap h1<|ap ((by exact zEI _):(PV.own 2 (List.map prV (List.filter (fun x => !decide ((zAl n).getD x.snd.toNat 0≠f)) l))).free=true) an)<|zAd 1<|zAa<|zAm<|E_a [(1,.yes),(1,.v (PV.own 2 (List.map prV (List.filter (fun x => !decide ((zAl n).getD x.snd.toNat 0≠f)) l))))] (ap (blz (List.map prV (List.filter (fun x => !decide ((zAl n).getD x.snd.toNat 0≠f)) l)))<|ap ((zAM zAG):PV.own 2 (List.take (List.map prV (List.filter (fun x => !decide ((zAl n).getD x.snd.toNat 0≠f)) l)).length (List.drop 0 (List.map prV (List.filter (fun x => !decide ((zAl n).getD x.snd.toNat 0≠f)) l))))=PV.own 2 (List.map prV (List.filter (fun x => !decide ((zAl n).getD x.snd.toNat 0≠f)) l))) an) (PV.own 2 (List.map prV (List.filter (fun x => !decide ((zAl n).getD x.snd.toNat 0≠f)) l))) [] rfl rfl
end Go.Eng
set_option maxRecDepth 10000
set_option maxHeartbeats 4000000
namespace Go.Eng
open Go Go.Proofs
def zWq (n:Nw) (cs:List (Int×Int)) (e:Int) (st:List Int):Int:=if zDa n cs e=0 then if (!st.all fun x=>inB x 0 (n.s.length-1))=true then 1 else if st.Nodup then 0 else 5 else zDa n cs e
structure OffOk (n:Nw) (cs:List (Int×Int)) (e:Int) (st:List Int):Prop where
 err:zWq n cs e st=0
 ev:EvOk n cs e
 rng:∀ s∈st,0≤s∧s<n.s.length
 nd:st.Nodup
abbrev zYR (n:Nw) (cs:List (Int×Int)) (e:Int) (l:List (Int×Int)):PV := .func 173 [] [.ref (zDv n cs),.ref (prs l),.ref (I e)]
theorem f168_2 (n:Nw) (hb:n.s.length≤6) (x:Int):FG 168 [I x,.ref (.func 170 [nwV n] [])] (.bool (!(inB x 0 (n.s.length-1)))):=by
 refine zAe Tryz.f168 ?_
 refine zAc 1<|zAa<|zAc 2<|S_a [(8,.ret (PV.bool (inB x 0 ((↑n.s.length:Int)-1))) [])] (ap (f170 n x (by omega)) an)<|zAd 2<|zAa<|zAm<|E_a [] an (PV.bool !inB x 0 ((↑n.s.length:Int)-1)) [] rfl rfl
theorem f131_2 (n:Nw) (hb:n.s.length≤6) (l:List (Int)) (hl:l.length<4294967296):FG 131 [.sl (l.map I),.func 168 [] [.ref (.func 170 [nwV n] [])]] (I (zER (fun x => !(inB x 0 (n.s.length-1))) l)):=by
 refine zAe Tryz.f131 ?_
 refine zAc 1<|zAa<|zAh<|zAc 1<|S_a [(0,.n l.length)] (ap (lnS I l) an)<|zAd 1<|zAa<|zAi 0 ?_
 refine zAp (fun i=>i≤l.length∧∀ j,j<i→(fun x => !(inB x 0 (n.s.length-1))) (l.getD j 0)=false) (fun i=>[(8,I (i:Nat))]) (fun i=>l.length-i) (0:Nat) (by simp) fun i ⟨hi,ha⟩=>?_
 refine zAc 1<|zAa<|zAh<|zCb ((↑i:Int)<(↑l.length:Int)) (fun k0=>(zAj<|zAh<|zAi 1<|zAc 2<|zAa<|zAc 3<|S_a [(2,.v (I (l.getD i 0)))] (ap (zBG (0) (by omega):(List.map I l)[i]? = some (I (l.getD i 0))) an)<|zAd 1<|S_a [(7,.ret (PV.bool !inB (l.getD i 0) 0 ((↑n.s.length:Int)-1)) [])] (ap (f168_2 n (by omega) (l.getD i 0)) an)<|zAa<|zDr (!inB (l.getD i 0) 0 ((↑n.s.length:Int)-1)) (fun k1=>(zAc 2<|zAa<|zAm<|E_a [] an (I (↑i:Int)) [] ?_ rfl)) (fun k1=>(zAj<|zAf<|S_a [(1,.v (I (↑(i+1):Int)))] (ap (wrN i) an)<|zAd 1<|zAa ?_)))) (fun k0=>(zAz 0<|zAc 1<|zAa<|zAm<|E_a [] an (I (-1)) [] ?_ rfl))
 ·rw [zBW (i:=i) (by omega) (fun j hj=>by rw [← zAs (d:=0)];exact ha j hj) (by rw [← zAs (d:=0)];first | assumption | exact decide_eq_true ‹_› | (simp only [Bool.not_eq_true',decide_eq_false_iff_not];assumption))]
 ·refine ⟨i+1,⟨by omega,fun j hj=>?_⟩,by omega,by kernel_rfl,by kernel_rfl⟩
  rcases Nat.lt_succ_iff_lt_or_eq.1 hj with h | rfl
  ·exact ha j h
  ·first | assumption | exact decide_eq_false ‹_› | (simp only [Bool.not_eq_false',decide_eq_true_eq];first | assumption | (apply Decidable.of_not_not;assumption))
 ·rw [zCl fun j hj=>by rw [← zAs (d:=0)];exact ha j (by omega)]
theorem f52_2 (n:Nw) (hb:n.s.length≤6) (l:List (Int)) (hl:l.length<4294967296):FG 52 [.sl (l.map I),.func 168 [] [.ref (.func 170 [nwV n] [])]] (.bool (l.any (fun x => !(inB x 0 (n.s.length-1))))):=by
 refine zAe Tryz.f52 ?_
 refine zAc 1<|zAa<|zAc 2<|S_a [(7,.ret (I (zER (fun x => !inB x 0 ((↑n.s.length:Int)-1)) l)) [])] (ap (f131_2 n (by omega) l (by omega)) an)<|zAd 2<|zAa<|zAm<|E_a [] an (PV.bool (decide (zER (fun x => !inB x 0 ((↑n.s.length:Int)-1)) l≥0))) [] ?_ rfl
 rw [zD7]
theorem f108_2 (n:Nw) (hb:n.s.length≤6) (l:List (Int)) (hl:l.length<4294967296):FG 108 [.sl (l.map I),.func 170 [nwV n] []] (.bool (l.all (fun x=>inB x 0 (n.s.length-1)))):=by
 refine zAe Tryz.f108 ?_
 refine zAc 2<|zAa<|zAc 2<|S_a [(12,.ret (PV.bool (l.any fun x => !inB x 0 ((↑n.s.length:Int)-1))) [])] (ap (f52_2 n (by omega) l (by omega)) an)<|zAd 2<|zAa<|zAm<|E_a [] an (PV.bool !l.any fun x => !inB x 0 ((↑n.s.length:Int)-1)) [] ?_ rfl
 simp [List.not_any_eq_all_not]
theorem f121_1 (n:Nw) (cs:List (Int×Int)) (e:Int) (st:List Int) (ho:OffOk n cs e st) (yK:st.length<1000000):FG 121 [nwV n,prs cs,I e,zAP st] (.tup [zDv n cs,prs (zBS n (zBl n cs e.toNat)),.agg [zYR n cs e (zBS n (zBl n cs e.toNat))],I 0]):=by
 have kI:=ho.ev
 have qn:=kI.cr
 have uV:=qn.w
 have hn:=qn.nw
 have he:=kI.ev
 have hs6:=hn.sl.2
 have gi:=zCJ (n:=n) (cs:=cs) e.toNat
 have hgl:=zIV (w:=zBl n cs e.toNat) hn
 have hin:(!st.all fun x=>inB x 0 (n.s.length-1))=false:=by
  simp only [Bool.not_eq_false',List.all_eq_true]
  intro s hs;have:=ho.rng s hs
  simp only [inB,Bool.and_eq_true,decide_eq_true_eq];omega
 refine zAe Tryz.f121 ?_
 refine zAc 6<|zAa<|zAc 3<|S_a [(10,.ret (PV.tup [zDv n cs,I 0]) [])] (ap (f90_1 n cs e (by omega)) an)<|zAd 6<|zAa<|zAh<|zAi 0<|zAc 3<|zAa<|zAW<|zAc 3<|S_a [(7,.ret (PV.bool (st.all fun x=>inB x 0 ((↑n.s.length:Int)-1))) [])] (ap (f108_2 n (by omega) st (by omega)) an)<|zAd 2<|zAa<|zDr (!st.all fun x=>inB x 0 ((↑n.s.length:Int)-1)) (fun k0=>(zAc 5<|zAa<|zAm<|E_a [] an (PV.tup [PV.nilp,PV.sl [],PV.agg [PV.nilf],I 1]) [] ?_ rfl)) (fun k0=>(zAj<|zAh<|zAc 1<|S_a [(0,.n st.length)] (ap (lnS I st) an)<|zAd 1<|zAa<|zAi 1 ?_))
 ·rw [hin] at k0;cases k0
 ·refine zAp (fun i=>i≤st.length) (fun (i:Nat)=>[(38,I (i:Nat))]) (fun i=>st.length-i) (0:Nat) (by omega) fun i hi=>?_
  by_cases yG:i<st.length
  ·have kH:has (st.take i) (st.getD i 0)=false:=by
    rw [zNu,decide_eq_false_iff_not]
    intro hm
    have yU:=ho.nd
    rw [← List.take_append_drop i st,List.nodup_append] at yU
    refine yU.2.2 _ hm _ ?_ rfl
    rw [List.drop_eq_getElem_cons yG,zAs yG];exact List.mem_cons_self
   refine zAc 1<|zAa<|zAh<|zAU ((↑i:Int)<(↑st.length:Int)) (by omega)<|zAj<|zAh<|zAi 2<|zAc 1<|S_a [(2,.v (I (st.getD i 0)))] (ap (zBG (0) (by omega):(List.map I st)[i]? = some (I (st.getD i 0))) an)<|zAd 3<|zAa<|zAc 2<|S_a [(3,.ob),(0,.ob),(0,.v (zAP (List.take i st)))] (ap ((by exact zBp (by simp only [List.length_map,zzLn,zAZ]<;>omega)):i.ble (List.map I st).length=true)<|ap ((by exact all_map _):((List.map I st).all fun x=>x.cells.length.beq ((fun x=>x.size) Tryz.prog.types[3]))=true)<|ap ((by simp):PV.sl (List.take i (List.drop 0 (List.map I st)))=zAP (List.take i st)) an)<|zAd 1<|S_a [(8,.ret (PV.bool (has (List.take i st) (st.getD i 0))) [])] (ap (f58 (List.take i st) (st.getD i 0) (by first | omega | (simp<;>omega))) an)<|zAa<|zDr (has (List.take i st) (st.getD i 0)) (fun k1=>(zAc 5<|zAa<|zAm<|E_a [] an (PV.tup [PV.nilp,PV.sl [],PV.agg [PV.nilf],I 5]) [] ?_ rfl)) (fun k1=>(zAj<|zAf<|S_a [(1,.v (I (↑(i+1):Int)))] (ap (wrN i) an)<|zAd 1<|zAa ?_))
   ·rw [kH] at k1;cases k1
   ·exact ⟨i+1,by omega,by omega,by kernel_rfl,by kernel_rfl⟩
  ·refine zAc 1<|zAa<|zAh<|zAT ((↑i:Int)<(↑st.length:Int)) (by omega)<|zAz 1<|zAc 3<|S_a [(7,.ret (hdV (zBl n cs e.toNat)) [])] (ap (f92 n cs e (by omega) (by omega)) an)<|S_a [(7,.ret (PV.own 2 (List.map prV (zBS n (zBl n cs e.toNat)))) [])] (ap (f91 n cs (zBl n cs e.toNat) (by omega) (by omega)) an)<|zAd 1<|S_a [(3,.v (prs (zBS n (zBl n cs e.toNat))))] (ap ((zRK (zBL _)):PV.sl (zAD (List.map prV (zBS n (zBl n cs e.toNat))))=prs (zBS n (zBl n cs e.toNat))) an)<|zAa<|zAc 8<|zAa<|zAm<|E_a [] an (PV.tup [(PV.agg (I n.h::prs n.l::PV.sl (List.map ntV n.n)::PV.sl (List.map zAP n.s)::prs cs::PV.map (List.map zBx (List.map pr2 n.l))::(zAS (zAl n) 8++zAS (zA6 n) 8))).ref,prs (zBS n (zBl n cs e.toNat)),PV.agg [PV.func 173 [] [(PV.agg (I n.h::prs n.l::PV.sl (List.map ntV n.n)::PV.sl (List.map zAP n.s)::prs cs::PV.map (List.map zBx (List.map pr2 n.l))::(zAS (zAl n) 8++zAS (zA6 n) 8))).ref.ref,(prs (zBS n (zBl n cs e.toNat))).ref,(I e).ref]],I 0]) [] rfl rfl
theorem f173 (n:Nw) (cs l:List (Int×Int)) (e:Int) (c:Int×Int) (ho:CrW n cs) (hl:cs.length≤16) (he:0≤e∧e≤1000) (vg:l.length≤1000) (hm:∀ g∈l,(0≤g.1∧g.1<n.h)∧(0≤g.2∧g.2<n.n.length)) (hc:(0≤c.1∧c.1<n.n.length)∧(0≤c.2∧c.2<n.s.length)):FG 173 [prV c,.ref (zDv n cs),.ref (prs l),.ref (I e)] (.sl ((zIu n (zBl n (cs++[c]) e.toNat) l).map prV)):=by
 refine zAe Tryz.f173 ?_
 refine zAc 2<|zAa<|zAc 4<|S_a [(11,.ret (PV.own 2 (List.map prV (zIu n (zBl n (cs++[c]) e.toNat) l))) [])] (ap (f119 n cs l e c (by omega) (by omega) (by omega) (by omega) (by omega) (by omega)) an)<|zAd 1<|zAa<|zAm<|E_a [(1,.envv ([(4,(PV.agg [I c.fst,I c.snd]).box),(5,prs (zIu n (zBl n (cs++[c]) e.toNat) l))]) (prs (zIu n (zBl n (cs++[c]) e.toNat) l)))] (ap (And.intro (Eq.trans (by kernel_rfl:Env.frz [(4,(PV.agg [I c.fst,I c.snd]).box),(5,PV.own 2 (List.map prV (zIu n (zBl n (cs++[c]) e.toNat) l)))] 5 []=some [(4,(PV.agg [I c.fst,I c.snd]).box),(5,PV.sl (zAD (List.map prV (zIu n (zBl n (cs++[c]) e.toNat) l))))]) ((by simp only [show zAD (List.map prV (zIu n (zBl n (cs++[c]) e.toNat) l))=List.map prV (zIu n (zBl n (cs++[c]) e.toNat) l) from (by first | exact zBL _ | exact zCY _ | exact zCo _ | exact zCP (zCY _) | exact zCP (zCo _) | exact zKy (by simp [zEU]) (zBL _))]):some [(4,(PV.agg [I c.fst,I c.snd]).box),(5,PV.sl (zAD (List.map prV (zIu n (zBl n (cs++[c]) e.toNat) l))))]=some [(4,(PV.agg [I c.fst,I c.snd]).box),(5,prs (zIu n (zBl n (cs++[c]) e.toNat) l))])) (zVa (by first | exact zBL _ | exact zCY _ | exact zCo _):PV.mapW (inl 5 [] (PV.own 2 (List.map prV (zIu n (zBl n (cs++[c]) e.toNat) l)))) (PV.bor 5 [] 2 0 (List.map prV (zIu n (zBl n (cs++[c]) e.toNat) l)).length)=prs (zIu n (zBl n (cs++[c]) e.toNat) l))) an) (prs (zIu n (zBl n (cs++[c]) e.toNat) l)) [] rfl rfl
end Go.Eng
set_option maxRecDepth 10000
set_option maxHeartbeats 4000000
namespace Go.Eng
open Go Go.Proofs
def zGj (n:Nw) (cs:List (Int×Int)):Bool:=decide ((n.l.length:Int)>20)||(decide ((n.n.length:Int)>12)||(decide ((n.s.length:Int)>10)||(decide ((cs.length:Int)>24)||n.s.any fun l=>decide ((l.length:Int)>14))))
theorem f16 (n:Nw) (cs:List (Int×Int)):FG 16 [nwV n,prs cs] (.bool (zGj n cs)):=by
 refine zAe Tryz.f16 ?_
 refine zAc 2<|zAa<|zAh<|zAc 2<|S_a [(0,.n n.l.length)] (ap (lnS prV n.l) an)<|zAd 2<|zET 11 ((↑n.l.length:Int)>20) (fun k0=>(zAd 16<|zAa<|zBR<|zAc 1<|zAa<|zAm<|E_a [] an (PV.bool true) [] ?_ rfl)) (fun k0=>(zAd 2<|S_a [(0,.n n.n.length)] (ap (lnS ntV n.n) an)<|zAd 3<|zET 17 ((↑n.n.length:Int)>12) (fun k1=>(zAd 10<|zAa<|zBR<|zAc 1<|zAa<|zAm<|E_a [] an (PV.bool true) [] ?_ rfl)) (fun k1=>(zAd 2<|S_a [(0,.n n.s.length)] (ap (lnS zAP n.s) an)<|zAd 3<|zET 23 ((↑n.s.length:Int)>10) (fun k2=>(zAd 4<|zAa<|zBR<|zAc 1<|zAa<|zAm<|E_a [] an (PV.bool true) [] ?_ rfl)) (fun k2=>(zAd 1<|S_a [(0,.n cs.length)] (ap (lnS prV cs) an)<|zAd 2<|zAa<|zCb ((↑cs.length:Int)>24) (fun k3=>(zAc 1<|zAa<|zAm<|E_a [] an (PV.bool true) [] ?_ rfl)) (fun k3=>(zAj<|zAh<|zAc 2<|S_a [(0,.n n.s.length)] (ap (lnS zAP n.s) an)<|zAd 1<|zAa<|zAi 0 ?_))))))))
 ·simp only [zGj,decide_eq_true k0,Bool.true_or]
 ·simp only [zGj,decide_eq_true k1,Bool.true_or,Bool.or_true]
 ·simp only [zGj,decide_eq_true k2,Bool.true_or,Bool.or_true]
 ·simp only [zGj,decide_eq_true k3,Bool.true_or,Bool.or_true]
 have e:zGj n cs=n.s.any fun l=>decide ((l.length:Int)>14):=by
  simp only [zGj,decide_eq_false k0,decide_eq_false k1,decide_eq_false k2,decide_eq_false k3,Bool.false_or]
 rw [e]
 refine zAp (fun i=>i≤n.s.length∧∀ j,j<i→decide (((n.s.getD j []).length:Int)>14)=false) (fun (i:Nat)=>[(31,I (i:Nat))]) (fun i=>n.s.length-i) (0:Nat) ⟨Nat.zero_le _,fun j hj=>absurd hj (Nat.not_lt_zero j)⟩ fun i ⟨hi,ha⟩=>?_
 by_cases yG:i<n.s.length
 ·have wP:decide (((n.s.getD i []).length:Int)>14)=true→(n.s.any fun l=>decide ((l.length:Int)>14))=true:=fun h=>by
   rw [zAs yG] at h
   exact List.any_eq_true.2 ⟨_,List.getElem_mem yG,h⟩
  have jd:decide (((n.s.getD i []).length:Int)>14)=false→∀ j,j<i+1→decide (((n.s.getD j []).length:Int)>14)=false:=fun h j hj=>by
   rcases Nat.lt_succ_iff_lt_or_eq.1 hj with h2 | rfl
   ·exact ha j h2
   ·exact h
  clear ha
  refine zAc 1<|zAa<|zAh<|zAU ((↑i:Int)<(↑n.s.length:Int)) (by omega)<|zAj<|zAh<|zAi 1<|zAh<|zAf<|S_a [(2,.v (zAP (n.s.getD i [])))] (ap (zBG [] (by omega):(List.map zAP n.s)[i]? = some (zAP (n.s.getD i []))) an)<|zAd 2<|zAa<|zAc 1<|S_a [(0,.n ((n.s.getD i []).length))] (ap (lnS I (n.s.getD i [])) an)<|zAd 1<|zAa<|zCb ((↑(n.s.getD i []).length:Int)>14) (fun k4=>(zAc 1<|zAa<|zAm<|E_a [] an (PV.bool true) [] ?_ rfl)) (fun k4=>(zAj<|zAf<|S_a [(1,.v (I (↑(i+1):Int)))] (ap (wrN i) an)<|zAd 1<|zAa ?_))
  ·rw [wP (decide_eq_true k4)]
  ·exact ⟨i+1,⟨by omega,jd (decide_eq_false k4)⟩,by omega,by kernel_rfl,by kernel_rfl⟩
 ·have hx:(n.s.any fun l=>decide ((l.length:Int)>14))=false:=by
   rw [List.any_eq_false]
   intro x hx
   obtain ⟨j,hj,rfl⟩:=List.getElem_of_mem hx
   have:=ha j (by omega)
   rw [zAs hj] at this
   rw [this];simp
  rw [hx]
  clear ha
  refine zAc 1<|zAa<|zAh<|zAT ((↑i:Int)<(↑n.s.length:Int)) (by omega)<|zAz 0<|zAc 1<|zAa<|zAm<|E_a [] an (PV.bool false) [] rfl rfl
theorem f18 (n:Nw) (hs:Small n):FG 18 [nwV n] (nwO n):=by
 have h1:=hs.hl
 have h2:=hs.hn
 have h3:=hs.hs
 have h4:=hs.hr
 refine zAe Tryz.f18 ?_
 refine zAc 2<|zAa<|zAc 4<|S_a [(6,.ret (PV.own 2 (List.map prV n.l)) [])] (ap (f87 n.l (by omega)) an)<|zAd 2<|S_a [(6,.ret (PV.own 2 (List.map ntV n.n)) [])] (ap (f88 n.n (by omega)) an)<|zAd 2<|S_a [(6,.ret (PV.own 1 (List.map zEg n.s)) [])] (ap (f89 n.s (by omega) (by omega)) an)<|zAd 2<|zAa<|zAm<|E_a [(4,.yes),(1,.v (PV.own 2 (List.map prV n.l))),(1,.yes),(1,.v (PV.own 2 (List.map ntV n.n))),(1,.yes),(1,.v (PV.own 1 (List.map zEg n.s)))] (ap (blz (List.map prV n.l))<|ap ((zAM zAG):PV.own 2 (List.take (List.map prV n.l).length (List.drop 0 (List.map prV n.l)))=PV.own 2 (List.map prV n.l))<|ap (blz (List.map ntV n.n))<|ap ((zAM zAG):PV.own 2 (List.take (List.map ntV n.n).length (List.drop 0 (List.map ntV n.n)))=PV.own 2 (List.map ntV n.n))<|ap (blz (List.map zEg n.s))<|ap ((zAM zAG):PV.own 1 (List.take (List.map zEg n.s).length (List.drop 0 (List.map zEg n.s)))=PV.own 1 (List.map zEg n.s)) an) (PV.agg [I n.h,PV.own 2 (List.map prV n.l),PV.own 2 (List.map ntV n.n),PV.own 1 (List.map zEg n.s)]) [] rfl rfl
theorem f33 (a:Nw) (hs:Small a):FG 33 [nwV a,nwV a] (.bool true):=by
 have h1:=hs.hl
 have h2:=hs.hn
 have h3:=hs.hs
 have h4:=hs.hr
 refine zAe Tryz.f33 ?_
 refine zAc 3<|zAa<|zAc 6<|zJv 10 (a.h=a.h) (by omega) (zAd 4<|S_a [(8,.ret (PV.bool (decide (a.l=a.l))) [])] (ap (f103 a.l a.l (by omega)) an)<|zAd 2<|zJv 17 (a.l=a.l) (by (simp;done)) (zAd 4<|S_a [(8,.ret (PV.bool (decide (a.n=a.n))) [])] (ap (f104 a.n a.n (by omega)) an)<|zAd 2<|zJv 24 (a.n=a.n) (by (simp;done)) (zAd 4<|S_a [(8,.ret (PV.bool (decide (a.s=a.s))) [])] (ap (f62 a.s a.s (by omega) ?_) an)<|zAd 2<|zAa<|zAm<|E_a [] an (PV.bool (decide (a.s=a.s))) [] (by simp [*]) rfl)))
 exact fun r hr=>by have:=h4 r hr;omega
theorem f19 (n:Nw) (hs:Small n):FG 19 [nwV n] (nwO n):=by
 have h1:=hs.hl
 have h2:=hs.hn
 have h3:=hs.hs
 have h4:=hs.hr
 refine zAe Tryz.f19 ?_
 refine zAc 2<|zAa<|zAc 4<|S_a [(6,.ret (PV.own 2 (List.map prV n.l)) [])] (ap (f87 n.l (by omega)) an)<|zAd 2<|S_a [(6,.ret (PV.own 1 (List.map zEg n.s)) [])] (ap (f89 n.s (by omega) (by omega)) an)<|zAd 3<|zAa<|zAh<|zAc 2<|S_a [(0,.n n.n.length)] (ap (lnS ntV n.n) an)<|zAd 1<|zAa<|zAi 0 ?_
 refine zAp (fun (i,q)=>i≤n.n.length∧q=n.n.take i) (fun (i,q)=>[(3,.box (.agg [I n.h,.own 2 (n.l.map prV),.own 2 (q.map ntV),.own 1 (n.s.map zEg)])),(18,I (i:Nat))]) (fun (i,_)=>n.n.length-i) ((0:Nat),([]:List (Int×Bool))) ⟨Nat.zero_le _,rfl⟩ fun (i,q) ⟨hi,hq⟩=>?_
 have ue:q.length≤i:=by rw [hq,List.length_take];omega
 by_cases yG:i<n.n.length
 ·have yq:=zBP (d:=default) yG
  rw [← hq] at yq
  clear hq
  refine zAc 1<|zAa<|zAh<|zAU ((↑i:Int)<(↑n.n.length:Int)) (by omega)<|zAj<|zAh<|zAi 1<|zAh<|zAf<|S_a [(2,.v (PV.agg [I (n.n.getD i default).fst,PV.bool (n.n.getD i default).snd]))] (ap (zBG default (by omega):(List.map ntV n.n)[i]? = some (PV.agg [I (n.n.getD i default).fst,PV.bool (n.n.getD i default).snd])) an)<|zAd 3<|zAa<|zAf<|zAd 1<|S_a [(1,.v (PV.bor 3 [(0,2)] 2 0 q.length))] (ap ((by simp):PV.bor 3 [(0,2)] 2 0 (List.map ntV q).length=PV.bor 3 [(0,2)] 2 0 q.length) an)<|zAd 2<|S_a [(4,.ob),(0,.ob),(0,.yes),(2,.v (PV.own 2 (List.map ntV (q++[n.n.getD i default]))))] (ap ((by exact zBp (by simp only [List.length_map,zzLn,zAZ]<;>omega)):(0+q.length).ble (List.map ntV q).length=true)<|ap ((by exact zBp (by simp only [List.length_map,zzLn,zAZ]<;>omega)):((List.map ntV q).length + [PV.agg [I (n.n.getD i default).fst,PV.bool (n.n.getD i default).snd]].length).ble zAZ=true)<|ap ((by exact zBs (by simp<;>omega)):(0+q.length).beq (List.map ntV q).length=true)<|ap ((zAM (zCh (by kernel_rfl))):PV.own 2 (List.map ntV q++[PV.agg [I (n.n.getD i default).fst,PV.bool (n.n.getD i default).snd]])=PV.own 2 (List.map ntV (q++[n.n.getD i default]))) an)<|zAd 2<|zAa<|zAf<|S_a [(1,.v (I (↑(i+1):Int)))] (ap (wrN i) an)<|zAd 1<|zAa ?_
  exact ⟨(i+1,q++[n.n.getD i default]),⟨by omega,yq.symm⟩,by simp only;omega,by kernel_rfl,by kernel_rfl⟩
 ·have vG:q=n.n:=by rw [hq,List.take_of_length_le (by omega)]
  clear hq
  subst vG
  refine zAc 1<|zAa<|zAh<|zAT ((↑i:Int)<(↑n.n.length:Int)) (by omega)<|zAz 0<|zAc 1<|S_a [(4,.yes),(2,.yes),(2,.yes)] (ap ((by exact zBs (by simp<;>omega)):(Nat.beq 0 0&&(List.map prV n.l).length.beq (List.map prV n.l).length)=true)<|ap ((by exact zBs (by simp<;>omega)):(Nat.beq 0 0&&(List.map ntV n.n).length.beq (List.map ntV n.n).length)=true)<|ap ((by exact zBs (by simp<;>omega)):(Nat.beq 0 0&&(List.map zEg n.s).length.beq (List.map zEg n.s).length)=true) an)<|zAa<|zAm<|E_a [(4,.yes),(1,.v (PV.own 2 (List.map prV n.l))),(1,.yes),(1,.v (PV.own 2 (List.map ntV n.n))),(1,.yes),(1,.v (PV.own 1 (List.map zEg n.s)))] (ap (blz (List.map prV n.l))<|ap ((zAM zAG):PV.own 2 (List.take (List.map prV n.l).length (List.drop 0 (List.map prV n.l)))=PV.own 2 (List.map prV n.l))<|ap (blz (List.map ntV n.n))<|ap ((zAM zAG):PV.own 2 (List.take (List.map ntV n.n).length (List.drop 0 (List.map ntV n.n)))=PV.own 2 (List.map ntV n.n))<|ap (blz (List.map zEg n.s))<|ap ((zAM zAG):PV.own 1 (List.take (List.map zEg n.s).length (List.drop 0 (List.map zEg n.s)))=PV.own 1 (List.map zEg n.s)) an) (PV.agg [I n.h,PV.own 2 (List.map prV n.l),PV.own 2 (List.map ntV n.n),PV.own 1 (List.map zEg n.s)]) [] rfl rfl
theorem f21 (l:List (Int×Int)) (hl:l.length<1000000):FG 21 [prs l] (.own 2 (l.map prV)):=by
 refine zAe Tryz.f21 ?_
 refine zAc 1<|zAa<|zAc 1<|zAa<|zAh<|zAc 1<|S_a [(0,.n l.length)] (ap (lnS prV l) an)<|zAd 1<|zAa<|zAi 0 ?_
 refine zAp (fun (i,q)=>i≤l.length∧q=l.take i) (fun (i,q)=>[(3,.own 2 (q.map prV)),(8,I (i:Nat))]) (fun (i,_)=>l.length-i) ((0:Nat),([]:List (Int×Int))) ⟨Nat.zero_le _,rfl⟩ fun (i,q) ⟨hi,hq⟩=>?_
 have ue:q.length≤i:=by rw [hq,List.length_take];omega
 by_cases yG:i<l.length
 ·have yq:=zBP (d:=default) yG
  rw [← hq] at yq
  clear hq
  refine zAc 1<|zAa<|zAh<|zAU ((↑i:Int)<(↑l.length:Int)) (by omega)<|zAj<|zAh<|zAi 1<|zAh<|zAf<|S_a [(2,.v (PV.agg [I (l.getD i default).fst,I (l.getD i default).snd]))] (ap (zBG default (by omega):(List.map prV l)[i]? = some (PV.agg [I (l.getD i default).fst,I (l.getD i default).snd])) an)<|zAd 3<|zAa<|zAf<|zAd 3<|S_a [(4,.ob),(0,.ob),(0,.yes),(2,.v (PV.own 2 (List.map prV (q++[l.getD i default]))))] (ap (blz (List.map prV q))<|ap ((by exact zBp (by simp only [List.length_map,zzLn,zAZ]<;>omega)):((List.map prV q).length + [PV.agg [I (l.getD i default).fst,I (l.getD i default).snd]].length).ble zAZ=true)<|ap ((by exact zBs (by simp<;>omega)):(0+(List.map prV q).length).beq (List.map prV q).length=true)<|ap ((zAM (zCh (by kernel_rfl))):PV.own 2 (List.map prV q++[PV.agg [I (l.getD i default).fst,I (l.getD i default).snd]])=PV.own 2 (List.map prV (q++[l.getD i default]))) an)<|zAd 1<|zAa<|zAf<|S_a [(1,.v (I (↑(i+1):Int)))] (ap (wrN i) an)<|zAd 1<|zAa ?_
  exact ⟨(i+1,q++[l.getD i default]),⟨by omega,yq.symm⟩,by simp only;omega,by kernel_rfl,by kernel_rfl⟩
 ·rw [List.take_of_length_le (by omega)] at hq
  rw [← hq]
  clear hq
  refine zAc 1<|zAa<|zAh<|zAT ((↑i:Int)<(↑q.length:Int)) (by omega)<|zAz 0<|zAc 1<|S_a [(2,.yes)] (ap ((by exact zBs (by simp<;>omega)):(Nat.beq 0 0&&(List.map prV q).length.beq (List.map prV q).length)=true) an)<|zAa<|zAm<|E_a [(1,.yes),(1,.v (PV.own 2 (List.map prV q)))] (ap (blz (List.map prV q))<|ap ((zAM zAG):PV.own 2 (List.take (List.map prV q).length (List.drop 0 (List.map prV q)))=PV.own 2 (List.map prV q)) an) (PV.own 2 (List.map prV q)) [] rfl rfl
end Go.Eng
set_option maxRecDepth 100000
set_option maxHeartbeats 4000000
namespace Go.Eng
open Go Go.Proofs
def zDT:Nw:=⟨4,[(0,1),(1,2),(2,3)],[(-1,false),(0,true)],[[0],[0,3]]⟩
def zFn:List (Int×Int):=[(0,1),(1,0)]
def zIK:List (Int×Int):=[(2,0),(3,0)]
theorem zUf:NwOk zDT:=zSJ (by decide +kernel)
theorem zJ6:CrOk zDT zFn:=zTV (by decide +kernel)
theorem zPa:zBS zDT (zBl zDT zFn (1:Int).toNat)=zIK:=by decide +kernel
theorem zU6:OffOk zDT zFn 1 [0,1]:=⟨by decide +kernel,zTg (by decide +kernel),by decide,by decide⟩
theorem zXh:zIu zDT (zBl zDT (zFn++[(1,0)]) (1:Int).toNat) zIK=[]:=by decide +kernel
theorem zWc:zIu zDT (zBl zDT (zFn++[(1,1)]) (1:Int).toNat) zIK=zIK:=by decide +kernel
def zZA:List (PV×PV):=[(.agg [I 1,I 0],.sl []),(.agg [I 1,I 1],.sl (zIK.map prV))]
abbrev zSd:List PV:=[.addr 50000000 [] 0 0 none,.addr 50000001 [] 0 0 none,.addr 50000002 [] 0 0 none,.addr 50000003 [] 0 0 none,.addr 50000004 [] 0 0 none]
abbrev zQX (b:Bool) (l:List PV):List PV:=[.box (.bool b),.box (.own 2 l),.box (.own 2 [prV (1,0),prV (1,1)]),.box (.omap [(prV (1,0),.sl []),(prV (1,1),prs zIK)]),.box (.func 187 [] zSd)]
theorem zQc:zC4 Tryz.prog zJW 187 (.nils 0::prs zIK::zSd) (zQX false []) (.tup []) (zQX true [prV (1,1)]):=zC4.closed 60
theorem zQN:FG 134 [zDv zDT zFn,.agg [zYR zDT zFn 1 zIK],prs zIK,I 0,zAP [0,1]] (.tup [.own 2 [.agg [I 1,I 1]],.bool true]):=by
 have h0:FG 173 [.agg [I 1,I 0],.ref (zDv zDT zFn),.ref (prs zIK),.ref (I 1)] (.sl []):=by
  have:=f173 zDT zFn zIK 1 (1,0) zJ6.w (by decide) (by decide) (by decide) (by decide) (by decide)
  rw [zXh] at this;exact this
 have h1:FG 173 [.agg [I 1,I 1],.ref (zDv zDT zFn),.ref (prs zIK),.ref (I 1)] (.sl (zIK.map prV)):=by
  have:=f173 zDT zFn zIK 1 (1,1) zJ6.w (by decide) (by decide) (by decide) (by decide) (by decide)
  rw [zWc] at this;exact this
 refine zAe Tryz.f134 ?_
 refine zAc 3<|zAa<|zAc 3<|zAa<|zAc 1<|zAa<|zAh<|zAc 1<|zAd 1<|zAd 1<|zAa<|zAi 0 ?_
 refine zAp (fun j=>j≤2) (fun (j:Nat)=>[(12,.box (.omap (zZA.take j))),(13,.box (.own 2 (([(1,0),(1,1)]:List (Int×Int)).take j |>.map prV))),(23,I (j:Nat))]) (fun j=>2-j) (0:Nat) (by omega) fun j hj=>?_
 have hj3:j=0∨j=1∨j=2:=by omega
 rcases hj3 with e | e | e
 ·subst e
  refine zAc 1<|zAa<|zAh<|zBR<|zAj<|zAh<|zAi 1<|zAc 3<|zAa<|zAc 10<|zAa<|zAf<|zAd 2<|zAd 1<|zAd 6<|S_a [(9,.ret (PV.sl []) [])] (ap h0 an)<|zAd 4<|zAa<|zAf<|zAd 2<|zAa ?_
  exact ⟨1,by omega,by omega,by kernel_rfl,by kernel_rfl⟩
 ·subst e
  refine zAc 1<|zAa<|zAh<|zBR<|zAj<|zAh<|zAi 1<|zAc 3<|zAa<|zAc 10<|zAa<|zAf<|zAd 2<|zAd 1<|zAd 6<|S_a [(9,.ret (prs zIK) [])] (ap h1 an)<|zAd 4<|zAa<|zAf<|zAd 2<|zAa ?_
  exact ⟨2,by omega,by omega,by kernel_rfl,by kernel_rfl⟩
 ·subst e
  have ya:=zQc
  refine zAc 1<|zAa<|zAh<|zAW<|zAz 0<|zAc 1<|zAa<|zAc 2<|zAa<|zAc 1<|zAa<|zAc 2<|zAa<|zAc 2<|S_a [(8,.ret (PV.tup []) (zQX true [prV (1,1)]))] (ap ya an)<|zAa<|zAc 1<|zAd 1<|zAd 1<|zAd 1<|zAa<|zAm<|E_a [] an (PV.tup [PV.own 2 [PV.agg [I (1,1).fst,I (1,1).snd]],PV.bool true]) [] rfl rfl
theorem zP4:FG 57 [nwV zDT,prs zFn,I 1,zAP [0,1]] (.tup [.own 2 [.agg [I 1,I 1]],I 0]):=by
 have ho:=f121_1 zDT zFn 1 [0,1] zU6 (by decide)
 rw [zPa] at ho
 have gx:FG 135 [zDv zDT zFn,prs zIK,I 0] (.own 2 (zIK.map prV)):=by
  have:=f135 zDT zFn zIK 0 zUf (by decide) (by decide)
  rwa [show ofL zDT 0 zIK=zIK from by decide +kernel] at this
 have hc:=zQN
 refine zAe Tryz.f57 ?_
 refine zAc 3<|zAa<|zAc 4<|S_a [(12,.ret (PV.tup [zDv zDT zFn,prs zIK,PV.agg [zYR zDT zFn 1 zIK],I 0]) [])] (ap ho an)<|zAd 10<|zAa<|zAh<|zAc 2<|zAa<|zAW<|zAj<|zAc 1<|zAa<|zAh<|zAc 2<|zAd 1<|zAd 1<|zAa<|zAi 0 ?_
 refine zAp (fun j=>j≤2) (fun (j:Nat)=>[(14,.own 2 (([(1,1)]:List (Int×Int)).take j |>.map prV)),(34,I (j:Nat))]) (fun j=>2-j) (0:Nat) (by omega) fun j hj=>?_
 have hj3:j=0∨j=1∨j=2:=by omega
 rcases hj3 with e | e | e
 ·subst e
  refine zAc 1<|zAa<|zAh<|zBR<|zAj<|zAh<|zAi 1<|zAc 2<|zAa<|zAh<|zAc 8<|zAa<|zAW<|zAj<|zAc 5<|S_a [(9,.ret (PV.own 2 (List.map prV zIK)) [])] (ap gx an)<|zAd 2<|S_a [(14,.ret (PV.tup [PV.own 2 [PV.agg [I 1,I 1]],PV.bool true]) [])] (ap hc an)<|zAd 5<|zAa<|zAh<|zAc 2<|zAa<|zAW<|zAj<|zAf<|zAd 4<|zAa<|zAf<|zAd 2<|zAa ?_
  exact ⟨1,by omega,by omega,by kernel_rfl,by kernel_rfl⟩
 ·subst e
  refine zAc 1<|zAa<|zAh<|zBR<|zAj<|zAh<|zAi 1<|zAc 2<|zAa<|zAh<|zAc 8<|zAa<|zBR<|zAz 1<|zAf<|zAd 2<|zAa ?_
  exact ⟨2,by omega,by omega,by kernel_rfl,by kernel_rfl⟩
 ·subst e
  refine zAc 1<|zAa<|zAh<|zAW<|zAz 0<|zAc 3<|zAa<|zAm<|E_a [] an (PV.tup [PV.own 2 [PV.agg [I (1,1).fst,I (1,1).snd]],I 0]) [] rfl rfl
end Go.Eng
